/- Walks of package desk: a script. Printed by mk_tc.py. -/
import Derived.Test.YtnmkdiagbkkmaabGreatDoorQ05
import Derived.Test.YtnmkdiagbkkmaabGreatDoorProg
import Derived.Test.YtnmkdiagbkkmaabGreatDoorRows
import Derived.Lib.LaidTab
import Derived.Stop.LaidErr
import Derived.MakeChecks
import Derived.Shelf.Vars
import Derived.Handed
import Derived.HandedShaped
import Derived.Lay
set_option linter.unusedSimpArgs false
set_option linter.unusedVariables false
set_option linter.unusedSectionVars false
namespace Go.Dk
open Go Go.Eng Go.RowKit Go.Pw1 Go.Hp
section
variable {c:Cd} {s:Str}
theorem CF8 (h:131072 < s.length):runX c s=([],3):=by unfold runX;rw [if_pos h]
variable (hl:¬ 131072 < s.length)
include hl
theorem CF9 (h1:s ≠ []) (h:Lib.hasSuffix s [10]=false):runX c s=([],8):=by
  unfold runX;rw [if_neg hl,if_pos ⟨h1,fun h2=>by rw [(Ar1 s).2 h2] at h;cases h⟩]
theorem CU9 (h:s=[]∨s.getLast? = some 10) (hc:cardIs c=false):runX c s=([],1):=by
  unfold runX;rw [if_neg hl,if_neg (fun h2=>h.elim h2.1 h2.2),if_neg (by show ¬ cardIs c=true;rw [hc];decide)]
theorem Dh5 (h:s=[]∨s.getLast? = some 10) (hc:cardIs c=true):runX c s=((runL (bareC c) noBn ((linesL s).map trimL)).2,0):=by
  unfold runX;rw [if_neg hl,if_neg (fun h2=>h.elim h2.1 h2.2),if_pos (by exact hc),Cp3 h]
end
theorem Cw6 {s:Str} (h:¬ (s ≠ []∧Lib.hasSuffix s [10]=false)):s=[]∨s.getLast? = some 10:=by
  by_cases h0:s=[]
  · exact .inl h0
  · exact .inr ((Ar1 s).1 (by cases e:Lib.hasSuffix s [10] with
      | true=>rfl
      | false=>exact absurd ⟨h0,e⟩ h))
abbrev RuX:=DkX×Value×Eng.Own×Str
structure RuOk (c:Cd) (b7:Nat) (pre:List Str) (x:RuX):Prop where
  d:DkOk x.1
  p:BuP b7 x.2.1
  o:OwnOk 1 x.2.2.1 x.2.2.2.length (byc x.2.2.2)
  e:x.2.2.1=none∨x.2.2.2 ≠ []
  r:runL (bareC c) noBn (pre.map trimL)=(x.1.pl,x.2.2.2)
  n:x.2.2.2.length≤4001 * pre.length
theorem Di2 {x:Eng.Own} {l:Str} {xs:List Value} (ho:OwnOk 1 x l.length xs) (h:x=none∨l ≠ []):ownQ x=none∨ownC x ≠ 0:=by
  match x,h,ho with
  | none,_,_=>exact .inl rfl
  | some (b,c,r),h,ho =>
    refine .inr ?_;have h1:=List.length_pos_iff.2 (h.resolve_left (by simp));have h2:=(ho.cap b c r rfl).1
    show c ≠ 0
    omega
theorem CU8 (c:Cd) {d d':DkX} {l:List Str} {v:Str} {t r:Str} {e:Int} (h:runL c noBn l=(d.pl,t)) (hz:(d'.pl,r,e)=stepX c d.pl v):runL c noBn (l++[v])=(d'.pl,t++(echoX r e++[10])):=by
  rw [Bw3,h];dsimp only;rw [← hz]
end Go.Dk
namespace Go.Proofs.YtnmkdiagbkkmaabGreatDoor
open Go Go.Eng Go.Dk Go.RowKit Go.Pw1 Go.Hp

theorem BO2 (s:Str) (W:World):Calls Tryz.prog 51 #[.string (bs s)] W (News (fun b:Nat=>.func (.func 102) #[] #[pV b]) (fun b=>[(b,strO s)]) W):=by
  refine Aa0 Tryz.func51 rfl rfl ?_;refine st ?_;refine zn (New.box rfl) (fun b1=>?_)
  exact RunE.ret (chg:=[]) (.r1 rfl (.tmp rfl)) (fun _ hm=>⟨b1,rfl,hm.pick (.cons .here rfl .nil)⟩)
theorem CN7 (c:Cd) (q:Option Addr) (b o cap:Nat) (s:Str) (W:World) (h:131072 < s.length):Calls Tryz.prog 23 #[c.v q cap,.string (bs s)] W (Pure (.tuple #[.string (bs (runX c s).1),.int .i64 (runX c s).2]) W):=by
  rw [CF8 h];refine Aa0 Tryz.func23 rfl rfl ?_;refine st ?_;refine zn (New.box rfl) (fun b2=>?_)
  refine lv (Ah4 rfl Ao7) ?_;refine RunC.cond rfl ?_ (fun h=>absurd h (by simp;omega))
  intro c0;clear c0;refine su ?_;exact Aa5 (.r2 rfl (.tmp rfl) (.tmp rfl)) (by first | rfl | simp)
theorem CN8 (c:Cd) (q:Option Addr) (b o cap:Nat) (s:Str) (W:World) (hl:¬ 131072 < s.length) (h1:s ≠ []) (hf:Lib.hasSuffix s [10]=false):Calls Tryz.prog 23 #[c.v q cap,.string (bs s)] W (Pure (.tuple #[.string (bs (runX c s).1),.int .i64 (runX c s).2]) W):=by
  rw [CF9 hl h1 hf];refine Aa0 Tryz.func23 rfl rfl ?_;refine st ?_;refine zn (New.box rfl) (fun b2=>?_)
  refine lv (Ah4 rfl Ao7) ?_;refine RunC.cond rfl (fun h=>absurd h (by simp;omega)) ?_;intro c0;clear c0;refine st ?_;refine lv (Aw4 rfl rfl) ?_
  refine Ab3 (dj:=18) (dp:=22) 4 rfl (fun g18=>by
    have g18':=g18;try simp only [nH] at g18'
    refine st ?_;refine Ab9 (zF rfl Cu0) rfl rfl rfl (fun w hm=>(Ax7 s [10] (by omega) w)) ?_;refine sv ?_;exact zs g18
  ) (fun g18=>by
    have g18':=g18;try simp only [nH] at g18'
    iterate 3 refine Ac0 rfl rfl rfl ?_
    refine sv ?_;exact zs g18
  ) ?_
  refine st ?_;refine RunC.cond rfl ?_ (fun h=>absurd h (by simp [hf,h1]))
  intro c1;clear c1;refine su ?_;exact Aa5 (.r2 rfl (.tmp rfl) (.tmp rfl)) (by first | rfl | simp)
theorem De3 (c:Cd) (q:Option Addr) (b o cap:Nat) (s:Str) (W:World) (hS:Sl W q b o 9 (c.p.things.map Th.cells)) (hq:q=none→cap=0) (hl:c.p.things.length≤1000) (hL:Lw Tryz.prog W) (hs0:¬ 131072 < s.length) (h:s=[]∨s.getLast? = some 10) (hc:cardIs c=false):Calls Tryz.prog 23 #[c.v q cap,.string (bs s)] W (Pure (.tuple #[.string (bs (runX c s).1),.int .i64 (runX c s).2]) W):=by
  rw [CU9 hs0 h hc];have hsx:s ≠ []→Lib.hasSuffix s [10]=true:=fun h1=>(Ar1 s).2 (h.resolve_left h1)
  refine Aa0 Tryz.func23 rfl rfl ?_;refine st ?_;refine zn (New.box rfl) (fun b2=>?_)
  refine lv (Ah4 rfl Ao7) ?_;refine RunC.cond rfl (fun h=>absurd h (by simp;omega)) ?_;intro c0;clear c0;refine st ?_;refine lv (Aw4 rfl rfl) ?_
  refine Ab3 (dj:=18) (dp:=22) 4 rfl (fun g18=>by
    have g18':=g18;try simp only [nH] at g18'
    refine st ?_;refine Ab9 (zF rfl Cu0) rfl rfl rfl (fun w hm=>(Ax7 s [10] (by omega) w)) ?_;refine sv ?_;exact zs g18
  ) (fun g18=>by
    have g18':=g18;try simp only [nH] at g18'
    iterate 3 refine Ac0 rfl rfl rfl ?_
    refine sv ?_;exact zs g18
  ) ?_
  refine st ?_;refine RunC.cond rfl (fun h=>absurd h (by simp;exact hsx)) ?_;intro c1;clear c1;refine su ?_;refine zc (zF rfl BT5) (fun w hm=>(CS2 c q b o cap w (hS.mono (by decide) hm (by simp)) hq hl hc)) ?_;refine zn (New.alloc Ce6) (fun b6=>?_)
  refine Ab1 (Sto.store rfl rfl .here BW3 rfl rfl) rfl rfl ?_;refine st ?_;refine RunC.cond rfl ?_ (fun h=>absurd h (by simp))
  intro c2;clear c2;refine su ?_;exact Aa5 (.r2 rfl (.tmp rfl) (.tmp rfl)) (by first | rfl | simp)
set_option maxHeartbeats 2000000 in
theorem Dq1 (c:Cd) (q:Option Addr) (b o cap:Nat) (s:Str) (W:World) (hS:Sl W q b o 9 (c.p.things.map Th.cells)) (hq:q=none→cap=0) (hl:c.p.things.length≤1000) (hL:Lw Tryz.prog W) (hsl:s.length≤100000) (h:s=[]∨s.getLast? = some 10) (hc:cardIs c=true):Calls Tryz.prog 23 #[c.v q cap,.string (bs s)] W (Pure (.tuple #[.string (bs (runX c s).1),.int .i64 (runX c s).2]) W):=by
  rw [Dh5 (by omega) h hc];have hsx:s ≠ []→Lib.hasSuffix s [10]=true:=fun h1=>(Ar1 s).2 (h.resolve_left h1)
  have hll:=Bk1 s;refine AF0 (Mem.refl W) Tryz.func23 rfl rfl ?_;refine RunCF.seq ?_;refine Ak9 ?_;refine st ?_;refine zn (New.box rfl) (fun b2=>?_)
  refine RunEF.next ?_;refine RunCF.seq ?_;refine RunCF.block ?_;refine RunCF.seq ?_;refine Ak9 ?_;refine st ?_;refine lv (Ah4 rfl Ao7) ?_;refine RunEF.next ?_;refine Ak9 ?_;refine RunC.cond rfl (fun h=>absurd h (by simp;omega)) ?_;intro c0;clear c0;refine st ?_;refine lv (Aw4 rfl rfl) ?_
  refine Ab3 (dj:=18) (dp:=22) 4 rfl (fun g18=>by
    have g18':=g18;try simp only [nH] at g18'
    refine st ?_;refine Ab9 (zF rfl Cu0) rfl rfl rfl (fun w hm=>(Ax7 s [10] (by omega) w)) ?_;refine sv ?_;exact zs g18
  ) (fun g18=>by
    have g18':=g18;try simp only [nH] at g18'
    iterate 3 refine Ac0 rfl rfl rfl ?_
    refine sv ?_;exact zs g18
  ) ?_
  refine st ?_;refine RunC.cond rfl (fun h=>absurd h (by simp;exact hsx)) ?_;intro c1;clear c1;refine st ?_;refine RunEF.next ?_;refine RunCF.seq ?_;refine Ak9 ?_;refine su ?_;refine Ag4 (zF rfl BT5) rfl rfl rfl (fun w hm=>(CS1 c q b o cap w (hS.mono (by decide) hm (by simp)) hq hl hc)) (fun b25=>?_)
  refine st ?_;refine zn (New.alloc Ce6) (fun b6=>?_)
  refine Ab1 (Sto.store rfl rfl .here BW3 rfl rfl) rfl rfl ?_;refine st ?_;refine RunEF.next ?_;refine RunCF.seq ?_;refine RunCF.seq ?_;refine Ak9 ?_;refine st ?_;refine RunEF.next ?_;refine Ak9 ?_;refine RunC.cond rfl (fun h=>absurd h (by simp)) ?_;intro c2;clear c2;refine st ?_;refine RunEF.next ?_;refine RunCF.seq ?_;refine Ak9 ?_;refine st ?_;refine zn (New.alloc CS5) (fun b7=>?_)
  refine RunEF.next ?_;refine RunCF.seq ?_;refine RunCF.seq ?_;refine Ak9 ?_;refine st ?_;refine Ag4 (zF rfl Dm7) rfl rfl rfl (fun w hm=>(BO2 s w)) (fun b32=>?_)
  refine st ?_;refine RunEF.next ?_;refine RunCF.block ?_;refine RunCF.range Tryz.func23 (α:=Str) (X:=RuX) (enc:=fun x=>.string (bs x)) (eb:=fun _=>[]) (itb:=[(b32,strO s)]) (mis:=dmis) (S:=fun xs=>xs=linesL s) (Sp:=fun xs=>xs <+: linesL s) (Sq:=fun _ _=>False) (N:=s.length + 1) (fun x=>(b6,.cells (cellsL (pV b25)).toArray 33 (0,0))::(b25,dkO x.1 c)::(b7,buO x.2.1 x.2.2.1 x.2.2.2.length)::(dkB x.1++ownB 5 x.2.2.1 (byc x.2.2.2))) (fun pre x=>RuOk c b7 pre x) (fun _ _=>False) (fun _ _=>False) (noDk,.pointer none,none,[]) ⟨Cn8,.inl rfl,OwnOk.start,.inl rfl,rfl,Nat.zero_le _⟩ ([]) (.cons (.there (.there .here)) rfl (.cons (.there (.there .here)) rfl (.cons (.there .here) rfl (.cons .here rfl .nil)))) rfl Dd4 (CW6 s hsl b32 W) rfl rfl (fun _=>rfl) rfl rfl rfl ?_ ?_ ?_ ?_ ?_
  ·intro l D ob pre v x tl hI hsp hlen
   obtain ⟨xd,xp,xo,xl⟩:=x;obtain ⟨hxd,hxp,hxo,hxe,hxr,hxn⟩:=hI;dsimp only at hxd hxp hxo hxe hxr hxn ⊢;have hvl:v.length≤s.length:=AT6 s v (hsp.subset (by simp));have hpl:pre.length≤s.length:=by (have:=hsp.length_le;simp only [List.length_append,List.length_singleton] at this;omega)
   refine Bn0 (Ac1 _) (news':=(l,ob)::(D,dfrO)::(b6,.cells (cellsL (pV b25)).toArray 33 (0,0))::(b25,dkO xd c)::(b7,buO xp xo xl.length)::(dkB xd++(ownB 5 xo (byc xl)++(tl++[])))) (Pick.cnt fun x=>by simp only [nC,List.length_append,List.length_singleton,List.map_cons,List.map_nil,buB,dfrO,markB,dkM];omega) ?_;refine RunCR.block ?_;refine RunCR.seq ?_;refine Ce1 8 Ai9 (.cons .here rfl (.cons .here rfl (.cons .here rfl (.cons (.there .here) rfl .nil)))) ?_;refine zw 0 ?_;refine zw 1 ?_;refine zA 2 ?_;refine Ab5 rfl (zF rfl Dm6) rfl rfl rfl (fun w hm=>(AV3 v [10] (by omega) w)) (Aa6 (.cons .here rfl (.cons .here rfl (.cons .here rfl (.cons (.there .here) rfl .nil)))) (.cons .here rfl (.cons .here rfl (.cons .here rfl (.cons .here rfl .nil)))) rfl ?_)
   refine zA 3 ?_;refine Cd8 rfl (zF rfl Cw2) rfl rfl rfl (fun w hm=>(AP2 (nw':=fun z:DkX×Str×Int=>(l,ob)::(D,dfrO)::(b6,.cells (cellsL (pV b25)).toArray 33 (0,0))::(b25,dkO z.1 c)::(b7,buO xp xo xl.length)::(dkB z.1++(ownB 5 xo (byc xl)++(tl++[])))) (AT0 (trimL v) (by have:=CD5 v;unfold trimL;omega) b25 xd c ((l,ob)::(D,dfrO)::(b6,.cells (cellsL (pV b25)).toArray 33 (0,0))::(b7,buO xp xo xl.length)::(ownB 5 xo (byc xl)++tl)) W w hL hxd (hm.pick (Pick.cnt fun x=>by simp only [nC,List.length_append,List.length_singleton,List.map_cons,List.map_nil,buB,dfrO,markB,dkM];omega))) (fun _=>(Pick.cnt fun x=>by simp only [nC,List.length_append,List.length_singleton,List.map_cons,List.map_nil,buB,dfrO,markB,dkM];omega)))) (fun z38 hz38=>(Aa6 (.cons .here rfl (.cons .here rfl (.cons .here rfl (.cons (.there .here) rfl .nil)))) (.cons .here rfl (.cons .here rfl (.cons .here rfl (.cons .here rfl .nil)))) rfl ?_))
   obtain ⟨hzd,hzs⟩:=hz38;have hrn:=CU8 (bareC c) hxr hzs;have hcod:Cod z38.2.2:=(by have h2:=BQ1 hxd.sm (bareC c) (trimL v);rw [← hzs] at h2;exact h2);have he38:(echoX z38.2.1 z38.2.2).length≤4000:=(by have h1:=CE4 hxd.sm (bareC c) (trimL v);rw [← hzs] at h1;exact CL8 h1 hcod);refine zw 4 ?_;refine zw 5 ?_;refine zw 6 ?_;refine zw 7 ?_;refine zt ?_;refine zp 8 ?_;refine zd ?_;refine RunER.next ?_;refine RunCR.seq ?_;refine RunCR.seq ?_;refine Ac5 ?_;refine st ?_;refine RunER.next ?_;refine RunCR.cond rfl ?_ ?_
   ·intro c3
    have c3':=c3;clear c3;try simp only [nH] at c3'
    have hec:echoX z38.2.1 z38.2.2=sayX wError [z38.2.2]:=by (unfold echoX;rw [if_neg (by simpa using c3')])
    rw [hec] at he38 hrn;refine Ac5 ?_;refine lv (Val.makeInterface rfl Aq2) ?_;refine lv (Val.makeInterface rfl Au9) ?_;refine zn (New.buildSlice (parts:=[(0,.tmp 43),(1,.tmp 45)]) rfl Ap8 Am3 rfl rfl rfl rfl) (fun b46=>?_)
    refine zc (zF rfl Av0) (fun w hm=>Ag8 [.s wError,.n z38.2.2] _ (An4 wError [_]) b46 w (hL.mono hm) (hm.at (.head _)) (by simp) (by intro p hp;simp only [List.mem_cons,List.not_mem_nil,or_false] at hp;rcases hp with rfl | rfl;exact (show wError.length≤40 by decide);exact hcod.in64) (by simp [Prt.words])) ?_;refine RunER.next ?_;refine Ac5 ?_;refine st ?_;refine lv (AS4 rfl rfl (by simp;omega)) ?_;refine Ap6 (zF rfl CQ8) rfl rfl rfl (fun w hm=>(AP2 (nw':=fun y:Eng.Own=>(l,ob)::(D,dfrO)::(b6,.cells (cellsL (pV b25)).toArray 33 (0,0))::(b25,dkO z38.1 c)::(b7,buO (buS b7) y (xl++(sayX wError [z38.2.2]++[10])).length)::(dkB z38.1++(ownB 5 y (byc (xl++(sayX wError [z38.2.2]++[10])))++(tl++[])))) (AU6 b7 xp xo xl (sayX wError [z38.2.2]++[10]) ((l,ob)::(D,dfrO)::(b6,.cells (cellsL (pV b25)).toArray 33 (0,0))::(b25,dkO z38.1 c)::(dkB z38.1++tl)) W w (hm.pick (Pick.cnt fun x=>by simp only [nC,List.length_append,List.length_singleton,List.map_cons,List.map_nil,buB,dfrO,markB,dkM];omega)) hxp hxo (by simp only [List.length_append,List.length_singleton];omega)) (fun _=>(Pick.cnt fun x=>by simp only [nC,List.length_append,List.length_singleton,List.map_cons,List.map_nil,buB,dfrO,markB,dkM];omega)))) (fun z50 hz50=>?_)
    skip
    refine st ?_;exact AS9 (z38.1,buS b7,z50,xl++(sayX wError [z38.2.2]++[10])) ⟨hzd,.inr rfl,hz50,.inr (by simp),by rw [List.map_append];exact hrn,by simp only [List.length_append,List.length_singleton];omega⟩ (Pick.cnt fun x=>by simp only [nC,List.length_append,List.length_singleton,List.map_cons,List.map_nil,buB,dfrO,markB,dkM];omega)
   intro c3;have c3':=c3;clear c3;try simp only [nH] at c3'
   have hec:echoX z38.2.1 z38.2.2=z38.2.1:=by (unfold echoX;rw [if_pos (by simpa using c3')])
   rw [hec] at he38 hrn;refine RunCR.skip ?_;refine RunER.next ?_;refine Ac5 ?_;refine st ?_;refine lv (AS4 rfl rfl (by simp;omega)) ?_;refine Ap6 (zF rfl CQ8) rfl rfl rfl (fun w hm=>(AP2 (nw':=fun y:Eng.Own=>(l,ob)::(D,dfrO)::(b6,.cells (cellsL (pV b25)).toArray 33 (0,0))::(b25,dkO z38.1 c)::(b7,buO (buS b7) y (xl++(z38.2.1++[10])).length)::(dkB z38.1++(ownB 5 y (byc (xl++(z38.2.1++[10])))++(tl++[])))) (AU6 b7 xp xo xl (z38.2.1++[10]) ((l,ob)::(D,dfrO)::(b6,.cells (cellsL (pV b25)).toArray 33 (0,0))::(b25,dkO z38.1 c)::(dkB z38.1++tl)) W w (hm.pick (Pick.cnt fun x=>by simp only [nC,List.length_append,List.length_singleton,List.map_cons,List.map_nil,buB,dfrO,markB,dkM];omega)) hxp hxo (by simp only [List.length_append,List.length_singleton];omega)) (fun _=>(Pick.cnt fun x=>by simp only [nC,List.length_append,List.length_singleton,List.map_cons,List.map_nil,buB,dfrO,markB,dkM];omega)))) (fun z50 hz50=>?_)
   skip
   refine st ?_;exact AS9 (z38.1,buS b7,z50,xl++(z38.2.1++[10])) ⟨hzd,.inr rfl,hz50,.inr (by simp),by rw [List.map_append];exact hrn,by simp only [List.length_append,List.length_singleton];omega⟩ (Pick.cnt fun x=>by simp only [nC,List.length_append,List.length_singleton,List.map_cons,List.map_nil,buB,dfrO,markB,dkM];omega)
  ·intro D xs x hS hI
   obtain ⟨xd,xp,xo,xl⟩:=x;obtain ⟨hxd,hxp,hxo,hxe,hxr,hxn⟩:=hI;dsimp only at hxd hxp hxo hxe hxr hxn ⊢;subst hS;refine An0 (Ac1 _) (news':=(D,dfrO)::(b6,.cells (cellsL (pV b25)).toArray 33 (0,0))::(b25,dkO xd c)::(b7,buO xp xo xl.length)::(dkB xd++(ownB 5 xo (byc xl)++[]))) (Pick.cnt fun x=>by simp only [nC,List.length_append,List.length_singleton,List.map_cons,List.map_nil,buB,dfrO,markB,dkM];omega) ?_;refine st ?_;refine RunEF.next ?_;refine RunCF.seq ?_;refine Ak9 ?_;refine st ?_;refine Ap6 (zF rfl Dn8) rfl rfl rfl (fun w hm=>(Cc8 b7 xp xo xl ((D,dfrO)::[]) W w (hm.pick (Pick.cnt fun x=>by simp only [nC,List.length_append,List.length_singleton,List.map_cons,List.map_nil,buB,dfrO,markB,dkM];omega)) hxo (Di2 hxo hxe))) (fun z51 hz51=>?_)
   skip
   refine st ?_;refine RunEF.next ?_;refine Ak9 ?_;refine RunC.ret ?_;exact Aq6 (news2:=[]) [D] (Pick.cnt fun x=>by simp only [nC,List.length_append,List.length_singleton,List.map_cons,List.map_nil,buB,dfrO,markB,dkM];omega) (.r2 rfl (.tmp rfl) (.tmp rfl)) (fun w hm=>⟨by rw [hxr],hm⟩)
  ·intro D c x hst
   exact hst.elim
  ·intro D c x hp
   exact hp.elim
  intro D k xs x hq hI;exact hq.elim
end Go.Proofs.YtnmkdiagbkkmaabGreatDoor
namespace Go.Dk
open Go Go.Eng Go.Pw1 Go.Hp
def cE:Cd:=⟨⟨⟨9000,9000⟩,⟨65,66⟩,5,2000,100000,[]⟩,3200,50,20,⟨6000,6500⟩,300,900,100,200⟩
theorem Cp9 {c:Cd} {b:Bn} {s:Str} {ws:List Str} (hl:s.length≤200) (h:wordsX s=some (wDeep::ws)) (hn:numsX ws=some [0]) (hr:0 < b.views.length):lineX c b s=deepD c b 0 :=
  AG5 hl h (by decide) (by decide) (show verbX wDeep=some ⟨1,true,fun c b n=>deepD c b (N n 0)⟩ from rfl) hn rfl (fun _=>hr)
theorem Ai2 {c:Cd} {b b' b2:Bn} {s r t:Str} {e:Int} {l:List Str} (h:stepX c b s=(b',r,e)) (h2:runL c b' l=(b2,t)):runL c b (s::l)=(b2,echoX r e++10::t):=by
  unfold runL;rw [h];dsimp only;rw [h2]
def eB0:Bn:=⟨[],⟨[],[]⟩⟩
def eB1:Bn:=⟨[⟨⟨⟨9000,9000⟩,⟨65,66⟩,5,2000,100000,[]⟩,⟨0,0,0,0⟩,false⟩],⟨[],[]⟩⟩
def eB2:Bn:=⟨[⟨⟨⟨9000,9000⟩,⟨65,66⟩,5,2000,100000,[⟨⟨1100,1101⟩,⟨0,0⟩,⟨904,905⟩,⟨0,0⟩,0⟩]⟩,⟨0,0,0,0⟩,false⟩],⟨[],[]⟩⟩
def eB3:Bn:=⟨[⟨⟨⟨9000,9000⟩,⟨65,66⟩,5,2000,100000,[⟨⟨1100,1101⟩,⟨0,0⟩,⟨904,905⟩,⟨0,0⟩,3000⟩]⟩,⟨0,0,0,0⟩,false⟩],⟨[],[]⟩⟩
def eB4:Bn:=⟨[⟨⟨⟨9000,9000⟩,⟨65,66⟩,5,2000,100000,[⟨⟨1100,1101⟩,⟨0,0⟩,⟨904,905⟩,⟨0,0⟩,3000⟩,⟨⟨1050,1050⟩,⟨0,0⟩,⟨990,992⟩,⟨0,0⟩,0⟩]⟩,⟨0,0,0,0⟩,false⟩],⟨[],[]⟩⟩
def eB5:Bn:=⟨[⟨⟨⟨9000,9000⟩,⟨65,66⟩,5,2000,100000,[⟨⟨1100,1101⟩,⟨0,0⟩,⟨904,905⟩,⟨0,0⟩,3000⟩,⟨⟨1050,1050⟩,⟨0,0⟩,⟨990,992⟩,⟨0,0⟩,0⟩]⟩,⟨0,0,0,0⟩,false⟩],⟨[],[]⟩⟩
def eB6:Bn:=⟨[⟨⟨⟨9000,9000⟩,⟨65,66⟩,5,2000,100000,[⟨⟨1100,1101⟩,⟨0,0⟩,⟨904,905⟩,⟨0,0⟩,3000⟩,⟨⟨1050,1050⟩,⟨0,0⟩,⟨990,992⟩,⟨0,0⟩,0⟩,⟨⟨1000,1002⟩,⟨0,0⟩,⟨1005,1006⟩,⟨0,0⟩,0⟩]⟩,⟨0,0,0,0⟩,false⟩],⟨[],[]⟩⟩
def eB7:Bn:=⟨[⟨⟨⟨9000,9000⟩,⟨65,66⟩,5,2000,100000,[⟨⟨1100,1101⟩,⟨0,0⟩,⟨904,905⟩,⟨0,0⟩,3000⟩,⟨⟨1050,1050⟩,⟨0,0⟩,⟨990,992⟩,⟨0,0⟩,0⟩,⟨⟨1000,1002⟩,⟨0,0⟩,⟨1005,1006⟩,⟨0,0⟩,0⟩]⟩,⟨0,0,0,0⟩,false⟩],⟨[],[]⟩⟩
def eB8:Bn:=⟨[⟨⟨⟨9000,9000⟩,⟨65,66⟩,5,2000,100000,[⟨⟨1100,1101⟩,⟨0,0⟩,⟨904,905⟩,⟨0,0⟩,3000⟩,⟨⟨1050,1050⟩,⟨0,0⟩,⟨990,992⟩,⟨0,0⟩,0⟩,⟨⟨1000,1002⟩,⟨0,0⟩,⟨1005,1006⟩,⟨0,0⟩,0⟩]⟩,⟨0,0,0,0⟩,false⟩],⟨[],[]⟩⟩
def eB9:Bn:=⟨[⟨⟨⟨9000,9000⟩,⟨65,66⟩,5,2000,100000,[⟨⟨1100,1101⟩,⟨0,0⟩,⟨904,905⟩,⟨0,0⟩,3000⟩,⟨⟨1050,1050⟩,⟨0,0⟩,⟨990,992⟩,⟨0,0⟩,0⟩,⟨⟨1000,1002⟩,⟨0,0⟩,⟨1005,1006⟩,⟨0,0⟩,0⟩]⟩,⟨2,1,0,3⟩,true⟩],⟨[],[]⟩⟩
def eB10:Bn:=⟨[⟨⟨⟨9000,9000⟩,⟨65,66⟩,5,2000,100000,[⟨⟨1100,1101⟩,⟨0,0⟩,⟨904,905⟩,⟨0,0⟩,3000⟩,⟨⟨1050,1050⟩,⟨0,0⟩,⟨990,992⟩,⟨0,0⟩,0⟩,⟨⟨1000,1002⟩,⟨0,0⟩,⟨1005,1006⟩,⟨0,0⟩,0⟩]⟩,⟨2,1,0,3⟩,true⟩],⟨[],[]⟩⟩
def eB11:Bn:=⟨[⟨⟨⟨9000,9000⟩,⟨65,66⟩,5,2000,100000,[⟨⟨1100,1101⟩,⟨0,0⟩,⟨904,905⟩,⟨0,0⟩,3000⟩,⟨⟨1050,1050⟩,⟨0,0⟩,⟨990,992⟩,⟨0,0⟩,0⟩,⟨⟨1000,1002⟩,⟨0,0⟩,⟨1005,1006⟩,⟨0,0⟩,0⟩]⟩,⟨2,1,0,3⟩,true⟩],⟨[],[]⟩⟩
def eB12:Bn:=⟨[⟨⟨⟨9000,9000⟩,⟨65,66⟩,5,2000,100000,[⟨⟨1100,1101⟩,⟨0,0⟩,⟨904,905⟩,⟨0,0⟩,3000⟩,⟨⟨1050,1050⟩,⟨0,0⟩,⟨990,992⟩,⟨0,0⟩,0⟩,⟨⟨1000,1002⟩,⟨0,0⟩,⟨1005,1006⟩,⟨0,0⟩,0⟩]⟩,⟨2,1,0,3⟩,true⟩],⟨[⟨1,[[102,97,108,108,115],[109,105,108,108],[112,97,115,115]]⟩],[]⟩⟩
def eB13:Bn:=⟨[⟨⟨⟨9000,9000⟩,⟨65,66⟩,5,2000,100000,[⟨⟨1100,1101⟩,⟨0,0⟩,⟨904,905⟩,⟨0,0⟩,3000⟩,⟨⟨1050,1050⟩,⟨0,0⟩,⟨990,992⟩,⟨0,0⟩,0⟩,⟨⟨1000,1002⟩,⟨0,0⟩,⟨1005,1006⟩,⟨0,0⟩,0⟩]⟩,⟨2,1,0,3⟩,true⟩],⟨[⟨1,[[102,97,108,108,115],[109,105,108,108],[112,97,115,115]]⟩,⟨2,[[109,105,108,108],[108,97,107,101]]⟩],[]⟩⟩
def eB14:Bn:=⟨[⟨⟨⟨9000,9000⟩,⟨65,66⟩,5,2000,100000,[⟨⟨1100,1101⟩,⟨0,0⟩,⟨904,905⟩,⟨0,0⟩,3000⟩,⟨⟨1050,1050⟩,⟨0,0⟩,⟨990,992⟩,⟨0,0⟩,0⟩,⟨⟨1000,1002⟩,⟨0,0⟩,⟨1005,1006⟩,⟨0,0⟩,0⟩]⟩,⟨2,1,0,3⟩,true⟩],⟨[⟨1,[[102,97,108,108,115],[109,105,108,108],[112,97,115,115]]⟩,⟨2,[[109,105,108,108],[108,97,107,101]]⟩],[⟨0,[63],[109,105,42]⟩]⟩⟩
def eB15:Bn:=⟨[⟨⟨⟨9000,9000⟩,⟨65,66⟩,5,2000,100000,[⟨⟨1100,1101⟩,⟨0,0⟩,⟨904,905⟩,⟨0,0⟩,3000⟩,⟨⟨1050,1050⟩,⟨0,0⟩,⟨990,992⟩,⟨0,0⟩,0⟩,⟨⟨1000,1002⟩,⟨0,0⟩,⟨1005,1006⟩,⟨0,0⟩,0⟩]⟩,⟨2,1,0,3⟩,true⟩],⟨[⟨1,[[102,97,108,108,115],[109,105,108,108],[112,97,115,115]]⟩,⟨2,[[109,105,108,108],[108,97,107,101]]⟩],[⟨0,[63],[109,105,42]⟩,⟨2,[42],[109,105,108,108]⟩]⟩⟩
def eB16:Bn:=⟨[⟨⟨⟨9000,9000⟩,⟨65,66⟩,5,2000,100000,[⟨⟨1100,1101⟩,⟨0,0⟩,⟨904,905⟩,⟨0,0⟩,3000⟩,⟨⟨1050,1050⟩,⟨0,0⟩,⟨990,992⟩,⟨0,0⟩,0⟩,⟨⟨1000,1002⟩,⟨0,0⟩,⟨1005,1006⟩,⟨0,0⟩,0⟩]⟩,⟨2,1,0,3⟩,true⟩],⟨[⟨1,[[102,97,108,108,115],[109,105,108,108],[112,97,115,115]]⟩,⟨2,[[109,105,108,108],[108,97,107,101]]⟩],[⟨0,[63],[109,105,42]⟩,⟨2,[42],[109,105,108,108]⟩]⟩⟩
theorem eS0:stepX cE eB0 [118,105,101,119]=(eB1,[118,105,101,119,32,48],0):=by kernel_rfl
theorem eS1:stepX cE eB1 [116,104,105,110,103,32,48,32,49,49,48,48,32,49,49,48,49,32,57,48,52,32,57,48,53]=(eB2,[116,104,105,110,103,32,48,32,48],0):=by kernel_rfl
theorem eS2:stepX cE eB2 [109,97,114,107,32,48,32,48,32,51,48,48,48]=(eB3,[109,97,114,107,32,53,56,53,48,48,48,32,53,57,51,57,57,57],0):=by kernel_rfl
theorem eS3:stepX cE eB3 [116,104,105,110,103,32,48,32,49,48,53,48,32,49,48,53,48,32,57,57,48,32,57,57,50]=(eB4,[116,104,105,110,103,32,49,32,48],0):=by kernel_rfl
theorem eS4:stepX cE eB4 [102,97,114,32,48,32,49]=(eB5,[102,97,114,32,57,53,57,49,32,49,48,50,52,49],0):=by kernel_rfl
theorem eS5:stepX cE eB5 [116,104,105,110,103,32,48,32,49,48,48,48,32,49,48,48,50,32,49,48,48,53,32,49,48,48,54]=(eB6,[116,104,105,110,103,32,50,32,50],0):=by kernel_rfl
theorem eS6:stepX cE eB6 [109,111,118,101,100,32,48]=(eB7,[109,111,118,101,100,32,52],0):=by kernel_rfl
theorem eS7:stepX cE eB7 [109,97,114,107,32,48,32,49,32,52,48,48,48]=(eB8,[],4):=by kernel_rfl
theorem eS8:stepX cE eB8 [116,114,105,109,32,48]=(eB9,[116,114,105,109,32,50,32,49,32,48,32,51],0):=by kernel_rfl
theorem eS9:stepX cE eB9 [116,104,105,110,103,32,48,32,48,32,48,32,48,32,48]=(eB10,[],6):=by kernel_rfl
theorem eDl:lineX cE eB10 [100,101,101,112,32,48]=deepD cE eB10 0:=Cp9 (by decide) (show wordsX [100,101,101,112,32,48]=some (wDeep::[[48]]) by kernel_rfl) (show numsX [[48]]=some [0] by kernel_rfl) (by decide)
theorem CM2 {c:Cd} {b:Bn} {i:Nat} {v:Vw} {x y:Int} (hv:b.views.getD i noVw=v) (hu:v.up=true) (h:depthsX (cardV c v) v.cuts=((x,y),0)):deepD c b i = .ok (b,sayX wDeep [x,y]):=by
  unfold deepD;dsimp only;rw [hv,if_neg (by rw [hu];decide),h];rfl
def eV:Vw:=⟨⟨⟨9000,9000⟩,⟨65,66⟩,5,2000,100000,[⟨⟨1100,1101⟩,⟨0,0⟩,⟨904,905⟩,⟨0,0⟩,3000⟩,⟨⟨1050,1050⟩,⟨0,0⟩,⟨990,992⟩,⟨0,0⟩,0⟩,⟨⟨1000,1002⟩,⟨0,0⟩,⟨1005,1006⟩,⟨0,0⟩,0⟩]⟩,⟨2,1,0,3⟩,true⟩
theorem eD4:depthsX (cardV cE eV) eV.cuts=((2956,11700),0):=by rw [BM0];kernel_rfl
theorem eD5:deepD cE eB10 0 = .ok (eB10,sayX wDeep [2956,11700]):=CM2 (v:=eV) rfl rfl eD4
theorem eD6:sayX wDeep [2956,11700]=[100,101,101,112,32,50,57,53,54,32,49,49,55,48,48]:=by kernel_rfl
theorem CT8 {c:Cd} {b b':Bn} {s r:Str} (h:lineX c b s = .ok (b',r)):stepX c b s=(b',r,0):=by unfold stepX;rw [h]
theorem Ds6:stepX cE eB10 [100,101,101,112,32,48]=(eB11,[100,101,101,112,32,50,57,53,54,32,49,49,55,48,48],0):=CT8 (by rw [eDl,eD5,eD6];rfl)
theorem Ds5:stepX cE eB11 [98,111,120,32,49,32,102,97,108,108,115,32,109,105,108,108,32,112,97,115,115]=(eB12,[98,111,120,32,48],0):=by kernel_rfl
theorem Ds4:stepX cE eB12 [98,111,120,32,50,32,109,105,108,108,32,108,97,107,101]=(eB13,[98,111,120,32,49],0):=by kernel_rfl
theorem Ds3:stepX cE eB13 [99,97,114,100,32,48,32,63,32,109,105,42]=(eB14,[99,97,114,100,32,48],0):=by kernel_rfl
theorem Ds2:stepX cE eB14 [99,97,114,100,32,50,32,42,32,109,105,108,108]=(eB15,[99,97,114,100,32,49,32,105,115,32,48,32,49,32,105,115,32,49,32,51],0):=by kernel_rfl
theorem Ds1:stepX cE eB15 [119,104,105,99,104,32,48]=(eB16,[119,104,105,99,104,32,49],0):=by kernel_rfl
def eScript:Str:=[118,105,101,119,10,116,104,105,110,103,32,48,32,49,49,48,48,32,49,49,48,49,32,57,48,52,32,57,48,53,10,109,97,114,107,32,48,32,48,32,51,48,48,48,10,116,104,105,110,103,32,48,32,49,48,53,48,32,49,48,53,48,32,57,57,48,32,57,57,50,10,102,97,114,32,48,32,49,10,116,104,105,110,103,32,48,32,49,48,48,48,32,49,48,48,50,32,49,48,48,53,32,49,48,48,54,10,109,111,118,101,100,32,48,10,109,97,114,107,32,48,32,49,32,52,48,48,48,10,116,114,105,109,32,48,10,116,104,105,110,103,32,48,32,48,32,48,32,48,32,48,10,100,101,101,112,32,48,10,98,111,120,32,49,32,102,97,108,108,115,32,109,105,108,108,32,112,97,115,115,10,98,111,120,32,50,32,109,105,108,108,32,108,97,107,101,10,99,97,114,100,32,48,32,63,32,109,105,42,10,99,97,114,100,32,50,32,42,32,109,105,108,108,10,119,104,105,99,104,32,48,10]
def eSays:Str:=[118,105,101,119,32,48,10,116,104,105,110,103,32,48,32,48,10,109,97,114,107,32,53,56,53,48,48,48,32,53,57,51,57,57,57,10,116,104,105,110,103,32,49,32,48,10,102,97,114,32,57,53,57,49,32,49,48,50,52,49,10,116,104,105,110,103,32,50,32,50,10,109,111,118,101,100,32,52,10,101,114,114,111,114,32,52,10,116,114,105,109,32,50,32,49,32,48,32,51,10,101,114,114,111,114,32,54,10,100,101,101,112,32,50,57,53,54,32,49,49,55,48,48,10,98,111,120,32,48,10,98,111,120,32,49,10,99,97,114,100,32,48,10,99,97,114,100,32,49,32,105,115,32,48,32,49,32,105,115,32,49,32,51,10,119,104,105,99,104,32,49,10]
theorem Do3:linesX eScript []=[[118,105,101,119],[116,104,105,110,103,32,48,32,49,49,48,48,32,49,49,48,49,32,57,48,52,32,57,48,53],[109,97,114,107,32,48,32,48,32,51,48,48,48],[116,104,105,110,103,32,48,32,49,48,53,48,32,49,48,53,48,32,57,57,48,32,57,57,50],[102,97,114,32,48,32,49],[116,104,105,110,103,32,48,32,49,48,48,48,32,49,48,48,50,32,49,48,48,53,32,49,48,48,54],[109,111,118,101,100,32,48],[109,97,114,107,32,48,32,49,32,52,48,48,48],[116,114,105,109,32,48],[116,104,105,110,103,32,48,32,48,32,48,32,48,32,48],[100,101,101,112,32,48],[98,111,120,32,49,32,102,97,108,108,115,32,109,105,108,108,32,112,97,115,115],[98,111,120,32,50,32,109,105,108,108,32,108,97,107,101],[99,97,114,100,32,48,32,63,32,109,105,42],[99,97,114,100,32,50,32,42,32,109,105,108,108],[119,104,105,99,104,32,48]]:=by kernel_rfl
theorem Ds7:(runL cE noBn (linesX eScript [])).2=eSays:=by
  rw [Do3];have h:=(Ai2 eS0 (Ai2 eS1 (Ai2 eS2 (Ai2 eS3 (Ai2 eS4 (Ai2 eS5 (Ai2 eS6 (Ai2 eS7 (Ai2 eS8 (Ai2 eS9 (Ai2 Ds6 (Ai2 Ds5 (Ai2 Ds4 (Ai2 Ds3 (Ai2 Ds2 (Ai2 Ds1 (show runL cE eB16 []=(eB16,[]) from rfl)))))))))))))))));rw [show noBn=eB0 from rfl];refine (congrArg Prod.snd h).trans ?_;exact (show _=eSays by kernel_rfl)
theorem Dr5:runX cE eScript=(eSays,0):=by
  unfold runX;rw [if_neg (by decide +kernel),if_neg (fun h=>h.2 (by decide +kernel)),if_pos (by decide +kernel),show bareC cE=cE from rfl,Ds7]
end Go.Dk
namespace Go.Proofs.YtnmkdiagbkkmaabGreatDoor
open Go Go.Eng
theorem Dn9:Enters Tryz.prog 23:=Aa1 Tryz.func23 (by kernel_rfl) rfl
theorem Dn7:Enters Tryz.prog 27:=Aa1 Tryz.func27 (by kernel_rfl) rfl
theorem Ct9:Enters Tryz.prog 59:=Aa1 Tryz.func59 (by kernel_rfl) rfl
theorem Cl6:placesB Tryz.prog 26=some [(0,2),(2,2),(4,1),(5,1),(6,1),(7,1)]:=by kernel_rfl
theorem Cl5:placesB Tryz.prog 28=some [(0,8),(8,1),(9,1),(10,1),(11,2),(13,1),(14,1),(15,1),(16,1)]:=by kernel_rfl
theorem AQ2:zeroB Tryz.prog 26=some [.int .i64 0,.int .i64 0,.int .i64 0,.int .i64 0,.int .i64 0,.int .i64 0,.int .i64 0,.slice none 0 0]:=by kernel_rfl
end Go.Proofs.YtnmkdiagbkkmaabGreatDoor
namespace Go.Proofs.YtnmkdiagbkkmaabGreatDoor
open Go Go.Eng Go.Dk Go.RowKit Go.Pw1 Go.Hp

theorem CA1 (c:Cd) (q:Option Addr) (b o cap:Nat) (s:Str) (W:World) (hS:Sl W q b o 9 (c.p.things.map Th.cells)) (hq:q=none→cap=0) (hl:c.p.things.length≤1000) (hL:Lw Tryz.prog W) (hs:s.length≤100000∨131072 < s.length) :
    Calls Tryz.prog 23 #[c.v q cap,.string (bs s)] W (Pure (.tuple #[.string (bs (runX c s).1),.int .i64 (runX c s).2]) W):=by
  by_cases h1:131072 < s.length
  · exact CN7 c q b o cap s W h1
  · have hs2:s.length≤100000:=by omega
    by_cases h2:s ≠ []∧Lib.hasSuffix s [10]=false
    · exact CN8 c q b o cap s W h1 h2.1 h2.2
    · cases hc:cardIs c with
      | false=>exact De3 c q b o cap s W hS hq hl hL h1 (Cw6 h2) hc
      | true=>exact Dq1 c q b o cap s W hS hq hl hL hs2 (Cw6 h2) hc
theorem AL7 (lo hi:Int) (W:World):Calls Tryz.prog 59 #[.int .i64 lo,.int .i64 hi] W (Pure (.agg #[.int .i64 lo,.int .i64 hi]) W):=by
  refine Aa0 Tryz.func59 rfl rfl ?_;refine st ?_;refine zn (New.alloc Ae5) (fun b4=>?_)
  refine lv (Val.build (parts:=[(0,.tmp 5),(1,.tmp 6)]) rfl Ae5 Am4 rfl) ?_;refine Ab1 (Sto.store rfl rfl .here Ah1 rfl rfl) rfl rfl ?_;refine su ?_;exact Aa5 (.r1 rfl (.agg rfl (.head _) Ah1 rfl)) (by first | rfl | simp)
theorem BM2 (W:World):Calls Tryz.prog 27 #[] W (Pure (cE.v none 0) W):=by
  refine Aa0 Tryz.func27 rfl rfl ?_;refine st ?_;refine zn (New.alloc Bn8) (fun b0=>?_)
  refine zc (zF rfl Ct9) (fun w hm=>AL7 _ _ w) ?_;refine zc (zF rfl Ct9) (fun w hm=>AL7 _ _ w) ?_;refine lv (Val.build (parts:=[(0,.tmp 2),(1,.tmp 3),(2,.const (.int .i64 5)),(3,.const (.int .i64 2000)),(4,.const (.int .i64 100000))]) rfl AQ2 Cl6 rfl) ?_;refine zn (New.alloc AQ2) (fun b1=>?_)
  refine Ab1 (Sto.store rfl rfl .here AQ3 rfl rfl) rfl rfl ?_;refine st ?_;refine Ac3 2 Ai9 (.cons .here rfl (.cons .here rfl .nil)) ?_;refine zw 0 ?_;refine zA 1 ?_;refine Ab5 rfl (zF rfl Ct9) rfl rfl rfl (fun w hm=>AL7 _ _ w) (Aa6 (.cons .here rfl (.cons .here rfl .nil)) (.cons .here rfl (.cons .here rfl .nil)) rfl ?_)
  refine zt ?_;refine zo 2 rfl (Val.build (parts:=[(0,.tmp 5),(1,.const (.int .i64 3200)),(2,.const (.int .i64 50)),(3,.const (.int .i64 20)),(4,.tmp 6),(5,.const (.int .i64 300)),(6,.const (.int .i64 900)),(7,.const (.int .i64 100)),(8,.const (.int .i64 200))]) rfl Bn8 Cl5 rfl) ?_;refine zB 3 ?_;refine Ab8 rfl (Sto.store rfl rfl (.there .here) Bv0 rfl rfl) rfl rfl (Ab7 ?_)
  refine zd ?_;refine su ?_;exact Aa5 (.r1 rfl (.agg rfl (.tail _ (.head _)) Bv0 rfl)) (by first | rfl | simp)
theorem Cb5 (W:World) (hL:Lw Tryz.prog W):Calls Tryz.prog 23 #[cE.v none 0,.string (bs eScript)] W (Pure (.tuple #[.string (bs eSays),.int .i64 0]) W):=by
  have h:=CA1 cE none 0 0 0 eScript W ⟨fun h=>absurd rfl h,fun x hx=>(by cases hx),fun i h=>(by cases h)⟩ (fun _=>rfl) (by decide) hL (.inl (by decide +kernel));rw [Dr5] at h;exact h
theorem BL3 (t:Str) (ht:t=eSays) (W:World) (hL:Lw Tryz.prog W):Calls Tryz.prog 23 #[cE.v none 0,.string (bs eScript)] W (Pure (.tuple #[.string (bs t),.int .i64 0]) W):=by
  rw [ht];exact Cb5 W hL
set_option maxRecDepth 100000 in
theorem At4 (W:World) (hL:Lw Tryz.prog W):Calls Tryz.prog 9 #[] W (Pure (.bool true) W):=by
  obtain ⟨t,ht⟩:∃ t,t=eSays:=⟨_,rfl⟩;refine Aa0 Tryz.func9 rfl rfl ?_;refine st ?_;refine zc (zF rfl Dn7) (fun w hm=>BM2 w) ?_;refine zc (zF rfl Dn9) (fun w hm=>BL3 t ht w (hL.mono hm)) ?_;refine lv (AS6 (a:=t) (b:=eSays) rfl rfl) ?_;refine Ae4 (dj:=10) true rfl (by simp [ht]) ?_;refine su ?_;exact Aa5 (.r1 rfl (.tmp rfl)) (by first | rfl | simp)
end Go.Proofs.YtnmkdiagbkkmaabGreatDoor
namespace Go.Dk
open Go Go.Eng Go.Pw1 Go.Hp
structure VwRight (c:Cd) (v:Vw):Prop where
  pw:(powerX v.p).2=0
  s1:v.p.focal=c.p.focal
  s2:v.p.base=c.p.base
  s3:v.p.tilt=c.p.tilt
  s4:v.p.near=c.p.near
  s5:v.p.far=c.p.far
  n:v.p.things.length≤12
  up:v.up=true→(hurtsX (cardV c v) v.cuts).2.2=0
  dn:v.up=false→v.cuts=noTr
structure Right (c:Cd) (b:Bn):Prop where
  v:∀ v∈b.views,VwRight c v
  nv:b.views.length≤4
  nb:b.heap.boxes.length≤4
  nc:b.heap.cards.length≤8
  w:(WhyX b.heap).2=0
variable {c:Cd} {b:Bn}
theorem Right.put (h:Right c b) {i:Nat} {v:Vw} (hv:VwRight c v):Right c (putV b i v) :=
  ⟨fun x hx=>by
    rcases List.mem_or_eq_of_mem_set hx with hx | rfl
    · exact h.v x hx
    · exact hv,by show (b.views.set i v).length≤4;rw [List.length_set];exact h.nv,h.nb,h.nc,h.w⟩
theorem Right.at (h:Right c b) {i:Nat} (hi:i < b.views.length):VwRight c (b.views.getD i noVw):=by
  rw [List.getD_eq_getElem?_getD,List.getElem?_eq_getElem hi];exact h.v _ (List.getElem_mem hi)
end Go.Dk
namespace Go.Proofs.YtnmkdiagbkkmaabGreatDoor
open Go Go.Eng Go.Pw1

theorem AM8 (n lo hi:Int) (W:World):Calls Tryz.prog 98 #[.int .i64 n,.int .i64 lo,.int .i64 hi] W (Pure (.bool (within n lo hi)) W):=by
  refine Aa0 Tryz.func98 rfl rfl ?_;refine st ?_
  refine Ab3 (dj:=10) (dp:=14) 4 rfl (fun g10=>by
    have g10':=g10;try simp only [nH] at g10'
    refine sv ?_;exact zs g10
  ) (fun g10=>by
    have g10':=g10;try simp only [nH] at g10'
    iterate 3 refine Ac0 rfl rfl rfl ?_
    refine sv ?_;exact zs g10
  ) ?_
  refine su ?_;exact Aa5 (.r1 rfl (.tmp rfl)) (by first | rfl | simp)
theorem AD6 (s:Sp) (lo hi:Int) (W:World):Calls Tryz.prog 99 #[.agg #[.int .i64 s.lo,.int .i64 s.hi],.int .i64 lo,.int .i64 hi] W (Pure (.bool (isSpan s lo hi)) W):=by
  refine Aa0 Tryz.func99 rfl rfl ?_;refine st ?_;refine zn (New.box rfl) (fun b3=>?_)
  refine Ab3 (dj:=11) (dp:=17) 6 rfl (fun g11=>by
    have g11':=g11;try simp only [nH] at g11'
    refine lv (Val.fieldAddr rfl Az8) ?_;refine lv (Ab4 rfl (.head _) Ag9 rfl) ?_;refine lv (Val.fieldAddr rfl An5) ?_;refine Ac9 (Ab4 rfl (.head _) Ag9 rfl) rfl rfl rfl ?_;refine sv ?_;exact zs g11
  ) (fun g11=>by
    have g11':=g11;try simp only [nH] at g11'
    iterate 5 refine Ac0 rfl rfl rfl ?_
    refine sv ?_;exact zs g11
  ) ?_
  refine st ?_
  refine Ab3 (dj:=18) (dp:=23) 5 rfl (fun g18=>by
    have g18':=g18;try simp only [nH] at g18'
    refine lv (Val.fieldAddr rfl An5) ?_;refine Ac9 (Ab4 rfl (.head _) Ag9 rfl) rfl rfl rfl ?_;refine sv ?_;exact zs g18
  ) (fun g18=>by
    have g18':=g18;try simp only [nH] at g18'
    iterate 4 refine Ac0 rfl rfl rfl ?_
    refine sv ?_;exact zs g18
  ) ?_
  refine su ?_;exact Aa5 (.r1 rfl (.tmp rfl)) (by first | rfl | simp)
theorem AT2 (x y:Sp) (W:World):Calls Tryz.prog 97 #[.agg #[.int .i64 x.lo,.int .i64 x.hi,.int .i64 y.lo,.int .i64 y.hi]] W (Pure (.bool (isPlace x y)) W):=by
  refine Aa0 Tryz.func97 rfl rfl ?_;refine st ?_;refine zn (New.box rfl) (fun b1=>?_)
  refine zc (zF rfl BT2) (fun w hm=>AD6 ⟨_,_⟩ _ _ w) ?_
  refine Ab3 (dj:=6) (dp:=10) 4 rfl (fun g6=>by
    have g6':=g6;try simp only [nH] at g6'
    refine su ?_;refine Ab9 (zF rfl BT2) rfl rfl rfl (fun w hm=>AD6 ⟨_,_⟩ _ _ w) ?_;refine sv ?_;exact zs g6
  ) (fun g6=>by
    have g6':=g6;try simp only [nH] at g6'
    iterate 3 refine Ac0 rfl rfl rfl ?_
    refine sv ?_;exact zs g6
  ) ?_
  refine su ?_;exact Aa5 (.r1 rfl (.tmp rfl)) (by first | rfl | simp)
theorem BH4 (p:Pr) (q:Option Addr) (b o cap:Nat) (W:World) (hS:Sl W q b o 9 (p.things.map Th.cells)) (hl:p.things.length≤100000000000) :
    Calls Tryz.prog 47 #[p.v q cap] W (Pure (.bool (isPair p)) W):=by
  refine Aa0 Tryz.func47 rfl rfl ?_;refine st ?_;refine zn (New.box rfl) (fun b1=>?_)
  refine Ad8 (p.things.length) (fun k q=>(3,.int .i64 (k:Int))::q) (fun _=>_) (fun _=>[]) (fun k=>(p.things.take k).any (bad p)=false) (by simp) rfl (zE 3 rfl rfl (zS 1 rfl (Sub.nil _))) (.cons .here rfl .nil) ?_;intro k kN kI;refine su ?_;refine cn rfl ?_ ?_
  ·intro c0'
   have hk:k < p.things.length:=by omega
   obtain ⟨t,ht⟩:∃ t,p.things[k]=t:=⟨_,rfl⟩;refine su ?_;refine lv (Aa2 rfl rfl Aq9 (by omega) (by omega) (hS.ptrM hk)) ?_;refine lv (Aa9 rfl (fun w hm=>hS.loadX (by decide) hm (by simp) Av2 hk ht)) ?_;refine zn (New.alloc Aw7) (fun b4=>?_)
   refine Ab1 (Sto.store rfl rfl .here Av2 rfl rfl) rfl rfl ?_;refine su ?_;refine zc (zF rfl CP6) (fun w hm=>AT2 ⟨_,_⟩ ⟨_,_⟩ w) ?_
   refine Ae1 (dj:=21) (dp:=26) 5 rfl (fun g21=>by
     have g21':=g21;try simp only [nH] at g21'
     refine su ?_;refine Ab9 (zF rfl CP6) rfl rfl rfl (fun w hm=>AT2 ⟨_,_⟩ ⟨_,_⟩ w) ?_;refine sv ?_;exact zs g21
   ) (fun g21=>by
     have g21':=g21;try simp only [nH] at g21'
     iterate 4 refine Ac0 rfl rfl rfl ?_
     refine sv ?_;exact zs g21
   ) ?_
   refine st ?_
   refine Ae1 (dj:=27) (dp:=41) 14 rfl (fun g27=>by
     have g27':=g27;try simp only [nH] at g27'
     refine su ?_
     refine Ab3 (dj:=31) (dp:=40) 9 rfl (fun g31=>by
       have g31':=g31;try simp only [nH] at g31'
       refine su ?_;refine Ab9 (zF rfl BT3) rfl rfl rfl (fun w hm=>AM8 _ _ _ w) ?_;refine sv ?_;exact zs g31
     ) (fun g31=>by
       have g31':=g31;try simp only [nH] at g31'
       iterate 8 refine Ac0 rfl rfl rfl ?_
       refine sv ?_;exact zs g31
     ) ?_
     refine sv ?_;exact zs g27
   ) (fun g27=>by
     have g27':=g27;try simp only [nH] at g27'
     iterate 13 refine Ac0 rfl rfl rfl ?_
     refine sv ?_;exact zs g27
   ) ?_
   refine st ?_;refine cn rfl ?_ ?_
   ·intro c1'
    refine su ?_;exact Aa5 (.r1 rfl (.tmp rfl)) (by have h:=Cz3 (f:=bad p) hk (by rw [ht];simpa [bad] using c1');simp [isPair,h])
   intro c1';refine st ?_;refine lv (Val.add rfl rfl (IntWalk.i64_in _ ⟨by omega,by omega⟩)) ?_;exact Ad0 (by omega) (Az9 hk kI (by rw [ht];obtain ⟨⟨h1,h2⟩,h3⟩:=c1';simp only [bad,Bool.or_eq_false_iff,Bool.not_eq_false',Bool.and_eq_false_iff,decide_eq_true_eq];exact ⟨⟨h1,h2⟩,h3⟩)) rfl (zE 3 rfl rfl (zS 1 rfl (Sub.nil _))) (.cons (.there .here) rfl .nil)
  intro c0';obtain rfl:k=p.things.length:=by omega
  rw [List.take_length] at kI;refine RunC.exit ?_;refine su ?_;refine Ab0 ?_;refine su ?_
  refine Ab3 (dj:=46) (dp:=50) 4 rfl (fun g46=>by
    have g46':=g46;try simp only [nH] at g46'
    refine su ?_;refine Ab9 (zF rfl BT2) rfl rfl rfl (fun w hm=>AD6 ⟨_,_⟩ _ _ w) ?_;refine sv ?_;exact zs g46
  ) (fun g46=>by
    have g46':=g46;try simp only [nH] at g46'
    iterate 3 refine Ac0 rfl rfl rfl ?_
    refine sv ?_;exact zs g46
  ) ?_
  refine st ?_
  refine Ab3 (dj:=51) (dp:=55) 4 rfl (fun g51=>by
    have g51':=g51;try simp only [nH] at g51'
    refine su ?_;refine Ab9 (zF rfl BT2) rfl rfl rfl (fun w hm=>AD6 ⟨_,_⟩ _ _ w) ?_;refine sv ?_;exact zs g51
  ) (fun g51=>by
    have g51':=g51;try simp only [nH] at g51'
    iterate 3 refine Ac0 rfl rfl rfl ?_
    refine sv ?_;exact zs g51
  ) ?_
  refine st ?_
  refine Ab3 (dj:=56) (dp:=60) 4 rfl (fun g56=>by
    have g56':=g56;try simp only [nH] at g56'
    refine su ?_;refine Ab9 (zF rfl BT3) rfl rfl rfl (fun w hm=>AM8 _ _ _ w) ?_;refine sv ?_;exact zs g56
  ) (fun g56=>by
    have g56':=g56;try simp only [nH] at g56'
    iterate 3 refine Ac0 rfl rfl rfl ?_
    refine sv ?_;exact zs g56
  ) ?_
  refine st ?_
  refine Ab3 (dj:=61) (dp:=65) 4 rfl (fun g61=>by
    have g61':=g61;try simp only [nH] at g61'
    refine su ?_;refine Ab9 (zF rfl BT3) rfl rfl rfl (fun w hm=>AM8 _ _ _ w) ?_;refine sv ?_;exact zs g61
  ) (fun g61=>by
    have g61':=g61;try simp only [nH] at g61'
    iterate 3 refine Ac0 rfl rfl rfl ?_
    refine sv ?_;exact zs g61
  ) ?_
  refine st ?_
  refine Ab3 (dj:=66) (dp:=72) 6 rfl (fun g66=>by
    have g66':=g66;try simp only [nH] at g66'
    refine su ?_;refine Ab9 (zF rfl BT3) rfl rfl rfl (fun w hm=>AM8 _ _ _ w) ?_;refine sv ?_;exact zs g66
  ) (fun g66=>by
    have g66':=g66;try simp only [nH] at g66'
    iterate 5 refine Ac0 rfl rfl rfl ?_
    refine sv ?_;exact zs g66
  ) ?_
  refine su ?_;exact Aa5 (.r1 rfl (.tmp rfl)) (by simp only [isPair,kI,Bool.not_false,Bool.and_true];congr 1;cases isSpan p.focal 1 50000 <;> cases isSpan p.base 1 10000 <;> cases within p.tilt 0 1000 <;> cases within p.near 2000 1073741824 <;> cases within p.far p.near 1073741824 <;> simp)
end Go.Proofs.YtnmkdiagbkkmaabGreatDoor
namespace Go.Pw1
open Go Go.Eng
end Go.Pw1
namespace Go.Proofs.YtnmkdiagbkkmaabGreatDoor
open Go Go.Eng Go.Pw1

theorem Ar3 (n lo hi:Int) (W:World):Calls Tryz.prog 46 #[.int .i64 n,.int .i64 lo,.int .i64 hi] W (Pure (.bool (within n lo hi)) W):=by
  refine Aa0 Tryz.func46 rfl rfl ?_;refine st ?_
  refine Ab3 (dj:=10) (dp:=14) 4 rfl (fun g10=>by
    have g10':=g10;try simp only [nH] at g10'
    refine sv ?_;exact zs g10
  ) (fun g10=>by
    have g10':=g10;try simp only [nH] at g10'
    iterate 3 refine Ac0 rfl rfl rfl ?_
    refine sv ?_;exact zs g10
  ) ?_
  refine su ?_;exact Aa5 (.r1 rfl (.tmp rfl)) (by first | rfl | simp)
theorem AT4 (c:Cd) (q:Option Addr) (b o cap:Nat) (W:World) (hS:Sl W q b o 9 (c.p.things.map Th.cells)) (hl:c.p.things.length≤100000000000) :
    Calls Tryz.prog 19 #[c.v q cap] W (Pure (.bool (cardR c)) W):=by
  refine Aa0 Tryz.func19 rfl rfl ?_;refine st ?_;refine zn (New.box rfl) (fun b1=>?_)
  refine zc (zF rfl Bc9) (fun w hm=>Ar3 _ _ _ w) ?_
  refine Ab3 (dj:=7) (dp:=11) 4 rfl (fun g7=>by
    have g7':=g7;try simp only [nH] at g7'
    refine su ?_;refine Ab9 (zF rfl Bc9) rfl rfl rfl (fun w hm=>Ar3 _ _ _ w) ?_;refine sv ?_;exact zs g7
  ) (fun g7=>by
    have g7':=g7;try simp only [nH] at g7'
    iterate 3 refine Ac0 rfl rfl rfl ?_
    refine sv ?_;exact zs g7
  ) ?_
  refine st ?_
  refine Ab3 (dj:=12) (dp:=16) 4 rfl (fun g12=>by
    have g12':=g12;try simp only [nH] at g12'
    refine su ?_;refine Ab9 (zF rfl Bc9) rfl rfl rfl (fun w hm=>Ar3 _ _ _ w) ?_;refine sv ?_;exact zs g12
  ) (fun g12=>by
    have g12':=g12;try simp only [nH] at g12'
    iterate 3 refine Ac0 rfl rfl rfl ?_
    refine sv ?_;exact zs g12
  ) ?_
  refine st ?_
  refine Ab3 (dj:=17) (dp:=22) 5 rfl (fun g17=>by
    have g17':=g17;try simp only [nH] at g17'
    refine lv (Val.fieldAddr rfl Az7) ?_;refine lv (Val.fieldAddr rfl Az8) ?_;refine Ac9 (Ab4 rfl (.head _) Ag9 rfl) rfl rfl rfl ?_;refine sv ?_;exact zs g17
  ) (fun g17=>by
    have g17':=g17;try simp only [nH] at g17'
    iterate 4 refine Ac0 rfl rfl rfl ?_
    refine sv ?_;exact zs g17
  ) ?_
  refine st ?_
  refine Ab3 (dj:=23) (dp:=31) 8 rfl (fun g23=>by
    have g23':=g23;try simp only [nH] at g23'
    refine lv (Val.fieldAddr rfl Az7) ?_;refine lv (Val.fieldAddr rfl Az8) ?_;refine lv (Ab4 rfl (.head _) Ag9 rfl) ?_;refine lv (Val.fieldAddr rfl Az7) ?_;refine lv (Val.fieldAddr rfl An5) ?_;refine Ac9 (Ab4 rfl (.head _) Ag9 rfl) rfl rfl rfl ?_;refine sv ?_;exact zs g23
  ) (fun g23=>by
    have g23':=g23;try simp only [nH] at g23'
    iterate 7 refine Ac0 rfl rfl rfl ?_
    refine sv ?_;exact zs g23
  ) ?_
  refine st ?_
  refine Ab3 (dj:=32) (dp:=37) 5 rfl (fun g32=>by
    have g32':=g32;try simp only [nH] at g32'
    refine lv (Val.fieldAddr rfl Az7) ?_;refine lv (Val.fieldAddr rfl An5) ?_;refine Ac9 (Ab4 rfl (.head _) Ag9 rfl) rfl rfl rfl ?_;refine sv ?_;exact zs g32
  ) (fun g32=>by
    have g32':=g32;try simp only [nH] at g32'
    iterate 4 refine Ac0 rfl rfl rfl ?_
    refine sv ?_;exact zs g32
  ) ?_
  refine st ?_
  refine Ab3 (dj:=39) (dp:=43) 4 rfl (fun g39=>by
    have g39':=g39;try simp only [nH] at g39'
    refine su ?_;refine Ab9 (zF rfl Bc9) rfl rfl rfl (fun w hm=>Ar3 _ _ _ w) ?_;refine sv ?_;exact zs g39
  ) (fun g39=>by
    have g39':=g39;try simp only [nH] at g39'
    iterate 3 refine Ac0 rfl rfl rfl ?_
    refine sv ?_;exact zs g39
  ) ?_
  refine st ?_
  refine Ab3 (dj:=44) (dp:=48) 4 rfl (fun g44=>by
    have g44':=g44;try simp only [nH] at g44'
    refine su ?_;refine Ab9 (zF rfl Bc9) rfl rfl rfl (fun w hm=>Ar3 _ _ _ w) ?_;refine sv ?_;exact zs g44
  ) (fun g44=>by
    have g44':=g44;try simp only [nH] at g44'
    iterate 3 refine Ac0 rfl rfl rfl ?_
    refine sv ?_;exact zs g44
  ) ?_
  refine st ?_
  refine Ab3 (dj:=49) (dp:=53) 4 rfl (fun g49=>by
    have g49':=g49;try simp only [nH] at g49'
    refine su ?_;refine Ab9 (zF rfl Bc9) rfl rfl rfl (fun w hm=>Ar3 _ _ _ w) ?_;refine sv ?_;exact zs g49
  ) (fun g49=>by
    have g49':=g49;try simp only [nH] at g49'
    iterate 3 refine Ac0 rfl rfl rfl ?_
    refine sv ?_;exact zs g49
  ) ?_
  refine st ?_
  refine Ab3 (dj:=54) (dp:=58) 4 rfl (fun g54=>by
    have g54':=g54;try simp only [nH] at g54'
    refine su ?_;refine Ab9 (zF rfl Bc9) rfl rfl rfl (fun w hm=>Ar3 _ _ _ w) ?_;refine sv ?_;exact zs g54
  ) (fun g54=>by
    have g54':=g54;try simp only [nH] at g54'
    iterate 3 refine Ac0 rfl rfl rfl ?_
    refine sv ?_;exact zs g54
  ) ?_
  refine st ?_
  refine Ab3 (dj:=59) (dp:=63) 4 rfl (fun g59=>by
    have g59':=g59;try simp only [nH] at g59'
    refine su ?_;refine Ab9 (zF rfl Dm9) rfl rfl rfl (fun w hm=>BH4 c.p q b o cap w (hS.mono (by decide) hm (by simp)) hl) ?_;refine sv ?_;exact zs g59
  ) (fun g59=>by
    have g59':=g59;try simp only [nH] at g59'
    iterate 3 refine Ac0 rfl rfl rfl ?_
    refine sv ?_;exact zs g59
  ) ?_
  refine su ?_;exact Aa5 (.r1 rfl (.tmp rfl)) (by simp [cardR,Bool.and_assoc])
end Go.Proofs.YtnmkdiagbkkmaabGreatDoor
namespace Go.Proofs.YtnmkdiagbkkmaabGreatDoor
open Go Go.Eng
theorem CR0:Enters Tryz.prog 19:=Aa1 Tryz.func19 (by kernel_rfl) rfl
end Go.Proofs.YtnmkdiagbkkmaabGreatDoor
namespace Go.Dk
open Go Go.Eng Go.RowKit Go.Pw1 Go.Hp
def farL (c:Cd) (l:List Str):Bool:=decide (40 < c.p.things.length) || decide (60 < l.length) || l.any fun s=>decide (400 < s.length)
def heavyC (c:Cd):Bool:=decide (20 < c.cuts) && cardR c
theorem Br0 {c:Cd} {l:List Str} (h:farL c l=false):c.p.things.length≤40∧l.length≤60∧∀ s∈l,s.length≤400:=by
  unfold farL at h;simp only [Bool.or_eq_false_iff,decide_eq_false_iff_not,List.any_eq_false,decide_eq_true_eq] at h;exact ⟨by omega,by omega,fun s hs=>by have:=h.2 s hs;omega⟩
theorem Dj7 {c:Cd} {l:List Str} (h:40 < (c.p.things.length:Int)∨60 < (l.length:Int)):farL c l=true:=by
  unfold farL
  rcases h with h | h
  · rw [decide_eq_true (show 40 < c.p.things.length by omega)];rfl
  · rw [decide_eq_true (show 60 < l.length by omega),Bool.or_true];rfl
theorem Dj6 {c:Cd} {l:List Str} {v:Str} (hv:v∈l) (h:400 < (v.length:Int)):farL c l=true:=by
  unfold farL;rw [show (l.any fun s=>decide (400 < s.length))=true from List.any_eq_true.2 ⟨v,hv,decide_eq_true (by omega)⟩,Bool.or_true]
theorem Dj5 {c:Cd} {l:List Str} (h:(c.p.things.length:Int)≤40∧(l.length:Int)≤60) (hl:∀ s∈l,s.length≤400):farL c l=false:=by
  unfold farL;rw [decide_eq_false (show ¬ 40 < c.p.things.length by omega),decide_eq_false (show ¬ 60 < l.length by omega),show (l.any fun s=>decide (400 < s.length))=false from List.any_eq_false.2 fun s hs=>by have:=hl s hs;simp;omega];rfl
end Go.Dk
namespace Go.Proofs.YtnmkdiagbkkmaabGreatDoor
open Go Go.Eng Go.Dk Go.RowKit Go.Pw1 Go.Hp

theorem An3 (c:Cd) (q:Option Addr) (cap:Nat) (l:List Str) (ql:Option Addr) (bl ol cl:Nat) (W:World) (hls:Sl W ql bl ol 1 (l.map strC)) :
    Calls Tryz.prog 7 #[c.v q cap,.slice ql l.length cl] W (Pure (.bool (farL c l)) W):=by
  refine Aa0 Tryz.func7 rfl rfl ?_;refine st ?_;refine zn (New.box rfl) (fun b2=>?_)
  refine Ae1 (dj:=11) (dp:=15) 4 rfl (fun g11=>by
    have g11':=g11;try simp only [nH] at g11'
    refine st ?_;refine Ac9 (Aj5 rfl An2) rfl rfl rfl ?_;refine sv ?_;exact zs g11
  ) (fun g11=>by
    have g11':=g11;try simp only [nH] at g11'
    iterate 3 refine Ac0 rfl rfl rfl ?_
    refine sv ?_;exact zs g11
  ) ?_
  refine st ?_;refine cn rfl ?_ ?_
  ·intro c0'
   refine su ?_;exact Aa5 (.r1 rfl (.tmp rfl)) (by rw [Dj7 c0'])
  intro c0';refine st ?_;refine Ad8 (l.length) (fun k q=>(5,.int .i64 (k:Int))::q) (fun _=>_) (fun _=>[]) (fun k=>∀ s∈l.take k,s.length≤400) (by simp) rfl (zE 5 rfl rfl (zS 1 rfl (Sub.nil _))) .nil ?_;intro k kN kI;refine su ?_;refine cn rfl ?_ ?_
  ·intro c1'
   have hk:k < l.length:=by omega
   obtain ⟨v,hv⟩:∃ v,l[k]=v:=⟨_,rfl⟩;refine st ?_;refine lv (Aa2 rfl rfl An2 (by omega) (by omega) (hls.ptrM (i:=k) hk)) ?_;refine lv (Aa9 rfl (fun w hm=>Sl.loadM1 hls (by decide) hm (by simp) AC8 hk (v:=.string (bs v)) (by simp [strC,hv]))) ?_;refine lv (Ah4 rfl Ao7) ?_;refine cn rfl ?_ ?_
   ·intro c2'
    refine su ?_;exact Aa5 (.r1 rfl (.tmp rfl)) (by rw [Dj6 (hv ▸ List.getElem_mem hk) c2'])
   intro c2';refine st ?_;refine lv (Val.add rfl rfl (IntWalk.i64_in _ ⟨by omega,by omega⟩)) ?_;exact Ad0 (by omega) (fun s hs=>by rw [List.take_succ_eq_append_getElem hk,hv] at hs;rcases List.mem_append.1 hs with hs | hs;exact kI s hs;rw [List.mem_singleton] at hs;subst hs;omega) rfl (zE 5 rfl rfl (zS 1 rfl (Sub.nil _))) .nil
  intro c1';have hk:k=l.length:=by omega
  rw [hk,List.take_length] at kI;refine RunC.exit ?_;refine su ?_;refine Ab0 ?_;refine su ?_;exact Aa5 (.r1 rfl (.tmp rfl)) (by rw [Dj5 c0' kI])
theorem AG9 (c:Cd) (q:Option Addr) (b o cap:Nat) (W:World) (hS:Sl W q b o 9 (c.p.things.map Th.cells)) (hl:c.p.things.length≤100000000000) :
    Calls Tryz.prog 8 #[c.v q cap] W (Pure (.bool (heavyC c)) W):=by
  refine Aa0 Tryz.func8 rfl rfl ?_;refine st ?_;refine zn (New.box rfl) (fun b1=>?_)
  refine Ab3 (dj:=6) (dp:=9) 3 rfl (fun g6=>by
    have g6':=g6;try simp only [nH] at g6'
    refine su ?_;refine Ab9 (zF rfl CR0) rfl rfl rfl (fun w hm=>AT4 c q b o cap w (hS.mono (by decide) hm (by simp)) hl) ?_;refine sv ?_;exact zs g6
  ) (fun g6=>by
    have g6':=g6;try simp only [nH] at g6'
    refine Ac0 rfl rfl rfl ?_;refine Ac0 rfl rfl rfl ?_;refine sv ?_;exact zs g6
  ) ?_
  refine su ?_;exact Aa5 (.r1 rfl (.tmp rfl)) (by first | rfl | simp)
end Go.Proofs.YtnmkdiagbkkmaabGreatDoor
namespace Go.Dk
open Go Go.Eng Go.RowKit Go.Pw1 Go.Hp
structure BenA (W:World) (d:DkX):Prop where
  v:Sl W (ownQ d.v) (ownK d.v) 0 13 (d.vs.map VwX.cellsS)
  t:∀ x∈d.vs,Sl W (ownQ x.t) (ownK x.t) 0 9 (x.p.things.map Th.cells)
  m:MOk W d.mx
  sm:MSm d.mx
end Go.Dk
namespace Go.Proofs.YtnmkdiagbkkmaabGreatDoor
open Go Go.Eng Go.Dk Go.RowKit Go.Pw1 Go.Hp

theorem BU3 {W0 w:World} {d:DkX} {tl:Blks} (hd:DkOk d) (hm:Mem W0 [] (dkB d++tl) w):BenA w d:=by
  have hat:∀ b o,(b,o)∈dkB d→w.heap[b]? = some o:=fun b o hb=>(hm.newd b o (List.mem_append_left _ hb)).2
  have e1:d.vs.map VwX.cells=d.vs.map VwX.cellsS:=List.map_congr_left fun x hx=>VwX.cells_eq (hd.vs x hx)
  have e2:d.bs.map BoX.cells=(d.bs.map BoX.a).map BxA.cells:=by
    rw [List.map_map];exact List.map_congr_left fun x hx=>BoX.cells_eq (hd.bs x hx)
  refine ⟨?_,fun x hx=>?_,⟨?_,fun x hx=>?_,?_⟩,⟨?_,?_,fun x hx=>?_,fun t ht=>?_⟩⟩
  · rw [← e1]
    exact Al0 (f:=VwX.cells) (e:=62) (fun _=>rfl) (by decide) hd.v (fun b o h=>hat b o (Do5 h))
  · exact Al0 (f:=Th.cells) (e:=66) (fun _=>rfl) (by decide) (hd.vs x hx) (fun b o h=>hat b o (Do6 hx h))
  · show Sl w (ownQ d.b) (ownK d.b) 0 2 ((d.bs.map BoX.a).map BxA.cells)
    rw [← e2];exact Al0 (f:=BoX.cells) (e:=68) (fun _=>rfl) (by decide) hd.b (fun b o h=>hat b o (Do8 h))
  · obtain ⟨y,hy,rfl⟩:=List.mem_map.1 hx
    have h1:=hd.bs y hy;rw [Ao3] at h1;exact Al0 (f:=strC) (e:=9) (fun _=>rfl) (by decide) h1 (fun b o h=>hat b o (CR3 hy (by rw [boB,Ao3];exact h)))
  · exact Al0 (f:=Tn.cells) (e:=70) (fun _=>rfl) (by decide) hd.c (fun b o h=>hat b o (Do7 h))
  · show (d.bs.map BoX.a).length≤1000
    rw [List.length_map]
    have:=hd.few
    omega
  · have:=hd.few
    show d.cs.length≤1000
    omega
  · obtain ⟨y,hy,rfl⟩:=List.mem_map.1 hx
    exact ⟨(hd.ti y hy).1,(hd.ti y hy).2⟩
  · exact hd.tx t ht
end Go.Proofs.YtnmkdiagbkkmaabGreatDoor
namespace Go.Proofs.YtnmkdiagbkkmaabGreatDoor
open Go Go.Eng
theorem Dd8:boolB Tryz.prog 4=true:=by kernel_rfl
theorem Dj9:aggB Tryz.prog 60=true:=by kernel_rfl
theorem CP5:aggB Tryz.prog 66=true:=by kernel_rfl
theorem Dj8:aggB Tryz.prog 70=true:=by kernel_rfl
theorem Dr2 (a0:Int) (a1:Int) (a2:Int) (a3:Int) (c0:Int) (c1:Int) (c2:Int) (c3:Int):eqF Tryz.prog 8 60 [.int .i64 a0,.int .i64 a1,.int .i64 a2,.int .i64 a3] [.int .i64 c0,.int .i64 c1,.int .i64 c2,.int .i64 c3]=some (decide (a0=c0) && (decide (a1=c1) && (decide (a2=c2) && (decide (a3=c3) && true)))):=by kernel_rfl
theorem Dj2 (a0:Int) (a1:Int) (a2:Int) (a3:Int) (a4:Int) (a5:Int) (a6:Int) (a7:Int) (a8:Int) (c0:Int) (c1:Int) (c2:Int) (c3:Int) (c4:Int) (c5:Int) (c6:Int) (c7:Int) (c8:Int):eqF Tryz.prog 8 66 [.int .i64 a0,.int .i64 a1,.int .i64 a2,.int .i64 a3,.int .i64 a4,.int .i64 a5,.int .i64 a6,.int .i64 a7,.int .i64 a8] [.int .i64 c0,.int .i64 c1,.int .i64 c2,.int .i64 c3,.int .i64 c4,.int .i64 c5,.int .i64 c6,.int .i64 c7,.int .i64 c8]=some (((decide (a0=c0) && (decide (a1=c1) && true)) && ((decide (a2=c2) && (decide (a3=c3) && true)) && true)) && (((decide (a4=c4) && (decide (a5=c5) && true)) && ((decide (a6=c6) && (decide (a7=c7) && true)) && true)) && (decide (a8=c8) && true))):=by kernel_rfl
theorem Dr1 (a0:Int) (a1:ByteArray) (a2:ByteArray) (c0:Int) (c1:ByteArray) (c2:ByteArray):eqF Tryz.prog 8 70 [.int .i64 a0,.string a1,.string a2] [.int .i64 c0,.string c1,.string c2]=some (decide (a0=c0) && ((a1.toList == c1.toList) && ((a2.toList == c2.toList) && true))):=by kernel_rfl
theorem Cm0:pairB Tryz.prog 23=true:=by kernel_rfl
theorem BF9:tyB Tryz.prog 62=some (true,13):=by kernel_rfl
instance:Tyc Tryz.prog 62 true 13:=⟨BF9⟩
end Go.Proofs.YtnmkdiagbkkmaabGreatDoor
namespace Go.Dk
open Go Go.Eng Go.RowKit Go.Pw1 Go.Hp
abbrev benS (d:DkX):Value:=.agg [.slice (ownQ d.v) d.vs.length (ownC d.v),.slice (ownQ d.b) d.bs.length (ownC d.b),.slice (ownQ d.c) d.cs.length (ownC d.c)].toArray
theorem BenA.b {W:World} {d:DkX} (h:BenA W d):Sl W (ownQ d.b) (ownK d.b) 0 2 (d.bs.map BoX.cellsS):=by
  have h:=h.m.bx;unfold DkX.mx at h;dsimp only at h;rw [List.map_map] at h;exact h
theorem BenA.bt {W:World} {d:DkX} (h:BenA W d):∀ x∈d.bs,Sl W (ownQ x.t) (ownK x.t) 0 1 (x.titles.map strC):=fun x hx=>h.m.ti x.a (List.mem_map_of_mem hx)
theorem BenA.c {W:World} {d:DkX} (h:BenA W d):Sl W (ownQ d.c) (ownK d.c) 0 3 (d.cs.map Tn.cells):=h.m.cd
theorem CU7 {d e:DkX} (h:d.pl=e.pl):d.vs.map VwX.pl=e.vs.map VwX.pl∧d.bs.map BoX.pl=e.bs.map BoX.pl∧d.cs=e.cs:=by
  unfold DkX.pl at h
  injection h with h1 h2
  injection h2 with h2 h3
  exact ⟨h1,h2,h3⟩
theorem Ck1 {α β:Type} {f:α→β} {l m:List α} (h:l.map f=m.map f) {k:Nat} (hk:k < l.length):∃ hk2:k < m.length,f l[k]=f m[k]:=by
  have hl:l.length=m.length:=by have:=congrArg List.length h;simpa using this
  refine ⟨by omega,?_⟩
  have:=congrArg (fun z=>z[k]?) h
  simp only [List.getElem?_map,List.getElem?_eq_getElem hk,List.getElem?_eq_getElem (show k < m.length by omega),Option.map_some] at this;exact Option.some.inj this
end Go.Dk
namespace Go.Proofs.YtnmkdiagbkkmaabGreatDoor
open Go Go.Eng Go.Dk Go.RowKit Go.Pw1 Go.Hp

theorem CR6 {d:DkX} (hd:DkOk d):benV d=benS d:=by
  unfold benV benS;rw [Ac6 hd.v,Ac6 hd.b,Ac6 hd.c]
set_option maxHeartbeats 2000000 in
theorem BN6 (d e:DkX) (hd:DkOk d) (hpl:d.pl=e.pl) (W:World) (h1:BenA W d) (h2:BenA W e):Calls Tryz.prog 20 #[benS d,benS e] W (Pure (.bool true) W):=by
  obtain ⟨hsv,hsb,hsc⟩:=CU7 hpl;have hlv:d.vs.length=e.vs.length:=by have:=congrArg List.length hsv;simpa using this
  have hlb:d.bs.length=e.bs.length:=by have:=congrArg List.length hsb;simpa using this
  have hfew:=hd.few;have hlc:d.cs.length=e.cs.length:=congrArg List.length hsc;refine Aa0 Tryz.func20 rfl rfl ?_;refine st ?_;refine zn (New.box rfl) (fun b2=>?_)
  refine zn (New.box rfl) (fun b3=>?_)
  refine Ae4 (dj:=23) false rfl (by simp [hlv]) ?_;refine su ?_;refine Ae4 (dj:=34) false rfl (by simp [hlb]) ?_;refine su ?_;refine RunC.cond rfl (fun h=>absurd h (by simp [hlc])) ?_;intro c0;clear c0;refine st ?_;refine Ad8 (d.vs.length) (fun k q=>(5,.int .i64 (k:Int))::q) (fun _=>_) (fun _=>[]) (fun _=>True) trivial rfl (zE 5 rfl rfl (zS 2 rfl (zS 3 rfl (Sub.nil _)))) (.cons .here rfl (.cons .here rfl .nil)) ?_;intro k kN kI;clear kI;refine su ?_;refine cn rfl ?_ ?_
  ·intro c1'
   have hk:k < d.vs.length:=by omega
   obtain ⟨hk2,hxy⟩:=Ck1 hsv hk;obtain ⟨x,hx⟩:∃ x,d.vs[k]=x:=⟨_,rfl⟩;obtain ⟨y,hy⟩:∃ y,e.vs[k]=y:=⟨_,rfl⟩;have hxm:x∈d.vs:=hx ▸ List.getElem_mem hk;have hym:y∈e.vs:=hy ▸ List.getElem_mem hk2;rw [hx,hy] at hxy;have hxn:x.p.things.length≤12:=hd.things x hxm;have hxp:x.p=y.p:=congrArg Vw.p hxy;have hxc:x.cuts=y.cuts:=congrArg Vw.cuts hxy;have hxu:x.up=y.up:=congrArg Vw.up hxy;refine RunC.skip ?_;refine RunE.next ?_;refine RunC.seq ?_;refine RunC.block ?_;refine RunC.seq ?_
   apply Aj1 (J:=J2 _ _ _ _ _ _) 13 Ai9 (.cons .here rfl (.cons .here rfl .nil))
   ·refine zw 0 ?_
    refine zw 1 ?_;refine zw 2 ?_;refine zv 3 rfl (Aa2 rfl rfl Ax3 (by omega) (by omega) (h1.v.ptrM hk)) ?_;refine zv 4 rfl (Aa9 rfl (fun w hm=>h1.v.loadX (by decide) hm (by simp) BF9 hk hx)) ?_;refine zw 5 ?_;refine zw 6 ?_;refine zw 7 ?_;refine zv 8 rfl (Aa2 rfl rfl Ax3 (by omega) (by omega) (h2.v.ptrM hk2)) ?_;refine zv 9 rfl (Aa9 rfl (fun w hm=>h2.v.loadX (by decide) hm (by simp) BF9 hk2 hy)) ?_;refine Ag2 (rs:=[10,11]) (by kernel_rfl) (by simp) (by kernel_rfl) (fun m hm=>?_)
    simp only [List.mem_cons,List.not_mem_nil,or_false] at hm
    rcases hm with rfl | rfl
    ·refine Ac2 rfl (New.alloc AK6) rfl rfl rfl (fun b6=>(Aa6 (.cons (.there .here) rfl (.cons (.there .here) rfl .nil)) (.cons .here rfl (.cons .here rfl .nil)) rfl ?_))
     refine zA 11 ?_;refine Ac2 rfl (New.alloc AK6) rfl rfl rfl (fun b7=>(Aa6 (.cons .here rfl (.cons (.there .here) rfl (.cons (.there .here) rfl .nil))) (.cons (.there .here) rfl (.cons (.there .here) rfl .nil)) rfl ?_))
     refine zA 12 ?_;refine Ab8 rfl (Sto.store rfl rfl (.there .here) BF9 rfl rfl) rfl rfl (Aa6 (.cons .here rfl (.cons (.there .here) rfl (.cons (.there .here) rfl .nil))) (.cons .here rfl (.cons .here rfl (.cons .here rfl .nil))) rfl ?_)
     refine zt ?_;refine zB 13 ?_;refine Ab8 rfl (Sto.store rfl rfl .here BF9 rfl rfl) rfl rfl (Ab7 ?_)
     refine zd ?_;exact Ag5 b6 b7 (Ac1 _) (Pick.refl _)
    refine Ac2 rfl (New.alloc AK6) rfl rfl rfl (fun b7=>(Aa6 (.cons .here rfl (.cons .here rfl (.cons .here rfl .nil))) (.cons (.there .here) rfl (.cons (.there .here) rfl .nil)) rfl ?_))
    refine zA 10 ?_;refine Ac2 rfl (New.alloc AK6) rfl rfl rfl (fun b6=>(Aa6 (.cons (.there .here) rfl (.cons (.there .here) rfl (.cons (.there .here) rfl .nil))) (.cons .here rfl (.cons .here rfl (.cons .here rfl .nil))) rfl ?_))
    refine zA 12 ?_;refine Ab8 rfl (Sto.store rfl rfl .here BF9 rfl rfl) rfl rfl (Aa6 (.cons (.there .here) rfl (.cons (.there .here) rfl (.cons (.there .here) rfl .nil))) (.cons .here rfl (.cons .here rfl (.cons .here rfl .nil))) rfl ?_)
    refine zt ?_;refine zB 13 ?_;refine Ab8 rfl (Sto.store rfl rfl (.there .here) BF9 rfl rfl) rfl rfl (Ab7 ?_)
    refine zd ?_;exact Ag5 b6 b7 (zS 7 rfl (zS 6 rfl (zS 61 rfl (zS 60 rfl (zS 59 rfl (zS 58 rfl (zS 57 rfl (zS 56 rfl (zS 55 rfl (zS 54 rfl (zS 53 rfl (zS 52 rfl (Sub.skip rfl (Sub.skip rfl (Sub.skip rfl (Sub.skip rfl (Sub.skip rfl (Sub.skip rfl (Sub.skip rfl (Sub.skip rfl (Sub.skip rfl (Sub.skip rfl (Sub.skip rfl (Sub.skip rfl (Ac1 _))))))))))))))))))))))))) (.cons (.there .here) rfl (.cons .here rfl (.cons .here rfl (.cons .here rfl .nil))))
   refine J2.out (fun b6 b7=>?_)
   refine RunE.next ?_;refine RunC.seq ?_
   apply Aj1 (J:=J2 _ _ _ _ _ _) 7 Ai9 (.cons .here rfl (.cons .here rfl (.cons .here rfl (.cons .here rfl .nil))))
   ·refine zw 0 ?_
    refine zw 1 ?_;refine zw 2 ?_;refine zw 3 ?_;refine Ag2 (rs:=[4,5]) (by kernel_rfl) (by simp) (by kernel_rfl) (fun m hm=>?_)
    simp only [List.mem_cons,List.not_mem_nil,or_false] at hm
    rcases hm with rfl | rfl
    ·refine Ac2 rfl (New.alloc AQ2) rfl rfl rfl (fun b8=>(Aa6 (.cons (.there .here) rfl (.cons (.there .here) rfl (.cons (.there .here) rfl (.cons (.there .here) rfl .nil)))) (.cons .here rfl (.cons .here rfl (.cons .here rfl (.cons .here rfl .nil)))) rfl ?_))
     refine zA 5 ?_;refine Ac2 rfl (New.alloc AQ2) rfl rfl rfl (fun b9=>(Aa6 (.cons .here rfl (.cons (.there .here) rfl (.cons (.there .here) rfl (.cons (.there .here) rfl (.cons (.there .here) rfl .nil))))) (.cons (.there .here) rfl (.cons (.there .here) rfl (.cons (.there .here) rfl (.cons (.there .here) rfl .nil)))) rfl ?_))
     refine zA 6 ?_;refine Ab8 rfl (Sto.store rfl rfl (.there .here) AQ3 rfl rfl) rfl rfl (Aa6 (.cons .here rfl (.cons (.there .here) rfl (.cons (.there .here) rfl (.cons (.there .here) rfl (.cons (.there .here) rfl .nil))))) (.cons .here rfl (.cons .here rfl (.cons .here rfl (.cons .here rfl (.cons .here rfl .nil))))) rfl ?_)
     refine zt ?_;refine zB 7 ?_;refine Ab8 rfl (Sto.store rfl rfl .here AQ3 rfl rfl) rfl rfl (Ab7 ?_)
     refine zd ?_;exact Ag5 b8 b9 (Ac1 _) (Pick.refl _)
    refine Ac2 rfl (New.alloc AQ2) rfl rfl rfl (fun b9=>(Aa6 (.cons .here rfl (.cons .here rfl (.cons .here rfl (.cons .here rfl (.cons .here rfl .nil))))) (.cons (.there .here) rfl (.cons (.there .here) rfl (.cons (.there .here) rfl (.cons (.there .here) rfl .nil)))) rfl ?_))
    refine zA 4 ?_;refine Ac2 rfl (New.alloc AQ2) rfl rfl rfl (fun b8=>(Aa6 (.cons (.there .here) rfl (.cons (.there .here) rfl (.cons (.there .here) rfl (.cons (.there .here) rfl (.cons (.there .here) rfl .nil))))) (.cons .here rfl (.cons .here rfl (.cons .here rfl (.cons .here rfl (.cons .here rfl .nil))))) rfl ?_))
    refine zA 6 ?_;refine Ab8 rfl (Sto.store rfl rfl .here AQ3 rfl rfl) rfl rfl (Aa6 (.cons (.there .here) rfl (.cons (.there .here) rfl (.cons (.there .here) rfl (.cons (.there .here) rfl (.cons (.there .here) rfl .nil))))) (.cons .here rfl (.cons .here rfl (.cons .here rfl (.cons .here rfl (.cons .here rfl .nil))))) rfl ?_)
    refine zt ?_;refine zB 7 ?_;refine Ab8 rfl (Sto.store rfl rfl (.there .here) AQ3 rfl rfl) rfl rfl (Ab7 ?_)
    refine zd ?_;exact Ag5 b8 b9 (zS 9 rfl (zS 8 rfl (zS 65 rfl (zS 64 rfl (zS 63 rfl (zS 62 rfl (Sub.skip rfl (Sub.skip rfl (Sub.skip rfl (Sub.skip rfl (Sub.skip rfl (Sub.skip rfl (Ac1 _))))))))))))) (.cons (.there .here) rfl (.cons .here rfl (.cons .here rfl (.cons .here rfl (.cons .here rfl (.cons .here rfl .nil))))))
   refine J2.out (fun b8 b9=>?_)
   refine su ?_;refine lv (BE0 rfl rfl Dd8) ?_;refine Ae4 (dj:=71) false rfl (by simp [hxu]) ?_;refine su ?_;refine lv (At6 rfl rfl Dj9 (Dr2 _ _ _ _ _ _ _ _ )) ?_;refine Ae4 (dj:=78) false rfl (by simp [hxc]) ?_;refine su ?_;refine lv (AA2 rfl rfl Cm0) ?_;refine Ae4 (dj:=85) false rfl (by simp [hxp]) ?_;refine su ?_;refine lv (AA2 rfl rfl Cm0) ?_;refine Ae4 (dj:=92) false rfl (by simp [hxp]) ?_;refine su ?_;refine Ae4 (dj:=99) false rfl (by simp [hxp]) ?_;refine su ?_;refine Ae4 (dj:=106) false rfl (by simp [hxp]) ?_;refine su ?_;refine Ae4 (dj:=113) false rfl (by simp [hxp]) ?_;refine su ?_;refine RunC.cond rfl (fun h=>absurd h (by simp [hxp])) ?_;intro c2;clear c2;refine st ?_;refine Ad8 (x.p.things.length) (fun j q=>(10,.int .i64 (j:Int))::q) (fun _=>_) (fun _=>[]) (fun _=>True) trivial rfl (zE 10 rfl rfl (zS 2 rfl (zS 3 rfl (zS 5 rfl (zS 6 rfl (zS 7 rfl (zS 8 rfl (zS 9 rfl (Sub.nil _))))))))) (.cons .here rfl (.cons .here rfl (.cons .here rfl (.cons .here rfl (.cons .here rfl (.cons .here rfl .nil)))))) ?_;intro j jN jI;clear jI;refine su ?_;refine cn rfl ?_ ?_
   ·intro c3'
    have hj:j < x.p.things.length:=by omega
    have hj2:j < y.p.things.length:=by (rw [← hxp];exact hj)
    obtain ⟨u,hu⟩:∃ u,x.p.things[j]=u:=⟨_,rfl⟩;have hu2:y.p.things[j]=u:=by (rw [← hu];congr 1;rw [hxp])
    refine st ?_;refine Ac3 10 Ai9 (.cons .here rfl (.cons .here rfl (.cons .here rfl (.cons .here rfl (.cons .here rfl (.cons .here rfl .nil)))))) ?_;refine zw 0 ?_;refine zw 1 ?_;refine zw 2 ?_;refine zv 3 rfl (Aa2 rfl rfl Aq9 (by omega) (by omega) ((h1.t x hxm).ptrM hj)) ?_;refine zv 4 rfl (Aa9 rfl (fun w hm=>(h1.t x hxm).loadX (by decide) hm (by simp) Av2 hj hu)) ?_;refine zw 5 ?_;refine zw 6 ?_;refine zw 7 ?_;refine zv 8 rfl (Aa2 rfl rfl Aq9 (by omega) (by omega) ((h2.t y hym).ptrM hj2)) ?_;refine zv 9 rfl (Aa9 rfl (fun w hm=>(h2.t y hym).loadX (by decide) hm (by simp) Av2 hj2 hu2)) ?_;refine zt ?_;refine zo 10 rfl (At6 rfl rfl CP5 (Dj2 _ _ _ _ _ _ _ _ _ _ _ _ _ _ _ _ _ _ )) ?_;refine zd ?_;refine st ?_;refine RunC.cond rfl (fun h=>absurd h (by simp)) ?_;intro c4;clear c4;refine st ?_;refine lv (Val.add rfl rfl (IntWalk.i64_in _ ⟨by omega,by omega⟩)) ?_;exact Ad0 (by omega) trivial rfl (zE 10 rfl rfl (zS 2 rfl (zS 3 rfl (zS 5 rfl (zS 6 rfl (zS 7 rfl (zS 8 rfl (zS 9 rfl (Sub.nil _))))))))) (.cons .here rfl (.cons .here rfl (.cons .here rfl (.cons .here rfl (.cons .here rfl (.cons .here rfl .nil))))))
   intro c3';refine RunC.exit ?_;refine su ?_;refine Ab0 ?_;refine st ?_;refine lv (Val.add rfl rfl (IntWalk.i64_in _ ⟨by omega,by omega⟩)) ?_;exact Ad0 (by omega) trivial rfl (zE 5 rfl rfl (zS 2 rfl (zS 3 rfl (Sub.nil _)))) (.cons (.there (.there (.there (.there .here)))) rfl (.cons (.there (.there (.there (.there .here)))) rfl .nil))
  intro c1';refine RunC.exit ?_;refine su ?_;refine Ab0 ?_;refine st ?_;refine Ad8 (d.bs.length) (fun k q=>(11,.int .i64 (k:Int))::q) (fun _=>_) (fun _=>[]) (fun _=>True) trivial rfl (zE 11 rfl rfl (zS 2 rfl (zS 3 rfl (Sub.nil _)))) (.cons .here rfl (.cons .here rfl .nil)) ?_;intro k kN kI;clear kI;refine su ?_;refine cn rfl ?_ ?_
  ·intro c5'
   have hk:k < d.bs.length:=by omega
   obtain ⟨hk2,hxy⟩:=Ck1 hsb hk;obtain ⟨x,hx⟩:∃ x,d.bs[k]=x:=⟨_,rfl⟩;obtain ⟨y,hy⟩:∃ y,e.bs[k]=y:=⟨_,rfl⟩;have hxm:x∈d.bs:=hx ▸ List.getElem_mem hk;have hym:y∈e.bs:=hy ▸ List.getElem_mem hk2;rw [hx,hy] at hxy;have hxn:x.titles.length≤1000:=(hd.ti x hxm).1;have hxo:x.a.bx.colour=y.a.bx.colour:=congrArg Bx.colour hxy;have hxt:x.titles=y.titles:=congrArg Bx.titles hxy;have hxt2:x.a.bx.titles=y.a.bx.titles:=hxt;have hxa:x.a.bx.titles.length=x.titles.length:=rfl;have hya:y.a.bx.titles.length=y.titles.length:=rfl;refine RunC.skip ?_;refine RunE.next ?_;refine RunC.seq ?_;refine RunC.block ?_;refine RunC.seq ?_
   apply Aj1 (J:=J2 _ _ _ _ _ _) 15 Ai9 (.cons .here rfl (.cons .here rfl .nil))
   ·refine zw 0 ?_
    refine zw 1 ?_;refine zw 2 ?_;refine zw 3 ?_;refine zv 4 rfl (Aa2 rfl rfl AQ6 (by omega) (by omega) (h1.b.ptrM hk)) ?_;refine zv 5 rfl (Aa9 rfl (fun w hm=>h1.b.loadX (by decide) hm (by simp) Bg3 hk hx)) ?_;refine zw 6 ?_;refine zw 7 ?_;refine zw 8 ?_;refine zw 9 ?_;refine zv 10 rfl (Aa2 rfl rfl AQ6 (by omega) (by omega) (h2.b.ptrM hk2)) ?_;refine zv 11 rfl (Aa9 rfl (fun w hm=>h2.b.loadX (by decide) hm (by simp) Bg3 hk2 hy)) ?_;refine Ag2 (rs:=[12,13]) (by kernel_rfl) (by simp) (by kernel_rfl) (fun m hm=>?_)
    simp only [List.mem_cons,List.not_mem_nil,or_false] at hm
    rcases hm with rfl | rfl
    ·refine Ac2 rfl (New.alloc AF5) rfl rfl rfl (fun b12=>(Aa6 (.cons (.there .here) rfl (.cons (.there .here) rfl .nil)) (.cons .here rfl (.cons .here rfl .nil)) rfl ?_))
     refine zA 13 ?_;refine Ac2 rfl (New.alloc AF5) rfl rfl rfl (fun b13=>(Aa6 (.cons .here rfl (.cons (.there .here) rfl (.cons (.there .here) rfl .nil))) (.cons (.there .here) rfl (.cons (.there .here) rfl .nil)) rfl ?_))
     refine zA 14 ?_;refine Ab8 rfl (Sto.store rfl rfl (.there .here) Bg3 rfl rfl) rfl rfl (Aa6 (.cons .here rfl (.cons (.there .here) rfl (.cons (.there .here) rfl .nil))) (.cons .here rfl (.cons .here rfl (.cons .here rfl .nil))) rfl ?_)
     refine zt ?_;refine zB 15 ?_;refine Ab8 rfl (Sto.store rfl rfl .here Bg3 rfl rfl) rfl rfl (Ab7 ?_)
     refine zd ?_;exact Ag5 b12 b13 (Ac1 _) (Pick.refl _)
    refine Ac2 rfl (New.alloc AF5) rfl rfl rfl (fun b13=>(Aa6 (.cons .here rfl (.cons .here rfl (.cons .here rfl .nil))) (.cons (.there .here) rfl (.cons (.there .here) rfl .nil)) rfl ?_))
    refine zA 12 ?_;refine Ac2 rfl (New.alloc AF5) rfl rfl rfl (fun b12=>(Aa6 (.cons (.there .here) rfl (.cons (.there .here) rfl (.cons (.there .here) rfl .nil))) (.cons .here rfl (.cons .here rfl (.cons .here rfl .nil))) rfl ?_))
    refine zA 14 ?_;refine Ab8 rfl (Sto.store rfl rfl .here Bg3 rfl rfl) rfl rfl (Aa6 (.cons (.there .here) rfl (.cons (.there .here) rfl (.cons (.there .here) rfl .nil))) (.cons .here rfl (.cons .here rfl (.cons .here rfl .nil))) rfl ?_)
    refine zt ?_;refine zB 15 ?_;refine Ab8 rfl (Sto.store rfl rfl (.there .here) Bg3 rfl rfl) rfl rfl (Ab7 ?_)
    refine zd ?_;exact Ag5 b12 b13 (zS 13 rfl (zS 12 rfl (zS 159 rfl (zS 158 rfl (zS 157 rfl (zS 156 rfl (zS 155 rfl (zS 154 rfl (zS 153 rfl (zS 152 rfl (zS 151 rfl (zS 150 rfl (zS 149 rfl (zS 148 rfl (Sub.skip rfl (Sub.skip rfl (Sub.skip rfl (Sub.skip rfl (Sub.skip rfl (Sub.skip rfl (Sub.skip rfl (Sub.skip rfl (Sub.skip rfl (Sub.skip rfl (Sub.skip rfl (Sub.skip rfl (Sub.skip rfl (Sub.skip rfl (Ac1 _))))))))))))))))))))))))))))) (.cons (.there .here) rfl (.cons .here rfl (.cons .here rfl (.cons .here rfl .nil))))
   refine J2.out (fun b12 b13=>?_)
   refine su ?_;refine Ae4 (dj:=165) false rfl (by simp [hxo]) ?_;refine su ?_;refine RunC.cond rfl (fun h=>absurd h (by simp [hxt2])) ?_;intro c6;clear c6;refine st ?_;refine Ad8 (x.titles.length) (fun j q=>(14,.int .i64 (j:Int))::q) (fun _=>_) (fun _=>[]) (fun _=>True) trivial rfl (zE 14 rfl rfl (zS 2 rfl (zS 3 rfl (zS 11 rfl (zS 12 rfl (zS 13 rfl (Sub.nil _))))))) (.cons .here rfl (.cons .here rfl (.cons .here rfl (.cons .here rfl .nil)))) ?_;intro j jN jI;clear jI;refine su ?_;refine cn rfl ?_ ?_
   ·intro c7'
    have hj:j < x.titles.length:=by omega
    have hj2:j < y.titles.length:=by (rw [← hxt];exact hj)
    obtain ⟨u,hu⟩:∃ u,x.titles[j]=u:=⟨_,rfl⟩;have hu2:y.titles[j]=u:=by (rw [← hu];congr 1;rw [hxt])
    refine st ?_;refine Ac3 10 Ai9 (.cons .here rfl (.cons .here rfl (.cons .here rfl (.cons .here rfl .nil)))) ?_;refine zw 0 ?_;refine zw 1 ?_;refine zw 2 ?_;refine zv 3 rfl (Aa2 rfl rfl An2 (by omega) (by omega) ((h1.bt x hxm).ptrM hj)) ?_;refine zv 4 rfl (Aa9 rfl (fun w hm=>Sl.loadM1 (h1.bt x hxm) (by decide) hm (by simp) AC8 hj (v:=.string (bs u)) (by simp [strC,hu]))) ?_;refine zw 5 ?_;refine zw 6 ?_;refine zw 7 ?_;refine zv 8 rfl (Aa2 rfl rfl An2 (by omega) (by omega) ((h2.bt y hym).ptrM hj2)) ?_;refine zv 9 rfl (Aa9 rfl (fun w hm=>Sl.loadM1 (h2.bt y hym) (by decide) hm (by simp) AC8 hj2 (v:=.string (bs u)) (by simp [strC,hu2]))) ?_;refine zt ?_;refine zo 10 rfl (Aw4 rfl rfl) ?_;refine zd ?_;refine st ?_;refine RunC.cond rfl (fun h=>absurd h (by simp)) ?_;intro c8;clear c8;refine st ?_;refine lv (Val.add rfl rfl (IntWalk.i64_in _ ⟨by omega,by omega⟩)) ?_;exact Ad0 (by omega) trivial rfl (zE 14 rfl rfl (zS 2 rfl (zS 3 rfl (zS 11 rfl (zS 12 rfl (zS 13 rfl (Sub.nil _))))))) (.cons .here rfl (.cons .here rfl (.cons .here rfl (.cons .here rfl .nil))))
   intro c7';refine RunC.exit ?_;refine su ?_;refine Ab0 ?_;refine st ?_;refine lv (Val.add rfl rfl (IntWalk.i64_in _ ⟨by omega,by omega⟩)) ?_;exact Ad0 (by omega) trivial rfl (zE 11 rfl rfl (zS 2 rfl (zS 3 rfl (Sub.nil _)))) (.cons (.there (.there .here)) rfl (.cons (.there (.there .here)) rfl .nil))
  intro c5';refine RunC.exit ?_;refine su ?_;refine Ab0 ?_;refine st ?_;refine Ad8 (d.cs.length) (fun k q=>(15,.int .i64 (k:Int))::q) (fun _=>_) (fun _=>[]) (fun _=>True) trivial rfl (zE 15 rfl rfl (zS 2 rfl (zS 3 rfl (Sub.nil _)))) (.cons .here rfl (.cons .here rfl .nil)) ?_;intro k kN kI;clear kI;refine su ?_;refine cn rfl ?_ ?_
  ·intro c9'
   have hk:k < d.cs.length:=by omega
   have hk2:k < e.cs.length:=by omega
   obtain ⟨u,hu⟩:∃ u,d.cs[k]=u:=⟨_,rfl⟩;have hu2:e.cs[k]=u:=by (rw [← hu];congr 1;rw [hsc])
   refine st ?_;refine Ac3 12 Ai9 (.cons .here rfl (.cons .here rfl .nil)) ?_;refine zw 0 ?_;refine zw 1 ?_;refine zw 2 ?_;refine zw 3 ?_;refine zv 4 rfl (Aa2 rfl rfl AM5 (by omega) (by omega) (h1.c.ptrM hk)) ?_;refine zv 5 rfl (Aa9 rfl (fun w hm=>h1.c.loadX (by decide) hm (by simp) BF8 hk hu)) ?_;refine zw 6 ?_;refine zw 7 ?_;refine zw 8 ?_;refine zw 9 ?_;refine zv 10 rfl (Aa2 rfl rfl AM5 (by omega) (by omega) (h2.c.ptrM hk2)) ?_;refine zv 11 rfl (Aa9 rfl (fun w hm=>h2.c.loadX (by decide) hm (by simp) BF8 hk2 hu2)) ?_;refine zt ?_;refine zo 12 rfl (At6 rfl rfl Dj8 (Dr1 _ _ _ _ _ _ )) ?_;refine zd ?_;refine st ?_;refine RunC.cond rfl (fun h=>absurd h (by simp)) ?_;intro c10;clear c10;refine st ?_;refine lv (Val.add rfl rfl (IntWalk.i64_in _ ⟨by omega,by omega⟩)) ?_;exact Ad0 (by omega) trivial rfl (zE 15 rfl rfl (zS 2 rfl (zS 3 rfl (Sub.nil _)))) (.cons .here rfl (.cons .here rfl .nil))
  intro c9';refine RunC.exit ?_;refine su ?_;refine Ab0 ?_;refine su ?_;exact Aa5 (.r1 rfl (.tmp rfl)) (by first | rfl | simp)
end Go.Proofs.YtnmkdiagbkkmaabGreatDoor
namespace Go.Dk
open Go Go.Eng Go.RowKit Go.Pw1 Go.Hp
def playX (c:Cd):Bn→List Str→Bn×List Str
  | b,[]=>(b,[])
  | b,s::l=>((playX c (stepX c b s).1 l).1,echoX (stepX c b s).2.1 (stepX c b s).2.2::(playX c (stepX c b s).1 l).2)
theorem Bx0 (c:Cd):∀ (l:List Str) (b:Bn) (s:Str),playX c b (l++[s])=((stepX c (playX c b l).1 s).1,(playX c b l).2++[echoX (stepX c (playX c b l).1 s).2.1 (stepX c (playX c b l).1 s).2.2])
  | [],b,s=>rfl
  | t::l,b,s=>by
    have ih:=Bx0 c l (stepX c b t).1 s;simp only [List.cons_append,playX,ih]
theorem AX1 (c:Cd):∀ (l:List Str) (b:Bn),(playX c b l).2.length=l.length
  | [],_=>rfl
  | s::l,b=>by simp only [playX,List.length_cons];rw [AX1 c l]
end Go.Dk
namespace Go.Proofs.YtnmkdiagbkkmaabGreatDoor
open Go Go.Eng Go.Dk Go.RowKit Go.Pw1 Go.Hp

end Go.Proofs.YtnmkdiagbkkmaabGreatDoor
namespace Go.Dk
open Go Go.Eng Go.RowKit Go.Pw1 Go.Hp
abbrev RunZ:=Nat×DkX×Eng.Own×List Str
structure RunOk (c:Cd) (l:List Str) (d:DkX) (o:Eng.Own) (t:List Str):Prop where
  dk:DkOk d
  own:OwnOk 1 o t.length (t.map strC).flatten
  pl:playX (bareC c) noBn l=(d.pl,t)
theorem Ck2 (c:Cd):RunOk c [] noDk none []:=⟨Cn8,OwnOk.start,rfl⟩
theorem BQ7 {c:Cd} {l:List Str} {d d':DkX} {o o':Eng.Own} {t:List Str} {v r r1:Str} {e:Int} (h:RunOk c l d o t) (hd:DkOk d') (hs:(d'.pl,r,e)=stepX (bareC c) d.pl v) (hr:echoX r e=r1) (ho:OwnOk 1 o' (t.length + 1) ((t.map strC).flatten++strC r1)):RunOk c (l++[v]) d' o' (t++[r1]) :=
  ⟨hd,by rw [List.length_append,List.length_singleton,List.map_append,List.flatten_append];simpa using ho,by
    rw [Bx0,h.pl];dsimp only;rw [← hs,← hr]⟩
end Go.Dk
namespace Go.Proofs.YtnmkdiagbkkmaabGreatDoor
open Go Go.Eng Go.Dk Go.RowKit Go.Pw1 Go.Hp

set_option maxHeartbeats 2000000 in
theorem CW5 (c:Cd) (q:Option Addr) (b o cap:Nat) (hq:q=none→cap=0) (l:List Str) (ql:Option Addr) (bl ol cl:Nat) (W:World) (hL:Lw Tryz.prog W) (hS:Sl W q b o 9 (c.p.things.map Th.cells)) (hl:c.p.things.length≤1000) (hls:Sl W ql bl ol 1 (l.map strC)) (hln:l.length≤10000) (hlv:∀ s∈l,s.length≤100000) (hc:cardIs c=true) :
    Calls Tryz.prog 18 #[c.v q cap,.slice ql l.length cl] W (Grow W [] (fun z:RunZ=>.tuple #[pV z.1,ownV z.2.2.1 z.2.2.2.length]) (fun z=>(z.1,dkO z.2.1 c)::(ownB 9 z.2.2.1 (z.2.2.2.map strC).flatten++(dkB z.2.1++[]))) (fun z=>RunOk c l z.2.1 z.2.2.1 z.2.2.2)):=by
  have hund:Tryz.prog.underlying 33=some (.pointer 86):=by kernel_rfl
  refine Aa0 Tryz.func18 rfl rfl ?_;refine st ?_;refine zn (New.box rfl) (fun b2=>?_)
  refine Ag4 (zF rfl BT5) rfl rfl rfl (fun w hm=>CS1 c q b o cap w (hS.mono (by decide) hm (by simp)) hq (by omega) hc) (fun b15=>?_)
  refine st ?_;refine lv (Ag7 rfl hund) ?_;refine An1 rfl ?_;refine su ?_;refine Ae3 (X:=DkX×Eng.Own×List Str) (n0:=[(b2,_)]) (l.length) (fun k y q=>(22,.int .i64 (k:Int))::(8,ownV y.2.1 y.2.2.length)::q) (fun _ _=>_) (fun k y=>[(b15,dkO y.1 c)]) (fun k y=>ownB 9 y.2.1 (y.2.2.map strC).flatten++(dkB y.1++[])) (fun k y=>RunOk c (l.take k) y.1 y.2.1 y.2.2) (noDk,none,[]) (Ck2 c) rfl (zE 22 rfl rfl (zE 8 rfl rfl (zS 1 rfl (zS 6 rfl (zS 20 rfl (zS 21 rfl (Sub.nil _))))))) (.cons .here rfl (.cons .here rfl (Pick.same rfl))) ?_;intro k y kN kI;obtain ⟨yd,yo,yl⟩:=y;dsimp only at kI ⊢;have hyl:yl.length≤l.length:=by (have h9:=AX1 (bareC c) (l.take k) noBn;rw [kI.pl,List.length_take] at h9;dsimp only at h9;omega)
  refine st ?_;refine cn rfl ?_ ?_
  ·intro c1'
   have hk:k < l.length:=by omega
   obtain ⟨v,hv⟩:∃ v,l[k]=v:=⟨_,rfl⟩;have hvm:v∈l:=hv ▸ List.getElem_mem hk;refine st ?_;refine lv (Aa2 rfl rfl An2 (by omega) (by omega) (hls.ptrM hk)) ?_;refine lv (Aa9 rfl (fun w hm=>Sl.loadM1 hls (by decide) hm (by simp) AC8 hk (v:=.string (bs v)) (by simp [strC,hv]))) ?_;refine Ap6 (zF rfl Cw2) rfl rfl rfl (fun w hm=>(AP2 (nw':=fun z:DkX×Str×Int=>(b15,dkO z.1 c)::(b2,.cells (cellsL (c.v q cap)).toArray 28 (0,0))::(ownB 9 yo (yl.map strC).flatten++(dkB z.1++[]))) (AT0 v (hlv v hvm) b15 yd c ((b2,.cells (cellsL (c.v q cap)).toArray 28 (0,0))::ownB 9 yo (yl.map strC).flatten) W w hL kI.dk (hm.pick (Pick.cnt fun x=>by simp only [nC,List.map_append,List.flatten_append,List.map_cons,List.map_nil,List.flatten_cons,List.flatten_nil,List.append_nil,dkM];omega))) (fun _=>(Pick.cnt fun x=>by simp only [nC,List.map_append,List.flatten_append,List.map_cons,List.map_nil,List.flatten_cons,List.flatten_nil,List.append_nil,dkM];omega)))) (fun z29 hz29=>?_)
   obtain ⟨hzd,hzs⟩:=hz29;have hcod:Cod z29.2.2:=(by have h2:=BQ1 kI.dk.sm (bareC c) v;rw [← hzs] at h2;exact h2);have hit:=AE1 hcod.in64;refine st ?_;refine cn rfl ?_ ?_
   ·intro c2'
    have hec:echoX z29.2.1 z29.2.2=([101,114,114,111,114,32]++Lib.itoa z29.2.2):=by (unfold echoX;rw [if_neg (by simpa using c2')];simp [sayX,wError])
    refine st ?_;refine zc (zF rfl Bl3) (fun w hm=>Ax9 z29.2.2 hcod.in64 w (hL.mono hm)) ?_;refine lv (AS4 rfl rfl (by simp;omega)) ?_;refine zn (New.buildSlice (parts:=[(0,.tmp 38)]) rfl An2 AY1 rfl rfl rfl rfl) (fun b39=>?_)
    refine RunL.append (A:=[(b39,_),(b15,_),(b2,_)]) (B:=_) (x:=yo) (ys:=strC ([101,114,114,111,114,32]++Lib.itoa z29.2.2)) BN0 rfl rfl rfl kI.own rfl (fun h=>by cases h) (fun w hm=>Al8 (hm.at (.head _))) (Aq1 rfl) (by simp only [maxLen];omega) (by omega) rfl (fun z40 hz40=>?_)
    refine st ?_;refine lv (Val.add rfl rfl (IntWalk.i64_in _ ⟨by omega,by omega⟩)) ?_;exact Ac8 (z29.1,z40,yl++[([101,114,114,111,114,32]++Lib.itoa z29.2.2)]) (by omega) (by rw [List.take_succ_eq_append_getElem hk,hv];exact BQ7 kI hzd hzs hec hz40) rfl (zE 22 rfl rfl (zE 8 rfl (by simp) (zS 1 rfl (zS 6 rfl (zS 20 rfl (zS 21 rfl (Sub.nil _))))))) (Pick.cnt fun x=>by simp only [nC,List.map_append,List.flatten_append,List.map_cons,List.map_nil,List.flatten_cons,List.flatten_nil,List.append_nil,dkM];omega)
   intro c2';have hec:echoX z29.2.1 z29.2.2=z29.2.1:=by (unfold echoX;rw [if_pos (by simpa using c2')])
   refine st ?_;refine zn (New.buildSlice (parts:=[(0,.tmp 38)]) rfl An2 AY1 rfl rfl rfl rfl) (fun b39=>?_)
   refine RunL.append (A:=[(b39,_),(b15,_),(b2,_)]) (B:=_) (x:=yo) (ys:=strC z29.2.1) BN0 rfl rfl rfl kI.own rfl (fun h=>by cases h) (fun w hm=>Al8 (hm.at (.head _))) (Aq1 rfl) (by simp only [maxLen];omega) (by omega) rfl (fun z40 hz40=>?_)
   refine st ?_;refine lv (Val.add rfl rfl (IntWalk.i64_in _ ⟨by omega,by omega⟩)) ?_;exact Ac8 (z29.1,z40,yl++[z29.2.1]) (by omega) (by rw [List.take_succ_eq_append_getElem hk,hv];exact BQ7 kI hzd hzs hec hz40) rfl (zE 22 rfl rfl (zE 8 rfl (by simp) (zS 1 rfl (zS 6 rfl (zS 20 rfl (zS 21 rfl (Sub.nil _))))))) (Pick.cnt fun x=>by simp only [nC,List.map_append,List.flatten_append,List.map_cons,List.map_nil,List.flatten_cons,List.flatten_nil,List.append_nil,dkM];omega)
  intro c1';have hk:k=l.length:=by omega
  rw [hk,List.take_length] at kI;refine RunC.exit ?_;refine su ?_;refine Ab0 ?_;refine su ?_;exact BE9 (b15,yd,yo,yl) kI (.r2 rfl (.tmp rfl) (.tmp rfl)) rfl (.cons .here rfl (Pick.skip (Pick.refl _)))
end Go.Proofs.YtnmkdiagbkkmaabGreatDoor
namespace Go.Eng
open Go Go.RowKit
end Go.Eng
namespace Go.Dk
open Go Go.Eng Go.RowKit Go.Pw1 Go.Hp
structure CutOk (c:Cd) (pre:List Str) (d:DkX) (ko ro:Eng.Own) (kl rl:List Str):Prop where
  dk:DkOk d
  o1:OwnOk 1 ko kl.length (kl.map strC).flatten
  o2:OwnOk 1 ro rl.length (rl.map strC).flatten
  pl:playX (bareC c) noBn kl=(d.pl,rl)
  n:kl.length≤pre.length
  s:∀ s∈kl,s∈pre
theorem CutOk.len {c:Cd} {pre:List Str} {d:DkX} {ko ro:Eng.Own} {kl rl:List Str} (h:CutOk c pre d ko ro kl rl):rl.length=kl.length:=by
  have:=AX1 (bareC c) kl noBn
  rw [h.pl] at this;exact this
end Go.Dk
namespace Go.Proofs.YtnmkdiagbkkmaabGreatDoor
open Go Go.Eng Go.Dk Go.RowKit Go.Pw1 Go.Hp

theorem Bf1 (d e:DkX) (hd:DkOk d) (he:DkOk e) (hpl:d.pl=e.pl) (W:World) (h1:BenA W d) (h2:BenA W e):Calls Tryz.prog 20 #[benV d,benV e] W (Pure (.bool true) W):=by
  rw [CR6 hd,CR6 he];exact BN6 d e hd hpl W h1 h2
end Go.Proofs.YtnmkdiagbkkmaabGreatDoor
namespace Go.Eng
open Go Go.RowKit
section
variable {P:Program} {r:Regs} {W:World} {chg news:Blks} {dst:Option Tmp} {gd:Option (Nat×Bool)} {ty:TypeId} {pos:String} {after:Array Edge}
end
def frB (e:TypeId) (x:Own) (l:List UInt8):Blks:=match x with
  | none=>[]
  | some (g,_,rr)=>[(g,.cells (byc l++rr).toArray e (0,l.length))]
section
variable {P:Program}
theorem Cr4 {w:World} {g n:Nat} (hn:¬ n=0):∀ k,k ≠ g→(w.freeze ⟨g,0,none⟩ n).heap[k]? = w.heap[k]?:=fun k hk=>by
  unfold World.freeze;rw [if_neg hn];simp [Array.getElem?_modify,Ne.symm hk]
theorem Cf9 {pt it ty e:TypeId} (hp:P.underlying pt=some (.pointer e)) (hc:P.cellsOf e=1) {g:Nat} {rr:List Value} {l:List UInt8} (h0:l ≠ []) (hn:l.length≤9223372036854775807) {fz:Nat×Nat} (hf:fz=(0,0)∨fz=(0,l.length)) {tl:Blks} {w W:World} (hm:Mem W [] ((g,.cells (byc l++rr).toArray e fz)::tl) w) :
    ∃ w',(Builtin.unsafeString_ #[pt,it] ty #[.pointer (some ⟨g,0,none⟩),.int .i64 (l.length:Int)]).run P w = .ok (.string ⟨l.toArray⟩) w'∧Mem W [] ((g,.cells (byc l++rr).toArray e (0,l.length))::tl) w':=by
  have hg:=(hm.newd g _ (.head _)).2;have h00:¬ l.length=0:=by simpa using h0
  refine ⟨_,Lib.run_unsafeString_row w pt it ty e hp hc g ((byc l++rr).toArray.size) (by unfold World.shape?;rw [hg]) l h0 (by rw [List.size_toArray,List.length_append,Be2];omega) hn ?_,?_⟩
  · intro j y hy
    have hj:=(List.getElem?_eq_some_iff.1 hy).1;rw [add_plain,Ad3 hg]
    have:(byc l++rr)[j]? = some (.int .u8 (y.toNat:Int)):=by
      rw [List.getElem?_append_left (by rw [Be2];exact hj)];unfold byc;simp [hy]
    simpa using this
  · refine Mem.upd_new hm .here ?_ ?_ ?_ ?_ (fun k _ hk=>Cr4 h00 k hk) ?_
    · unfold World.freeze;rw [if_neg h00]
    · unfold World.freeze;rw [if_neg h00]
    · unfold World.freeze;rw [if_neg h00]
    · unfold World.freeze;rw [if_neg h00];simp
    · unfold World.freeze
      rw [if_neg h00]
      rcases hf with rfl | rfl
      · simp [Array.getElem?_modify,hg]
      · simp [Array.getElem?_modify,hg,Ne.symm h00]
variable {pt it ty e:TypeId} (hp:P.underlying pt=some (.pointer e)) (hc:P.cellsOf e=1) {x:Own} {l:List UInt8} {tl:Blks} (hx:OwnOk 1 x l.length (byc l)) {w:World}
include hp hc hx
theorem BF5 {W:World} (hm:Mem W [] (ownB e x (byc l)++tl) w):∃ w',(Builtin.unsafeString_ #[pt,it] ty #[.pointer (ownQ x),.int .i64 (l.length:Int)]).run P w = .ok (.string ⟨l.toArray⟩) w'∧Mem W [] (frB e x l++tl) w':=by
  by_cases h0:l=[]
  · subst h0
    refine ⟨w,Lib.run_unsafeString_none w _ _ _ _,?_⟩
    match x,hm with
    | none,hm=>exact hm
    | some (g,c,rr),hm=>exact hm
  · obtain ⟨g,c,rr,rfl,h1,h2,h3⟩:=hx.has (List.length_pos_iff.2 h0)
    exact Cf9 hp hc h0 (by unfold maxLen at h2;omega) (.inl rfl) hm
end
end Go.Eng
namespace Go.Dk
open Go Go.Eng Go.RowKit Go.Pw1 Go.Hp
end Go.Dk
namespace Go.Proofs.YtnmkdiagbkkmaabGreatDoor
open Go Go.Eng Go.Dk Go.RowKit Go.Pw1 Go.Hp

theorem bstrK_calls (b:Nat) (p:Value) (x:Eng.Own) (l:Str) (rest:Blks) (W0 w:World) (hm0:Mem W0 [] (buB b p x l (rest++[])) w) (hx:OwnOk 1 x l.length (byc l)) (hc:ownQ x=none∨ownC x ≠ 0) :
    Calls Tryz.prog 24 #[.pointer (some ⟨b,0,none⟩)] w (Grow W0 [] (fun _:Unit=>.string (bs l)) (fun _=>(b,buO p x l.length)::(frB 5 x l++(rest++[]))) (fun _=>True)):=by
  refine Af5 hm0 Tryz.func24 rfl rfl ?_;refine st ?_;refine Ac3 10 Ai9 (.cons .here rfl (Pick.refl _)) ?_;refine va 0 rfl (Aa3 rfl) rfl rfl rfl (.cons .here rfl (Pick.refl _)) rfl ?_;refine va 1 rfl (Aa3 rfl) rfl rfl rfl (.cons .here rfl (Pick.refl _)) rfl ?_;refine va 2 rfl (Val.fieldAddr rfl AO5) rfl rfl rfl (.cons .here rfl (Pick.refl _)) rfl ?_;refine va 3 rfl (Ab4 rfl (.head _) BW2 rfl) rfl rfl rfl (.cons .here rfl (Pick.refl _)) rfl ?_;refine va 4 rfl (AP6 (q:=ownQ x) (m:=l.length) (c:=ownC x) (by show some (ownV x l.length)=_;rw [Ac6 hx]) hc) rfl rfl rfl (.cons .here rfl (Pick.refl _)) rfl ?_;refine va 5 rfl (Aa3 rfl) rfl rfl rfl (.cons .here rfl (Pick.refl _)) rfl ?_;refine va 6 rfl (Aa3 rfl) rfl rfl rfl (.cons .here rfl (Pick.refl _)) rfl ?_;refine va 7 rfl (Val.fieldAddr rfl AO5) rfl rfl rfl (.cons .here rfl (Pick.refl _)) rfl ?_;refine va 8 rfl (Ab4 rfl (.head _) BW2 rfl) rfl rfl rfl (.cons .here rfl (Pick.refl _)) rfl ?_;refine va 9 rfl (Af7 rfl Cj0 hx) rfl rfl rfl (.cons .here rfl (Pick.refl _)) rfl ?_;refine zt ?_;refine zB 10 ?_;refine AK0 (q:=ownQ x) (m:=l.length) rfl rfl rfl rfl (fun w hm=>BF5 (e:=5) (by kernel_rfl) (by kernel_rfl) hx (hm.pick (news':=ownB 5 x (byc l)++((b,buO p x l.length)::(rest++[]))) (Pick.cnt fun x=>by simp only [nC];omega))) (Ab7 ?_)
  refine zp 11 ?_;refine zd ?_;refine su ?_;exact AC7 () trivial (.r1 rfl (.tmp rfl)) rfl (Pick.cnt fun x=>by simp only [nC];omega)
section
variable (c:Cd) (q:Option Addr) (b o cap:Nat) (l:List Str) (W:World) (hS:Sl W q b o 9 (c.p.things.map Th.cells)) (hq:q=none→cap=0) (hl:c.p.things.length≤1000) (hL:Lw Tryz.prog W)
include hS hq hl hL
variable (ql:Option Addr) (bl ol cl:Nat) (hls:Sl W ql bl ol 1 (l.map strC)) (hln:l.length≤10000) (hlv:∀ s∈l,s.length≤100000)
include hls hln hlv
theorem AR6 (hc:cardIs c=true) :
    Calls Tryz.prog 18 #[c.v q cap,.slice ql l.length cl] W (News (fun z:{z:RunZ // RunOk c l z.2.1 z.2.2.1 z.2.2.2}=>.tuple #[pV z.1.1,ownV z.1.2.2.1 z.1.2.2.2.length]) (fun z=>((z.1.1,dkO z.1.2.1 c)::(ownB 9 z.1.2.2.1 (z.1.2.2.2.map strC).flatten++dkB z.1.2.1))++[]) W):=by
  refine Ag3 (CW5 c q b o cap hq l ql bl ol cl W hL hS hl hls hln hlv hc) ?_
  rintro e w' ⟨z,hz,rfl,hm⟩
  exact ⟨⟨z,hz⟩,rfl,hm.pick (Pick.cnt fun x=>by simp only [nC];omega)⟩
end
theorem Co9 (c:Cd) (q:Option Addr) (b o cap:Nat) (hq:q=none→cap=0) (l:List Str) (ql:Option Addr) (cl:Nat) (W:World) (hS:Sl W q b o 9 (c.p.things.map Th.cells)) (hl:c.p.things.length≤1000) (hc:cardIs c=false):Calls Tryz.prog 18 #[c.v q cap,.slice ql l.length cl] W (Pure (.tuple #[.pointer none,.slice none 0 0]) W):=by
  have hund:Tryz.prog.underlying 33=some (.pointer 86):=by kernel_rfl
  refine Aa0 Tryz.func18 rfl rfl ?_;refine st ?_;refine zn (New.box rfl) (fun b2=>?_)
  refine zc (zF rfl BT5) (fun w hm=>CS2 c q b o cap w (hS.mono (by decide) hm (by simp)) hq (by omega) hc) ?_;refine lv (Ag7 rfl hund) ?_;refine RunC.cond rfl ?_ (fun h=>absurd h (by simp))
  intro c0;clear c0;refine su ?_;exact Aa5 (.r2 rfl (.tmp rfl) (.tmp rfl)) (by first | rfl | simp)
end Go.Proofs.YtnmkdiagbkkmaabGreatDoor
namespace Go.Proofs.YtnmkdiagbkkmaabGreatDoor
open Go Go.Eng
theorem BB6:Enters Tryz.prog 11:=Aa1 Tryz.func11 (by kernel_rfl) rfl
theorem BB5:Enters Tryz.prog 18:=Aa1 Tryz.func18 (by kernel_rfl) rfl
theorem CQ9:Enters Tryz.prog 20:=Aa1 Tryz.func20 (by kernel_rfl) rfl
theorem Br2:Enters Tryz.prog 7:=Aa1 Tryz.func7 (by kernel_rfl) rfl
theorem CX3:Enters Tryz.prog 8:=Aa1 Tryz.func8 (by kernel_rfl) rfl
theorem Ct7:Enters Tryz.prog 9:=Aa1 Tryz.func9 (by kernel_rfl) rfl
end Go.Proofs.YtnmkdiagbkkmaabGreatDoor
namespace Go.Eng
open Go Go.RowKit
theorem Upd.left {l l':Blks} {b:Nat} {o o':Obj} (m:Blks) (h:Upd l b o o' l'):Upd (l++m) b o o' (l'++m):=by
  induction h with
  | here=>exact .here
  | there _ ih=>exact .there ih
theorem Upd.tail0 {l l' m n:Blks} {b:Nat} {o o':Obj} (h:Upd l b o o' l') (e:n=l++m):Upd n b o o' (l'++m):=e ▸ Upd.left m h
theorem Bx3:∀ {vs cs:List Value},vs.length≤cs.length→(∀ v∈vs,isOne v=true)→∃ cs',pasteN cs vs=some cs'
  | [],cs,_,_=>⟨cs,by cases cs <;> rfl⟩
  | v::vs,[],h,_=>by simp at h
  | v::vs,c::cs,h,h1=>by
    obtain ⟨cs',h2⟩:=Bx3 (vs:=vs) (cs:=cs) (by simpa using h) (fun w hw=>h1 w (by simp [hw]));exact ⟨v::cs',by simp [pasteN,h1 v (by simp),h2]⟩
theorem BR4:∀ {o:Nat} {vs cs:List Value},o + vs.length≤cs.length→(∀ v∈vs,isOne v=true)→∃ cs',paste cs o vs=some cs'
  | 0,vs,cs,h,h1=>by
    obtain ⟨cs',h2⟩:=Bx3 (vs:=vs) (cs:=cs) (by omega) h1;exact ⟨cs',by cases cs <;> simpa [paste] using h2⟩
  | o + 1,vs,[],h,_=>by simp at h
  | o + 1,vs,c::cs,h,h1=>by
    obtain ⟨cs',h2⟩:=BR4 (o:=o) (vs:=vs) (cs:=cs) (by simp at h;omega) h1;exact ⟨c::cs',by simp [paste,h2]⟩
def LikeV (v w:Value):Prop:=(∀ q n c,v = .slice q n c→w=v)∧(∀ b,v = .bool b→∃ b',w = .bool b')
def LikeC (cs ds:List Value):Prop:=ds.length=cs.length∧∀ (k:Nat) (v:Value),cs[k]? = some v→∃ w:Value,ds[k]? = some w∧LikeV v w
theorem LikeV.refl (v:Value):LikeV v v:=⟨fun _ _ _ _=>rfl,fun b h=>⟨b,h⟩⟩
theorem LikeC.refl (cs:List Value):LikeC cs cs:=⟨rfl,fun _ v h=>⟨v,h,LikeV.refl v⟩⟩
inductive Like:Blks→Blks→Prop
  | nil:Like [] []
  | cons {g:Nat} {T:TypeId} {cs ds:List Value} {D L:Blks} (h:LikeC cs ds) (t:Like D L):Like ((g,.cells cs.toArray T (0,0))::D) ((g,.cells ds.toArray T (0,0))::L)
def RowsB (D:Blks):Prop:=∀ y∈D,∃ (cs:List Value) (T:TypeId),y.2 = .cells cs.toArray T (0,0)
theorem Like.refl:∀ {D:Blks},RowsB D→Like D D
  | [],_=>.nil
  | (g,o)::D,h=>by
    obtain ⟨cs,T,rfl⟩:=h (g,o) (.head _);exact .cons (LikeC.refl cs) (Like.refl fun y hy=>h y (.tail _ hy))
theorem RowsB.app {D E:Blks} (h:RowsB D) (k:RowsB E):RowsB (D++E):=fun y hy=>(List.mem_append.1 hy).elim (h y) (k y)
theorem Bo9 {e:TypeId} {x:Own} {xs:List Value}:RowsB (ownB e x xs):=fun y hy=>by
  match x,hy with
  | some (g,c,r),hy=>obtain rfl:=List.mem_singleton.1 hy;exact ⟨_,e,rfl⟩
theorem Bw4 {α:Type} {f:α→Blks} (hf:∀ a,RowsB (f a)) (l:List α):RowsB (l.map f).flatten:=fun y hy=>by
  obtain ⟨z,hz,hy⟩:=List.mem_flatten.1 hy;obtain ⟨a,_,rfl⟩:=List.mem_map.1 hz;exact hf a y hy
theorem Like.at {D L:Blks} (h:Like D L) {g:Nat} {cs:List Value} {T:TypeId} (hm:(g,Obj.cells cs.toArray T (0,0))∈D):∃ ds,LikeC cs ds∧(g,Obj.cells ds.toArray T (0,0))∈L:=by
  induction h with
  | nil=>cases hm
  | @cons g' T' cs' ds' D L h t ih =>
    rcases List.mem_cons.1 hm with e | hm
    · injection e with e1 e2
      injection e2 with e2 e3
      obtain rfl:cs=cs':=by simpa using congrArg Array.toList e2
      subst e1 e3;exact ⟨ds',h,.head _⟩
    · obtain ⟨ds,h1,h2⟩:=ih hm
      exact ⟨ds,h1,.tail _ h2⟩
theorem Like.put {D L:Blks} (h:Like D L) {g:Nat} {cs:List Value} {T:TypeId} (hm:(g,Obj.cells cs.toArray T (0,0))∈D) {o:Nat} {vs:List Value} (hl:o + vs.length≤cs.length) (h1:∀ v∈vs,isOne v=true) (hk:∀ j v,vs[j]? = some v→∀ u,cs[o + j]? = some u→LikeV u v) :
    ∃ ds es L',Upd L g (.cells ds.toArray T (0,0)) (.cells es.toArray T (0,0)) L'∧paste ds o vs=some es∧Like D L':=by
  induction h with
  | nil=>cases hm
  | @cons g' T' cs' ds' D L h t ih =>
    rcases List.mem_cons.1 hm with e | hm
    · injection e with e1 e2
      injection e2 with e2 e3
      obtain rfl:cs=cs':=by simpa using congrArg Array.toList e2
      subst e1 e3;obtain ⟨es,hp⟩:=BR4 (o:=o) (vs:=vs) (cs:=ds') (by rw [h.1];exact hl) h1;obtain ⟨p1,p2,p3⟩:=AB9 hp;refine ⟨ds',es,_,.here,hp,.cons ⟨?_,fun k v hv=>?_⟩ t⟩
      · rw [p3]
        simp only [List.length_append,List.length_take,List.length_drop,h.1];omega
      · have hkl:k < cs.length:=(List.getElem?_eq_some_iff.1 hv).1
        obtain ⟨w,hw,hlw⟩:=h.2 k v hv
        by_cases k1:k < o
        · refine ⟨w,?_,hlw⟩
          rw [p3,List.getElem?_append_left (by rw [List.length_take,h.1];omega),List.getElem?_take,if_pos k1];exact hw
        · by_cases k2:k < o + vs.length
          · refine ⟨vs[k - o]'(by omega),?_,hk (k - o) _ (List.getElem?_eq_getElem _) v (by rw [show o + (k - o)=k by omega];exact hv)⟩
            rw [p3,List.getElem?_append_right (by rw [List.length_take,h.1];omega),List.length_take,h.1,Nat.min_eq_left (by omega),List.getElem?_append_left (by omega)];exact List.getElem?_eq_getElem _
          · refine ⟨w,?_,hlw⟩
            rw [p3,List.getElem?_append_right (by rw [List.length_take,h.1];omega),List.length_take,h.1,Nat.min_eq_left (by omega),List.getElem?_append_right (by omega),List.getElem?_drop,← hw]
            congr 1
            omega
    · obtain ⟨ds,es,L',h2,h3,h4⟩:=ih hm
      exact ⟨ds,es,_,.there h2,h3,.cons h h4⟩
section
variable {P:Program} {w:World}
theorem BD3 {T T0:TypeId} {b o sz:Nat} {cs vs:List Value} {fr:Nat×Nat} (hb:w.heap[b]? = some (.cells cs.toArray T0 fr)) (hT:tyB P T=some (true,sz)) (hv:grab cs o sz=some vs):(loadVar T ⟨b,o,none⟩).run P w = .ok (.agg vs.toArray) w:=by
  obtain ⟨h1,h2⟩:=Ax8 hv
  exact Aj2 (P:=P) (w:=w) (T:=T) (a:=⟨b,o,none⟩) (cs:=vs) (by rw [h1];exact hT) (fun j hj=>by
    rw [add_plain,Ad3 hb,h2 j (by omega)];simp [hj])
theorem AU7 {T T0:TypeId} {b o sz:Nat} {cs:List Value} {v:Value} {fr:Nat×Nat} (hb:w.heap[b]? = some (.cells cs.toArray T0 fr)) (hT:tyB P T=some (false,sz)) (hv:nth cs o=some v):(loadVar T ⟨b,o,none⟩).run P w = .ok v w :=
  Ah6 (P:=P) (w:=w) (T:=T) (a:=⟨b,o,none⟩) hT (by rw [Ad3 hb,← AN6];exact hv)
theorem AN7 {T T0:TypeId} {b o sz:Nat} {cs:List Value} {D L:Blks} {q:Option Addr} {n c:Nat} (hL:Like D L) (hm:∀ b o,(b,o)∈L→w.heap[b]? = some o) (hD:(b,Obj.cells cs.toArray T0 (0,0))∈D)
    (hT:tyB P T=some (false,sz)) (hv:cs[o]? = some (.slice q n c)):(loadVar T ⟨b,o,none⟩).run P w = .ok (.slice q n c) w:=by
  obtain ⟨ds,h1,h2⟩:=hL.at hD;obtain ⟨w,h3,h4⟩:=h1.2 _ _ hv
  have:=h4.1 q n c rfl
  subst this;exact AU7 (hm _ _ h2) hT (by rw [AN6];exact h3)
end
theorem Like.bool {D L:Blks} (h:Like D L) {g o:Nat} {cs:List Value} {T:TypeId} (hm:(g,Obj.cells cs.toArray T (0,0))∈D) {b:Bool} (hv:cs[o]? = some (.bool b)):∃ ds b',(g,Obj.cells ds.toArray T (0,0))∈L∧nth ds o=some (.bool b'):=by
  obtain ⟨ds,h1,h2⟩:=h.at hm;obtain ⟨w,h3,h4⟩:=h1.2 _ _ hv;obtain ⟨b',rfl⟩:=h4.2 b rfl;exact ⟨ds,b',h2,by rw [AN6];exact h3⟩
def ownX (x:Own):List Value:=match x with | none=>[] | some (_,_,r)=>r
theorem Ba4 {sz:Nat} {e:TypeId} {x:Own} {n:Nat} {xs:List Value} (h:OwnOk sz x n xs) (hn:0 < n):(ownK x,Obj.cells (xs++ownX x).toArray e (0,0))∈ownB e x xs:=by
  obtain ⟨b,c,r,rfl,-,-,-⟩:=h.has hn;exact .head _
theorem AL1 {α:Type} {f:α→List Value} {sz:Nat} (hf:∀ a,(f a).length=sz) {l:List α} {i j o:Nat} {t:List Value} (hi:i < l.length) {a:α} (ha:l[i]=a) (hj:j < sz) (ho:o=i * sz + j):((l.map f).flatten++t)[o]? = (f a)[j]?:=by
  subst ha ho;have hl:(l.map f).flatten.length=l.length * sz:=Ai5 hf l
  have h1:i * sz + j < l.length * sz:=by
    have:(i + 1) * sz≤l.length * sz:=Nat.mul_le_mul_right _ hi
    rw [Nat.add_mul] at this;omega
  rw [List.getElem?_append_left (by rw [hl];exact h1),AO7 (sz:=sz) (l.map f) i (by rw [List.length_map];exact hi) j (fun x hx=>by obtain ⟨a,_,rfl⟩:=List.mem_map.1 hx;exact hf a) hj,List.getElem_map]
theorem BQ8 {α:Type} {f:α→List Value} {sz:Nat} (hf:∀ a,(f a).length=sz) {l:List α} {i j o m:Nat} {t:List Value} (hi:i < l.length) (hj:j + m≤sz) (ho:o=i * sz + j):o + m≤((l.map f).flatten++t).length:=by
  subst ho;have hl:(l.map f).flatten.length=l.length * sz:=Ai5 hf l
  have:(i + 1) * sz≤l.length * sz:=Nat.mul_le_mul_right _ hi
  rw [Nat.add_mul] at this;rw [List.length_append,hl];omega
end Go.Eng
namespace Go.Proofs.YtnmkdiagbkkmaabGreatDoor
open Go Go.Eng Go.Dk Go.RowKit Go.Pw1 Go.Hp

theorem Cx1 (d:DkX):RowsB (dkB d):=Bo9.app ((Bw4 (fun _=>Bo9) _).app (Bo9.app ((Bw4 (fun _=>Bo9) _).app Bo9)))
section
variable {D L:Blks} {e:DkX} (hb:∀ y∈dkB e,y∈D) (hd:DkOk e)
include hb hd
theorem BP1 (hn:0 < e.vs.length):(ownK e.v,Obj.cells ((e.vs.map VwX.cells).flatten++ownX e.v).toArray 62 (0,0))∈D:=hb _ (List.mem_append_left _ (Ba4 hd.v hn))
theorem Dg8 {x:VwX} (hx:x∈e.vs) (hn:0 < x.p.things.length):(ownK x.t,Obj.cells ((x.p.things.map Th.cells).flatten++ownX x.t).toArray 66 (0,0))∈D :=
  hb _ (List.mem_append_right _ (List.mem_append_left _ (List.mem_flatten.2 ⟨_,List.mem_map_of_mem hx,Ba4 (hd.vs x hx) hn⟩)))
theorem CR5 (hn:0 < e.bs.length):(ownK e.b,Obj.cells ((e.bs.map BoX.cells).flatten++ownX e.b).toArray 68 (0,0))∈D:=hb _ (List.mem_append_right _ (List.mem_append_right _ (List.mem_append_left _ (Ba4 hd.b hn))))
theorem Dg6 {x:BoX} (hx:x∈e.bs) (hn:0 < x.titles.length):(ownK x.t,Obj.cells (strsC x.titles++ownX x.t).toArray 9 (0,0))∈D :=
  hb _ (List.mem_append_right _ (List.mem_append_right _ (List.mem_append_right _ (List.mem_append_left _ (List.mem_flatten.2 ⟨_,List.mem_map_of_mem hx,Ba4 (hd.bs x hx) hn⟩)))))
theorem Dp1 (hn:0 < e.cs.length):(ownK e.c,Obj.cells ((e.cs.map Tn.cells).flatten++ownX e.c).toArray 70 (0,0))∈D:=hb _ (List.mem_append_right _ (List.mem_append_right _ (List.mem_append_right _ (List.mem_append_right _ (Ba4 hd.c hn)))))
variable (hL:Like D L) {o:Nat}
theorem Df1 {i:Nat} (hi:i < e.vs.length) {x:VwX} (hx:e.vs[i]=x) (ho:o=i * 13 + 7):((e.vs.map VwX.cells).flatten++ownX e.v)[o]? = some (.slice (ownQ x.t) x.p.things.length (ownC x.t)):=by
  rw [AL1 VwX.cells_len hi hx (by decide) ho,← Ac6 (hd.vs x (hx ▸ List.getElem_mem hi))];rfl
theorem Dp3 {i:Nat} (hi:i < e.bs.length) {x:BoX} (hx:e.bs[i]=x) (ho:o=i * 2 + 1):((e.bs.map BoX.cells).flatten++ownX e.b)[o]? = some (.slice (ownQ x.t) x.titles.length (ownC x.t)):=by
  rw [AL1 BoX.cells_len hi hx (by decide) ho,← Ac6 (hd.bs x (hx ▸ List.getElem_mem hi))];rfl
include hL
theorem Dq2 {i:Nat} (hi:i < e.vs.length) (ho:o=i * 13 + 12):∃ ds b',(ownK e.v,Obj.cells ds.toArray 62 (0,0))∈L∧nth ds o=some (.bool b') :=
  hL.bool (BP1 hb hd (by omega)) (b:=(e.vs[i]).up) (by rw [AL1 VwX.cells_len hi rfl (by decide) ho];rfl)
theorem Df4 {i:Nat} (hi:i < e.vs.length) (b':Bool) (ho:o=i * 13 + 12):∃ ds es L',Upd L (ownK e.v) (.cells ds.toArray 62 (0,0)) (.cells es.toArray 62 (0,0)) L'∧paste ds o (cellsL (.bool b'))=some es∧Like D L' :=
  hL.put (BP1 hb hd (by omega)) (BQ8 VwX.cells_len hi (j:=12) (by show 12 + 1≤13;decide) ho) (fun v hv=>by obtain rfl:=List.mem_singleton.1 hv;rfl) (fun j v hv u hu=>by
    cases j with
    | zero =>
      cases hv
      rw [Nat.add_zero,AL1 VwX.cells_len hi rfl (by decide) ho] at hu
      cases hu
      exact ⟨fun _ _ _ h=>(by cases h),fun _ _=>⟨b',rfl⟩⟩
    | succ j=>cases hv)
theorem CX1 {x:VwX} (hx:x∈e.vs) {k:Nat} (hk:k < x.p.things.length) (n:Int) (ho:o=k * 9 + 8):∃ ds es L',Upd L (ownK x.t) (.cells ds.toArray 66 (0,0)) (.cells es.toArray 66 (0,0)) L'∧paste ds o (cellsL (.int .i64 n))=some es∧Like D L' :=
  hL.put (Dg8 hb hd hx (by omega)) (BQ8 AZ0 hk (j:=8) (by show 8 + 1≤9;decide) ho) (fun v hv=>by obtain rfl:=List.mem_singleton.1 hv;rfl) (fun j v hv u hu=>by
    cases j with
    | zero =>
      cases hv
      rw [Nat.add_zero,AL1 AZ0 hk rfl (by decide) ho] at hu
      cases hu
      exact ⟨fun _ _ _ h=>(by cases h),fun _ h=>(by cases h)⟩
    | succ j=>cases hv)
theorem Dg5 {x:BoX} (hx:x∈e.bs) {k:Nat} (hk:k < x.titles.length) (s:ByteArray) (ho:o=k * 1 + 0):∃ ds es L',Upd L (ownK x.t) (.cells ds.toArray 9 (0,0)) (.cells es.toArray 9 (0,0)) L'∧paste ds o (cellsL (.string s))=some es∧Like D L':=by
  have hm:=Dg6 hb hd hx (by omega);rw [Ao3] at hm
  exact hL.put hm (BQ8 (f:=strC) (fun _=>rfl) hk (j:=0) (by show 0 + 1≤1;decide) ho) (fun v hv=>by obtain rfl:=List.mem_singleton.1 hv;rfl) (fun j v hv u hu=>by
    cases j with
    | zero =>
      cases hv
      rw [Nat.add_zero,AL1 (f:=strC) (fun _=>rfl) hk rfl (by decide) ho] at hu
      cases hu
      exact ⟨fun _ _ _ h=>(by cases h),fun _ h=>(by cases h)⟩
    | succ j=>cases hv)
theorem Dp0 {k:Nat} (hk:k < e.cs.length) (n:Int) (s t:ByteArray) (ho:o=k * 3 + 0):∃ ds es L',Upd L (ownK e.c) (.cells ds.toArray 70 (0,0)) (.cells es.toArray 70 (0,0)) L'∧paste ds o (cellsL (.agg #[.int .i64 n,.string s,.string t]))=some es∧Like D L' :=
  hL.put (Dp1 hb hd (by omega)) (BQ8 Ci0 hk (j:=0) (by show 0 + 3≤3;decide) ho) (fun v hv=>by
    simp only [cellsL,List.mem_cons,List.not_mem_nil,or_false] at hv
    rcases hv with rfl | rfl | rfl <;> rfl) (fun j v hv u hu=>by
    have hg:∀ i,i < 3→((e.cs.map Tn.cells).flatten++ownX e.c)[k * 3 + i]? = (Tn.cells e.cs[k])[i]?:=fun i hi=>AL1 Ci0 hk rfl hi rfl
    rw [ho,Nat.add_zero] at hu
    match j with
    | 0=>cases hv;rw [hg 0 (by decide)] at hu;cases hu;exact ⟨fun _ _ _ h=>(by cases h),fun _ h=>(by cases h)⟩
    | 1=>cases hv;rw [hg 1 (by decide)] at hu;cases hu;exact ⟨fun _ _ _ h=>(by cases h),fun _ h=>(by cases h)⟩
    | 2=>cases hv;rw [hg 2 (by decide)] at hu;cases hu;exact ⟨fun _ _ _ h=>(by cases h),fun _ h=>(by cases h)⟩
    | j + 3=>cases hv)
end
end Go.Proofs.YtnmkdiagbkkmaabGreatDoor
namespace Go.Proofs.YtnmkdiagbkkmaabGreatDoor
open Go Go.Eng
theorem CF1:slB Tryz.prog 58=some (43,3):=by kernel_rfl
instance:Slc Tryz.prog 58 43 3:=⟨CF1⟩
end Go.Proofs.YtnmkdiagbkkmaabGreatDoor
namespace Go.Proofs.YtnmkdiagbkkmaabGreatDoor
open Go Go.Eng Go.Dk Go.RowKit Go.Pw1 Go.Hp

theorem Ci2 (t:Th):t.cells.all (·.oneCell')=true:=rfl
theorem Cd1 {z0 z1:DkX} {D:Blks} (h0:∀ y∈dkB z0,y∈D) (h1:∀ y∈dkB z1,y∈D) (k0:DkOk z0) (k1:DkOk z1) {a:Nat} (ha:a < 2):∃ e:DkX,grab ([ownV z0.v z0.vs.length,ownV z0.b z0.bs.length,ownV z0.c z0.cs.length]++[ownV z1.v z1.vs.length,ownV z1.b z1.bs.length,ownV z1.c z1.cs.length]) (0 + (a:Int).toNat * 3) 3=some [ownV e.v e.vs.length,ownV e.b e.bs.length,ownV e.c e.cs.length]∧(∀ y∈dkB e,y∈D)∧DkOk e:=by
  have h01:a=0∨a=1:=by omega
  rcases h01 with rfl | rfl
  · exact ⟨z0,rfl,h0,k0⟩
  · exact ⟨z1,rfl,h1,k1⟩
theorem Ca5 (c:Cd) (q:Option Addr) (b o cap:Nat) (hq:q=none→cap=0) (l m:List Str) (ql:Option Addr) (bl ol cl:Nat) (qm:Option Addr) (bm om cm:Nat) (W:World) (hL:Lw Tryz.prog W) (hS:Sl W q b o 9 (c.p.things.map Th.cells)) (hls:Sl W ql bl ol 1 (l.map strC)) (hms:Sl W qm bm om 1 (m.map strC)) (h1:farL c l=true):Calls Tryz.prog 4 #[c.v q cap,.slice ql l.length cl,.slice qm m.length cm] W (Pure (.bool true) W):=by
  refine Aa0 Tryz.func4 rfl rfl ?_;refine csr ?_;refine AJ4 (New.box rfl) rfl rfl rfl (fun b3=>?_)
  refine vp rfl rfl rfl rfl ?_;refine nnx ?_;refine RunC.seq ?_;refine csr ?_;refine Ac9 (Ag1 rfl (.head _) Bv0 rfl) rfl rfl rfl ?_;refine vp rfl rfl rfl rfl ?_;refine Ab9 (Am7 rfl Br2) rfl rfl rfl (fun w hm=>An3 c q cap l ql bl ol cl w (hls.mono (by decide) hm (by simp))) ?_;refine vp rfl rfl rfl rfl ?_;refine Ae4 (dj:=29) true rfl h1 ?_
  iterate 3 refine Ac0 rfl rfl rfl ?_
  refine vp rfl rfl rfl rfl ?_;refine vp rfl rfl rfl rfl ?_;refine Ae4 (dj:=34) true rfl rfl ?_;refine Ac0 rfl rfl rfl ?_;refine Ac0 rfl rfl rfl ?_;refine vp rfl rfl rfl rfl ?_;refine nnx ?_;refine RunC.cond rfl ?_ (fun h=>absurd h (by simp))
  intro c0;clear c0;refine csr ?_;refine Ab9 (Am7 rfl Ct7) rfl rfl rfl (fun w hm=>At4 w (hL.mono hm)) ?_;refine vp rfl rfl rfl rfl ?_;refine nnx ?_;refine RunC.ret ?_;refine Ad4 ?_;exact Aa5 (.r1 rfl (.tmp rfl)) (by first | rfl | simp)
theorem BI7 (c:Cd) (q:Option Addr) (b o cap:Nat) (hq:q=none→cap=0) (l m:List Str) (ql:Option Addr) (bl ol cl:Nat) (qm:Option Addr) (bm om cm:Nat) (W:World) (hL:Lw Tryz.prog W) (hS:Sl W q b o 9 (c.p.things.map Th.cells)) (hls:Sl W ql bl ol 1 (l.map strC)) (hms:Sl W qm bm om 1 (m.map strC)) (h1:farL c l=false) (h2:farL c m=true):Calls Tryz.prog 4 #[c.v q cap,.slice ql l.length cl,.slice qm m.length cm] W (Pure (.bool true) W):=by
  refine Aa0 Tryz.func4 rfl rfl ?_;refine st ?_;refine zn (New.box rfl) (fun b3=>?_)
  refine zc (zF rfl Br2) (fun w hm=>An3 c q cap l ql bl ol cl w (hls.mono (by decide) hm (by simp))) ?_;refine Ae4 (dj:=29) false rfl h1 ?_;refine su ?_;refine zc (zF rfl Br2) (fun w hm=>An3 c q cap m qm bm om cm w (hms.mono (by decide) hm (by simp))) ?_;refine Ae4 (dj:=34) true rfl (by simp [h2]) ?_;refine su ?_;refine RunC.cond rfl ?_ (fun h=>absurd h (by simp))
  intro c0;clear c0;refine st ?_;refine zc (zF rfl Ct7) (fun w hm=>At4 w (hL.mono hm)) ?_;exact Aa5 (.r1 rfl (.tmp rfl)) (by first | rfl | simp)
theorem By8 (c:Cd) (q:Option Addr) (b o cap:Nat) (hq:q=none→cap=0) (l m:List Str) (ql:Option Addr) (bl ol cl:Nat) (qm:Option Addr) (bm om cm:Nat) (W:World) (hL:Lw Tryz.prog W) (hS:Sl W q b o 9 (c.p.things.map Th.cells)) (hls:Sl W ql bl ol 1 (l.map strC)) (hms:Sl W qm bm om 1 (m.map strC)) (h1:farL c l=false) (h2:farL c m=false) (h3:heavyC c=true):Calls Tryz.prog 4 #[c.v q cap,.slice ql l.length cl,.slice qm m.length cm] W (Pure (.bool true) W):=by
  have hl3:=(Br0 h1).1;refine Aa0 Tryz.func4 rfl rfl ?_;refine st ?_;refine zn (New.box rfl) (fun b3=>?_)
  refine zc (zF rfl Br2) (fun w hm=>An3 c q cap l ql bl ol cl w (hls.mono (by decide) hm (by simp))) ?_;refine Ae4 (dj:=29) false rfl h1 ?_;refine su ?_;refine zc (zF rfl Br2) (fun w hm=>An3 c q cap m qm bm om cm w (hms.mono (by decide) hm (by simp))) ?_;refine Ae4 (dj:=34) false rfl (by simp [h2]) ?_;refine su ?_;refine zc (zF rfl CX3) (fun w hm=>AG9 c q b o cap w (hS.mono (by decide) hm (by simp)) (by omega)) ?_;refine RunC.cond rfl ?_ (fun h=>absurd h (by simp [h3]))
  intro c0;clear c0;refine st ?_;refine zc (zF rfl Ct7) (fun w hm=>At4 w (hL.mono hm)) ?_;exact Aa5 (.r1 rfl (.tmp rfl)) (by first | rfl | simp)
theorem Cq2 (c:Cd) (q:Option Addr) (b o cap:Nat) (hq:q=none→cap=0) (l m:List Str) (ql:Option Addr) (bl ol cl:Nat) (qm:Option Addr) (bm om cm:Nat) (W:World) (hL:Lw Tryz.prog W) (hS:Sl W q b o 9 (c.p.things.map Th.cells)) (hls:Sl W ql bl ol 1 (l.map strC)) (hms:Sl W qm bm om 1 (m.map strC)) (h1:farL c l=false) (h2:farL c m=false) (h3:heavyC c=false) (hc:cardIs c=false):Calls Tryz.prog 4 #[c.v q cap,.slice ql l.length cl,.slice qm m.length cm] W (Pure (.bool true) W):=by
  have hcR:cardR c=false:=(AX8 c).trans hc;have hl3:=(Br0 h1).1;have hund:Tryz.prog.underlying 33=some (.pointer 86):=by kernel_rfl
  refine Aa0 Tryz.func4 rfl rfl ?_;refine st ?_;refine zn (New.box rfl) (fun b3=>?_)
  refine zc (zF rfl Br2) (fun w hm=>An3 c q cap l ql bl ol cl w (hls.mono (by decide) hm (by simp))) ?_;refine Ae4 (dj:=29) false rfl h1 ?_;refine su ?_;refine zc (zF rfl Br2) (fun w hm=>An3 c q cap m qm bm om cm w (hms.mono (by decide) hm (by simp))) ?_;refine Ae4 (dj:=34) false rfl (by simp [h2]) ?_;refine su ?_;refine zc (zF rfl CX3) (fun w hm=>AG9 c q b o cap w (hS.mono (by decide) hm (by simp)) (by omega)) ?_;refine RunC.cond rfl (fun h=>absurd h (by simp [h3])) ?_;intro c0;clear c0;refine st ?_;refine zn (Ak3 Aq9) (fun b39=>?_)
  refine AC4 (Ac1 _) (.cons (.there .here) rfl (.cons .here rfl .nil)) ?_;refine RunL.append (A:=[(b3,_)]) (B:=_) (x:=(some (b39,0,[]))) (ys:=(c.p.things.map Th.cells).flatten) Cz1 rfl rfl rfl OwnOk.empty (Ai5 AZ0 _) (fun h=>⟨by rcases Nat.eq_zero_or_pos c.p.things.length with h2 | h2;exact h2;exact absurd ((hS.ptrM h2).symm.trans h) (by simp),hq h⟩) (fun w hm=>(hS.mono (by decide) hm (by simp)).flat (by decide)) (Az2 Ci2 _) (by simp only [maxLen];omega) (by omega) rfl (fun z43 hz43=>?_)
  refine su ?_;refine zc (zF rfl BB5) (fun w hm=>Co9 c q b o cap hq l ql cl w (hS.mono (by decide) hm (by simp)) (by omega) hc) ?_;refine zc (zF rfl BB5) (fun w hm=>Co9 c q b o cap hq m qm cm w (hS.mono (by decide) hm (by simp)) (by omega) hc) ?_;refine lu (Ag7 rfl hund) ?_;refine AK3 rfl ?_;refine st ?_;refine lv (Ag7 rfl hund) ?_;refine lv (Ag7 rfl hund) ?_;refine Ae4 (dj:=68) true rfl (by simp) ?_;refine su ?_;refine zc (zF rfl CR0) (fun w hm=>AT4 c q b o cap w (hS.mono (by decide) hm (by simp)) (by omega)) ?_;refine Ae4 (dj:=73) true rfl (by simp [hcR]) ?_;refine zc (zF rfl Ct7) (fun w hm=>At4 w (hL.mono hm)) ?_;exact Aa5 (.r1 rfl (.tmp rfl)) (by first | rfl | simp)
set_option maxHeartbeats 8000000 in
theorem Cq1 (c:Cd) (q:Option Addr) (b o cap:Nat) (hq:q=none→cap=0) (l m:List Str) (ql:Option Addr) (bl ol cl:Nat) (qm:Option Addr) (bm om cm:Nat) (W:World) (hL:Lw Tryz.prog W) (hS:Sl W q b o 9 (c.p.things.map Th.cells)) (hls:Sl W ql bl ol 1 (l.map strC)) (hms:Sl W qm bm om 1 (m.map strC)) (h1:farL c l=false) (h2:farL c m=false) (h3:heavyC c=false) (hc:cardIs c=true):Calls Tryz.prog 4 #[c.v q cap,.slice ql l.length cl,.slice qm m.length cm] W (Pure (.bool true) W):=by
  obtain ⟨hl3,hl4,hl5⟩:=Br0 h1;obtain ⟨-,hm4,hm5⟩:=Br0 h2;have hund:Tryz.prog.underlying 33=some (.pointer 86):=by kernel_rfl
  obtain ⟨pb,rep,hpl⟩:∃ pb rep,playX (bareC c) noBn l=(pb,rep):=⟨_,_,rfl⟩;have hrl:=AX1 (bareC c) l noBn;rw [hpl] at hrl;dsimp only at hrl;obtain ⟨pm,rem,hpm⟩:∃ pm rem,playX (bareC c) noBn m=(pm,rem):=⟨_,_,rfl⟩;refine Aa0 Tryz.func4 rfl rfl ?_;refine st ?_;refine zn (New.box rfl) (fun b3=>?_)
  refine zc (zF rfl Br2) (fun w hm=>An3 c q cap l ql bl ol cl w (hls.mono (by decide) hm (by simp))) ?_;refine Ae4 (dj:=29) false rfl h1 ?_;refine su ?_;refine zc (zF rfl Br2) (fun w hm=>An3 c q cap m qm bm om cm w (hms.mono (by decide) hm (by simp))) ?_;refine Ae4 (dj:=34) false rfl (by simp [h2]) ?_;refine su ?_;refine zc (zF rfl CX3) (fun w hm=>AG9 c q b o cap w (hS.mono (by decide) hm (by simp)) (by omega)) ?_;refine RunC.cond rfl (fun h=>absurd h (by simp [h3])) ?_;intro c0;clear c0;refine st ?_;refine zn (Ak3 Aq9) (fun b39=>?_)
  refine AC4 (Ac1 _) (.cons (.there .here) rfl (.cons .here rfl .nil)) ?_;refine RunL.append (A:=[(b3,_)]) (B:=_) (x:=(some (b39,0,[]))) (ys:=(c.p.things.map Th.cells).flatten) Cz1 rfl rfl rfl OwnOk.empty (Ai5 AZ0 _) (fun h=>⟨by rcases Nat.eq_zero_or_pos c.p.things.length with h2 | h2;exact h2;exact absurd ((hS.ptrM h2).symm.trans h) (by simp),hq h⟩) (fun w hm=>(hS.mono (by decide) hm (by simp)).flat (by decide)) (Az2 Ci2 _) (by simp only [maxLen];omega) (by omega) rfl (fun z43 hz43=>?_)
  refine vp rfl rfl rfl rfl ?_;refine nsr ?_;simp only [Nat.zero_add,List.nil_append] at hz43 ⊢;refine su ?_;refine Aj4 [(b3,_)] _ rfl (zF rfl BB5) rfl rfl rfl (fun w hm=>AR6 c q b o cap l w (hS.mono (by decide) hm (by simp)) hq (by omega) (hL.mono hm) ql bl ol cl (hls.mono (by decide) hm (by simp)) (by omega) (fun s hs=>by have:=hl5 s hs;omega) hc) (fun z47=>?_)
  obtain ⟨⟨xb,xd,xo,xl⟩,hxk⟩:=z47;dsimp only at hxk ⊢;have hpp:=hxk.pl;rw [hpl] at hpp
  injection hpp with hx1 hx2
  subst hx2;refine st ?_;refine AC4 (Ac1 _) (news':=(xb,dkO xd c)::(b3,.cells (cellsL (c.v q cap)).toArray 28 (0,0))::(ownB 9 xo (rep.map strC).flatten++(ownB 66 z43 (c.p.things.map Th.cells).flatten++(dkB xd++[])))) (Pick.cnt fun x=>by simp only [nC,List.append_nil,List.nil_append,dkM];omega) ?_;refine su ?_;refine Aj4 [(xb,_),(b3,_)] _ rfl (zF rfl BB5) rfl rfl rfl (fun w hm=>AR6 c q b o cap m w (hS.mono (by decide) hm (by simp)) hq (by omega) (hL.mono hm) qm bm om cm (hms.mono (by decide) hm (by simp)) (by omega) (fun s hs=>by have:=hm5 s hs;omega) hc) (fun z53=>?_)
  obtain ⟨⟨vb,vd,vo,vl⟩,hvk⟩:=z53;dsimp only at hvk ⊢;have hpp:=hvk.pl;rw [hpm] at hpp
  injection hpp with hv1 hv2
  subst hv2;refine st ?_;refine AC4 (Ac1 _) (news':=(vb,dkO vd c)::(xb,dkO xd c)::(b3,.cells (cellsL (c.v q cap)).toArray 28 (0,0))::(ownB 9 xo (rep.map strC).flatten++(ownB 66 z43 (c.p.things.map Th.cells).flatten++(dkB xd++(dkB vd++[]))))) (Pick.cnt fun x=>by simp only [nC,List.append_nil,List.nil_append,dkM];omega) ?_;refine st ?_;refine lv (Ag7 rfl hund) ?_;refine lv (Ag7 rfl hund) ?_;refine An1 rfl ?_;refine st ?_;refine Aj4 [(vb,_),(xb,_),(b3,_)] _ rfl (zF rfl BB6) rfl rfl rfl (fun w hm=>Ay5 xb xd c hxk.dk w (Ak0 hxk.dk (hm.pick (news':=dkM xb xd c []) (Pick.cnt fun x=>by simp only [nC,List.append_nil,List.nil_append,dkM];omega)))) (fun z77=>?_)
  skip
  refine zn (New.alloc AQ1) (fun b12=>?_)
  refine Ab1 (Sto.store (cs:=[.slice none 0 0,.slice none 0 0,.slice none 0 0]) (cs':=[ownV z77.1.v z77.1.vs.length,ownV z77.1.b z77.1.bs.length,ownV z77.1.c z77.1.cs.length]) rfl rfl .here Bg4 rfl (by have h:=AD7 (ownV z77.1.v z77.1.vs.length) (ownV z77.1.b z77.1.bs.length) (ownV z77.1.c z77.1.cs.length) (Ae6 _ _) (Ae6 _ _) (Ae6 _ _);exact h)) rfl rfl ?_;refine su ?_;refine Ae3 (X:=DkX) (n0:=[(b12,_),(xb,_),(b3,_)]) (m.length) (fun k yd q=>(80,.int .i64 (k:Int))::q) (fun _ _=>_) (fun k yd=>[(vb,dkO yd c)]) (fun k yd=>dkB z77.1++(ownB 9 xo (rep.map strC).flatten++(ownB 66 z43 (c.p.things.map Th.cells).flatten++(dkB xd++(dkB yd++[]))))) (fun k yd=>DkOk yd) vd hvk.dk rfl (zE 80 rfl rfl (zS 1 rfl (zS 3 rfl (zS 7 rfl (zS 8 rfl (zS 9 rfl (zS 10 rfl (zS 12 rfl (zS 78 rfl (zS 79 rfl (Sub.nil _))))))))))) (.cons (.there .here) rfl (.cons .here rfl (.cons .here rfl (.cons .here rfl (Pick.same rfl))))) ?_;intro k yd kN kI;refine st ?_;refine cn rfl ?_ ?_
  ·intro c2'
   have hk:k < m.length:=by omega
   obtain ⟨v,hv⟩:∃ v,m[k]=v:=⟨_,rfl⟩;have hvm:v∈m:=hv ▸ List.getElem_mem hk;refine st ?_;refine lv (Aa2 rfl rfl An2 (by omega) (by omega) (hms.ptrM hk)) ?_;refine lv (Aa9 rfl (fun w hm=>Sl.loadM1 hms (by decide) hm (by simp) AC8 hk (v:=.string (bs v)) (by simp [strC,hv]))) ?_;refine Ap6 (zF rfl Cw2) rfl rfl rfl (fun w hm=>(AP2 (nw':=fun z:DkX×Str×Int=>(b12,.cells [ownV z77.1.v z77.1.vs.length,ownV z77.1.b z77.1.bs.length,ownV z77.1.c z77.1.cs.length].toArray 43 (0,0))::(vb,dkO z.1 c)::(xb,dkO xd c)::(b3,.cells (cellsL (c.v q cap)).toArray 28 (0,0))::(dkB z77.1++(ownB 9 xo (rep.map strC).flatten++(ownB 66 z43 (c.p.things.map Th.cells).flatten++(dkB xd++(dkB z.1++[])))))) (AT0 v (by have:=hm5 v hvm;omega) vb yd c ((b12,.cells [ownV z77.1.v z77.1.vs.length,ownV z77.1.b z77.1.bs.length,ownV z77.1.c z77.1.cs.length].toArray 43 (0,0))::(xb,dkO xd c)::(b3,.cells (cellsL (c.v q cap)).toArray 28 (0,0))::(dkB z77.1++(ownB 9 xo (rep.map strC).flatten++(ownB 66 z43 (c.p.things.map Th.cells).flatten++dkB xd)))) W w hL kI (hm.pick (Pick.cnt fun x=>by simp only [nC,List.append_nil,List.nil_append,dkM];omega))) (fun _=>(Pick.cnt fun x=>by simp only [nC,List.append_nil,List.nil_append,dkM];omega)))) (fun z86 hz86=>?_)
   obtain ⟨hzd,hzs⟩:=hz86;refine st ?_;refine lv (Val.add rfl rfl (IntWalk.i64_in _ ⟨by omega,by omega⟩)) ?_;exact Ac8 z86.1 (by omega) hzd rfl (zE 80 rfl rfl (zS 1 rfl (zS 3 rfl (zS 7 rfl (zS 8 rfl (zS 9 rfl (zS 10 rfl (zS 12 rfl (zS 78 rfl (zS 79 rfl (Sub.nil _))))))))))) (Pick.cnt fun x=>by simp only [nC,List.append_nil,List.nil_append,dkM];omega)
  intro c2';refine RunC.exit ?_;refine su ?_;refine Ab0 ?_;refine st ?_;refine Aj4 [(vb,_),(b12,_),(xb,_),(b3,_)] _ rfl (zF rfl BB6) rfl rfl rfl (fun w hm=>Ay5 xb xd c hxk.dk w (Ak0 hxk.dk (hm.pick (news':=dkM xb xd c []) (Pick.cnt fun x=>by simp only [nC,List.append_nil,List.nil_append,dkM];omega)))) (fun z89=>?_)
  skip
  refine st ?_;refine Aj4 [(vb,_),(b12,_),(xb,_),(b3,_)] _ rfl (zF rfl BB6) rfl rfl rfl (fun w hm=>Ay5 vb yd c kI w (Ak0 kI (hm.pick (news':=dkM vb yd c []) (Pick.cnt fun x=>by simp only [nC,List.append_nil,List.nil_append,dkM];omega)))) (fun z91=>?_)
  skip
  refine AJ4 (New.buildSlice (parts:=[(0,.tmp 89),(1,.tmp 91)]) rfl CF1 AQ1 rfl rfl rfl rfl) rfl rfl rfl (fun b92=>?_)
  refine Ac9 (Aj5 rfl CF1) rfl rfl rfl ?_;refine vp rfl rfl rfl rfl ?_;refine nnx ?_;refine RunC.block ?_;have hRw:RowsB (dkB z91.1++dkB z89.1):=(Cx1 _).app (Cx1 _);refine Ae3 (X:=Blks) (n0:=[(b92,_),(b12,_),(vb,_),(xb,_),(b3,_)]) (2) (fun a L1 q=>(94,.int .i64 (a:Int))::q) (fun _ _=>_) (fun a L1=>[]) (fun a L1=>L1++(dkB z77.1++(ownB 9 xo (rep.map strC).flatten++(ownB 66 z43 (c.p.things.map Th.cells).flatten++(dkB xd++(dkB yd++[])))))) (fun a L1=>Like (dkB z91.1++dkB z89.1) L1) (dkB z91.1++dkB z89.1) (Like.refl hRw) rfl (zE 94 rfl rfl (zS 1 rfl (zS 3 rfl (zS 7 rfl (zS 8 rfl (zS 9 rfl (zS 12 rfl (zS 92 rfl (zS 93 rfl (Sub.nil _)))))))))) (.cons .here rfl (.cons (.there .here) rfl (.cons .here rfl (.cons .here rfl (.cons .here rfl (Pick.same (by simp only [List.append_assoc]))))))) ?_;intro a L1 aN aI;refine st ?_;refine cn rfl ?_ ?_
  ·intro c3'
   obtain ⟨e,hcs,hbe,hde⟩:=Cd1 (D:=(dkB z91.1++dkB z89.1)) (z0:=z89.1) (z1:=z91.1) (fun y hy=>List.mem_append_right _ hy) (fun y hy=>List.mem_append_left _ hy) z89.2.1 z91.2.1 (a:=a) (by omega);have hfew:=hde.few;refine st ?_;refine lv (Aa2 (b:=b92) (o:=0) rfl rfl CF1 (by omega) (by omega) rfl) ?_;refine lv (Aa9 rfl (fun w hm=>(BD3 (hm.at (.head _)) Bg4 hcs))) ?_;refine zn (New.alloc AQ1) (fun b16=>?_)
   refine Ab1 (Sto.store (cs:=[.slice none 0 0,.slice none 0 0,.slice none 0 0]) (cs':=[ownV e.v e.vs.length,ownV e.b e.bs.length,ownV e.c e.cs.length]) rfl rfl .here Bg4 rfl (by have h:=AD7 (ownV e.v e.vs.length) (ownV e.b e.bs.length) (ownV e.c e.cs.length) (Ae6 _ _) (Ae6 _ _) (Ae6 _ _);exact h)) rfl rfl ?_;refine su ?_;refine lv (Af7 rfl Ax3 hde.v) ?_;refine Ae3 (X:=Blks) (n0:=[(b16,_),(b92,_),(b12,_),(vb,_),(xb,_),(b3,_)]) (e.vs.length) (fun i L2 q=>(101,.int .i64 (i:Int))::q) (fun _ _=>_) (fun i L2=>[]) (fun i L2=>L2++(dkB z77.1++(ownB 9 xo (rep.map strC).flatten++(ownB 66 z43 (c.p.things.map Th.cells).flatten++(dkB xd++(dkB yd++[])))))) (fun i L2=>Like (dkB z91.1++dkB z89.1) L2) L1 aI rfl (zE 101 rfl rfl (zS 1 rfl (zS 3 rfl (zS 7 rfl (zS 8 rfl (zS 9 rfl (zS 12 rfl (zS 92 rfl (zS 93 rfl (zS 94 rfl (zS 16 rfl (zS 99 rfl (zS 100 rfl (Sub.nil _)))))))))))))) (.cons .here rfl (.cons .here rfl (.cons .here rfl (.cons .here rfl (.cons .here rfl (.cons .here rfl (Pick.same rfl))))))) ?_;intro i L2 iN iI;refine st ?_;refine cn rfl ?_ ?_
   ·intro c4'
    have hi:i < e.vs.length:=by omega
    obtain ⟨x,hx⟩:∃ x,e.vs[i]=x:=⟨_,rfl⟩;have hxm:x∈e.vs:=hx ▸ List.getElem_mem hi;refine su ?_;refine lu (Aa2 (by show some (ownV e.v e.vs.length)=_;rw [Ac6 hde.v]) rfl Ax3 (by omega) (by omega) (Ak5 hde.v (by omega))) ?_;refine lu (Aa9 rfl (fun w hm=>(AN7 iI (fun b o h=>hm.at (.tail _ (.tail _ (.tail _ (.tail _ (.tail _ (.tail _ ((by first | exact List.mem_append_left _ h | exact List.mem_append_right _ (List.mem_append_left _ h)))))))))) (BP1 hbe hde (by omega)) Aw9 (Df1 hbe hde hi hx (by simp))))) ?_;refine Ae3 (X:=Blks) (n0:=[(b16,_),(b92,_),(b12,_),(vb,_),(xb,_),(b3,_)]) (x.p.things.length) (fun k L3 q=>(112,.int .i64 (k:Int))::q) (fun _ _=>_) (fun k L3=>[]) (fun k L3=>L3++(dkB z77.1++(ownB 9 xo (rep.map strC).flatten++(ownB 66 z43 (c.p.things.map Th.cells).flatten++(dkB xd++(dkB yd++[])))))) (fun k L3=>Like (dkB z91.1++dkB z89.1) L3) L2 iI rfl (zE 112 rfl rfl (zS 1 rfl (zS 3 rfl (zS 7 rfl (zS 8 rfl (zS 9 rfl (zS 12 rfl (zS 92 rfl (zS 93 rfl (zS 94 rfl (zS 16 rfl (zS 99 rfl (zS 100 rfl (zS 101 rfl (zS 17 rfl (zS 110 rfl (zS 111 rfl (Sub.nil _)))))))))))))))))) (.cons .here rfl (.cons .here rfl (.cons .here rfl (.cons .here rfl (.cons .here rfl (.cons .here rfl (Pick.same rfl))))))) ?_;intro k L3 kN kI;refine st ?_;refine cn rfl ?_ ?_
    ·intro c5'
     have hk:k < x.p.things.length:=by omega
     have hxt:=hde.things x hxm;obtain ⟨ds3,es3,L3m,hup3,hps3,hL3m⟩:=CX1 hbe hde kI hxm hk (-9) (o:=0 + (k:Int).toNat * 9 + 8) (by simp);refine su ?_;refine lu (Aa2 (by show some (ownV e.v e.vs.length)=_;rw [Ac6 hde.v]) rfl Ax3 (by omega) (by omega) (Ak5 hde.v (by omega))) ?_;refine lv (Aa9 rfl (fun w hm=>(AN7 kI (fun b o h=>hm.at (.tail _ (.tail _ (.tail _ (.tail _ (.tail _ (.tail _ ((by first | exact List.mem_append_left _ h | exact List.mem_append_right _ (List.mem_append_left _ h)))))))))) (BP1 hbe hde (by omega)) Aw9 (Df1 hbe hde hi hx (by simp))))) ?_;refine lu (Aa2 rfl rfl Aq9 (by omega) (by omega) (Ak5 (hde.vs x hxm) (by omega))) ?_;refine Ab1 (Sto.store rfl rfl (.there (.there (.there (.there (.there (.there (Upd.tail0 hup3 rfl))))))) Ag9 rfl hps3) rfl rfl ?_;refine st ?_;refine lv (Val.add rfl rfl (IntWalk.i64_in _ ⟨by omega,by omega⟩)) ?_;exact Ac8 L3m (by omega) hL3m rfl (zE 112 rfl rfl (zS 1 rfl (zS 3 rfl (zS 7 rfl (zS 8 rfl (zS 9 rfl (zS 12 rfl (zS 92 rfl (zS 93 rfl (zS 94 rfl (zS 16 rfl (zS 99 rfl (zS 100 rfl (zS 101 rfl (zS 17 rfl (zS 110 rfl (zS 111 rfl (Sub.nil _)))))))))))))))))) (Pick.cnt fun x=>by simp only [nC,List.append_nil,List.nil_append,dkM];omega)
    intro c5';obtain ⟨dsU,bU,h,hnU⟩:=Dq2 hbe hde kI hi (o:=0 + (i:Int).toNat * 13 + 12) (by simp);obtain ⟨dsV,esV,L3n,hupV,hpsV,hL3n⟩:=Df4 hbe hde kI hi (!bU) (o:=0 + (i:Int).toNat * 13 + 12) (by simp);refine RunC.exit ?_;refine su ?_;refine Ab0 ?_;refine st ?_;refine Ac3 10 Ai9 (.cons .here rfl (.cons .here rfl (.cons .here rfl (.cons .here rfl (.cons .here rfl (.cons .here rfl .nil)))))) ?_;refine zw 0 ?_;refine zw 1 ?_;refine zw 2 ?_;refine zw 3 ?_;refine zw 4 ?_;refine zw 5 ?_;refine zv 6 rfl (Aa2 (by show some (ownV e.v e.vs.length)=_;rw [Ac6 hde.v]) rfl Ax3 (by omega) (by omega) (Ak5 hde.v (by omega))) ?_;refine zw 7 ?_;refine zA 8 ?_;refine Ai6 rfl (Aa9 rfl (fun w hm=>(AU7 (hm.at (.tail _ (.tail _ (.tail _ (.tail _ (.tail _ (.tail _ ((by first | exact List.mem_append_left _ h | exact List.mem_append_right _ (List.mem_append_left _ h)))))))))) BP4 hnU))) rfl rfl rfl (Aa6 (.cons .here rfl (.cons .here rfl (.cons .here rfl (.cons .here rfl (.cons .here rfl (.cons .here rfl .nil)))))) (.cons .here rfl (.cons .here rfl (.cons .here rfl (.cons .here rfl (.cons .here rfl (.cons .here rfl .nil)))))) rfl ?_)
    refine zw 9 ?_;refine zt ?_;refine zo 10 rfl (Aa2 (by show some (ownV e.v e.vs.length)=_;rw [Ac6 hde.v]) rfl Ax3 (by omega) (by omega) (Ak5 hde.v (by omega))) ?_;refine zp 11 ?_;refine zB 12 ?_;refine Ab8 rfl (Sto.store rfl rfl (.there (.there (.there (.there (.there (.there (Upd.tail0 hupV rfl))))))) BP4 rfl hpsV) rfl rfl (Ab7 ?_)
    refine zd ?_;refine st ?_;refine lv (Val.add rfl rfl (IntWalk.i64_in _ ⟨by omega,by omega⟩)) ?_;exact Ac8 L3n (by omega) hL3n rfl (zE 101 rfl rfl (zS 1 rfl (zS 3 rfl (zS 7 rfl (zS 8 rfl (zS 9 rfl (zS 12 rfl (zS 92 rfl (zS 93 rfl (zS 94 rfl (zS 16 rfl (zS 99 rfl (zS 100 rfl (Sub.nil _)))))))))))))) (Pick.cnt fun x=>by simp only [nC,List.append_nil,List.nil_append,dkM];omega)
   intro c4';refine RunC.exit ?_;refine su ?_;refine Ab0 ?_;refine su ?_;refine lv (Af7 rfl AQ6 hde.b) ?_;refine Ae3 (X:=Blks) (n0:=[(b16,_),(b92,_),(b12,_),(vb,_),(xb,_),(b3,_)]) (e.bs.length) (fun p L4 q=>(143,.int .i64 (p:Int))::q) (fun _ _=>_) (fun p L4=>[]) (fun p L4=>L4++(dkB z77.1++(ownB 9 xo (rep.map strC).flatten++(ownB 66 z43 (c.p.things.map Th.cells).flatten++(dkB xd++(dkB yd++[])))))) (fun p L4=>Like (dkB z91.1++dkB z89.1) L4) L2 iI rfl (zE 143 rfl rfl (zS 1 rfl (zS 3 rfl (zS 7 rfl (zS 8 rfl (zS 9 rfl (zS 12 rfl (zS 92 rfl (zS 93 rfl (zS 94 rfl (zS 16 rfl (zS 141 rfl (zS 142 rfl (Sub.nil _)))))))))))))) (.cons .here rfl (.cons .here rfl (.cons .here rfl (.cons .here rfl (.cons .here rfl (.cons .here rfl (Pick.same rfl))))))) ?_;intro p L4 pN pI;refine st ?_;refine cn rfl ?_ ?_
   ·intro c6'
    have hp:p < e.bs.length:=by omega
    obtain ⟨x,hx⟩:∃ x,e.bs[p]=x:=⟨_,rfl⟩;have hxm:x∈e.bs:=hx ▸ List.getElem_mem hp;refine su ?_;refine lu (Aa2 (by show some (ownV e.b e.bs.length)=_;rw [Ac6 hde.b]) rfl AQ6 (by omega) (by omega) (Ak5 hde.b (by omega))) ?_;refine lu (Aa9 rfl (fun w hm=>(AN7 pI (fun b o h=>hm.at (.tail _ (.tail _ (.tail _ (.tail _ (.tail _ (.tail _ ((by first | exact List.mem_append_left _ h | exact List.mem_append_right _ (List.mem_append_left _ h)))))))))) (CR5 hbe hde (by omega)) BW4 (Dp3 hbe hde hp hx (by simp))))) ?_;refine Ae3 (X:=Blks) (n0:=[(b16,_),(b92,_),(b12,_),(vb,_),(xb,_),(b3,_)]) (x.titles.length) (fun u L5 q=>(154,.int .i64 (u:Int))::q) (fun _ _=>_) (fun u L5=>[]) (fun u L5=>L5++(dkB z77.1++(ownB 9 xo (rep.map strC).flatten++(ownB 66 z43 (c.p.things.map Th.cells).flatten++(dkB xd++(dkB yd++[])))))) (fun u L5=>Like (dkB z91.1++dkB z89.1) L5) L4 pI rfl (zE 154 rfl rfl (zS 1 rfl (zS 3 rfl (zS 7 rfl (zS 8 rfl (zS 9 rfl (zS 12 rfl (zS 92 rfl (zS 93 rfl (zS 94 rfl (zS 16 rfl (zS 141 rfl (zS 142 rfl (zS 143 rfl (zS 19 rfl (zS 152 rfl (zS 153 rfl (Sub.nil _)))))))))))))))))) (.cons .here rfl (.cons .here rfl (.cons .here rfl (.cons .here rfl (.cons .here rfl (.cons .here rfl (Pick.same rfl))))))) ?_;intro u L5 uN uI;refine st ?_;refine cn rfl ?_ ?_
    ·intro c7'
     have hu:u < x.titles.length:=by omega
     have hxt:=(hde.ti x hxm).1;obtain ⟨ds5,es5,L5m,hup5,hps5,hL5m⟩:=Dg5 hbe hde uI hxm hu (bs [63]) (o:=0 + (u:Int).toNat * 1) (by simp);refine su ?_;refine lu (Aa2 (by show some (ownV e.b e.bs.length)=_;rw [Ac6 hde.b]) rfl AQ6 (by omega) (by omega) (Ak5 hde.b (by omega))) ?_;refine lv (Aa9 rfl (fun w hm=>(AN7 uI (fun b o h=>hm.at (.tail _ (.tail _ (.tail _ (.tail _ (.tail _ (.tail _ ((by first | exact List.mem_append_left _ h | exact List.mem_append_right _ (List.mem_append_left _ h)))))))))) (CR5 hbe hde (by omega)) BW4 (Dp3 hbe hde hp hx (by simp))))) ?_;refine lv (Aa2 rfl rfl An2 (by omega) (by omega) (Ak5 (hde.bs x hxm) (by omega))) ?_;refine Ab1 (Sto.store rfl rfl (.there (.there (.there (.there (.there (.there (Upd.tail0 hup5 rfl))))))) AC8 rfl hps5) rfl rfl ?_;refine st ?_;refine lv (Val.add rfl rfl (IntWalk.i64_in _ ⟨by omega,by omega⟩)) ?_;exact Ac8 L5m (by omega) hL5m rfl (zE 154 rfl rfl (zS 1 rfl (zS 3 rfl (zS 7 rfl (zS 8 rfl (zS 9 rfl (zS 12 rfl (zS 92 rfl (zS 93 rfl (zS 94 rfl (zS 16 rfl (zS 141 rfl (zS 142 rfl (zS 143 rfl (zS 19 rfl (zS 152 rfl (zS 153 rfl (Sub.nil _)))))))))))))))))) (Pick.cnt fun x=>by simp only [nC,List.append_nil,List.nil_append,dkM];omega)
    intro c7';refine RunC.exit ?_;refine su ?_;refine Ab0 ?_;refine st ?_;refine lv (Val.add rfl rfl (IntWalk.i64_in _ ⟨by omega,by omega⟩)) ?_;exact Ac8 L5 (by omega) uI rfl (zE 143 rfl rfl (zS 1 rfl (zS 3 rfl (zS 7 rfl (zS 8 rfl (zS 9 rfl (zS 12 rfl (zS 92 rfl (zS 93 rfl (zS 94 rfl (zS 16 rfl (zS 141 rfl (zS 142 rfl (Sub.nil _)))))))))))))) (Pick.cnt fun x=>by simp only [nC,List.append_nil,List.nil_append,dkM];omega)
   intro c6';refine RunC.exit ?_;refine su ?_;refine Ab0 ?_;refine su ?_;refine lv (Af7 rfl AM5 hde.c) ?_;refine Ae3 (X:=Blks) (n0:=[(b16,_),(b92,_),(b12,_),(vb,_),(xb,_),(b3,_)]) (e.cs.length) (fun y L6 q=>(172,.int .i64 (y:Int))::q) (fun _ _=>_) (fun y L6=>[]) (fun y L6=>L6++(dkB z77.1++(ownB 9 xo (rep.map strC).flatten++(ownB 66 z43 (c.p.things.map Th.cells).flatten++(dkB xd++(dkB yd++[])))))) (fun y L6=>Like (dkB z91.1++dkB z89.1) L6) L4 pI rfl (zE 172 rfl rfl (zS 1 rfl (zS 3 rfl (zS 7 rfl (zS 8 rfl (zS 9 rfl (zS 12 rfl (zS 92 rfl (zS 93 rfl (zS 94 rfl (zS 16 rfl (zS 170 rfl (zS 171 rfl (Sub.nil _)))))))))))))) (.cons .here rfl (.cons .here rfl (.cons .here rfl (.cons .here rfl (.cons .here rfl (.cons .here rfl (Pick.same rfl))))))) ?_;intro y L6 yN yI;refine st ?_;refine cn rfl ?_ ?_
   ·intro c8'
    have hy:y < e.cs.length:=by omega
    obtain ⟨ds6,es6,L6m,hup6,hps6,hL6m⟩:=Dp0 hbe hde yI hy (-9) (bs []) (bs []) (o:=0 + (y:Int).toNat * 3) (by simp);refine su ?_;refine lv (Val.build (parts:=[(0,.const (.int .i64 (-9)))]) rfl Bn5 Bx1 rfl) ?_;refine lv (Aa2 (by show some (ownV e.c e.cs.length)=_;rw [Ac6 hde.c]) rfl AM5 (by omega) (by omega) (Ak5 hde.c (by omega))) ?_;refine Ab1 (Sto.store rfl rfl (.there (.there (.there (.there (.there (.there (Upd.tail0 hup6 rfl))))))) BF8 rfl hps6) rfl rfl ?_;refine st ?_;refine lv (Val.add rfl rfl (IntWalk.i64_in _ ⟨by omega,by omega⟩)) ?_;exact Ac8 L6m (by omega) hL6m rfl (zE 172 rfl rfl (zS 1 rfl (zS 3 rfl (zS 7 rfl (zS 8 rfl (zS 9 rfl (zS 12 rfl (zS 92 rfl (zS 93 rfl (zS 94 rfl (zS 16 rfl (zS 170 rfl (zS 171 rfl (Sub.nil _)))))))))))))) (Pick.cnt fun x=>by simp only [nC,List.append_nil,List.nil_append,dkM];omega)
   intro c8';refine RunC.exit ?_;refine su ?_;refine Ab0 ?_;refine st ?_;refine lv (Val.add rfl rfl (IntWalk.i64_in _ ⟨by omega,by omega⟩)) ?_;exact Ac8 L6 (by omega) yI rfl (zE 94 rfl rfl (zS 1 rfl (zS 3 rfl (zS 7 rfl (zS 8 rfl (zS 9 rfl (zS 12 rfl (zS 92 rfl (zS 93 rfl (Sub.nil _)))))))))) (Pick.cnt fun x=>by simp only [nC,List.append_nil,List.nil_append,dkM];omega)
  intro c3';refine RunC.exit ?_;refine su ?_;refine Ab0 ?_;refine st ?_;refine Ac3 12 Ai9 (.cons .here rfl (.cons .here rfl (.cons .here rfl (.cons .here rfl (.cons .here rfl (Pick.refl _)))))) ?_;refine va 0 rfl (Ag1 rfl (.tail _ (.head _)) Bg4 rfl) rfl rfl rfl (.cons .here rfl (.cons .here rfl (.cons .here rfl (.cons .here rfl (.cons .here rfl (Pick.refl _)))))) rfl ?_;refine va 1 rfl (Aa3 rfl) rfl rfl rfl (.cons .here rfl (.cons .here rfl (.cons .here rfl (.cons .here rfl (.cons .here rfl (Pick.refl _)))))) rfl ?_;refine zA 2 ?_;refine Ap3 [(b92,_),(b12,_),(vb,_),(xb,_),(b3,_)] _ rfl rfl (zF rfl BB6) rfl rfl rfl (fun w hm=>Ay5 xb xd c hxk.dk w (Ak0 hxk.dk (hm.pick (news':=dkM xb xd c []) (Pick.cnt fun x=>by simp only [nC,List.append_nil,List.nil_append,dkM];omega)))) (fun z185=>(Aa6 (.cons .here rfl (.cons .here rfl (.cons .here rfl (.cons .here rfl (.cons .here rfl (Pick.cnt fun x=>by simp only [nC,List.append_nil,List.nil_append,dkM];omega)))))) (.cons .here rfl (.cons .here rfl (.cons .here rfl (.cons .here rfl (.cons .here rfl (Pick.refl _)))))) rfl ?_))
  skip
  refine zA 3 ?_;refine Ab5 rfl (zF rfl CQ9) rfl rfl rfl (fun w hm=>Bf1 z77.1 z185.1 z77.2.1 z185.2.1 (by rw [z77.2.2,z185.2.2]) w (BU3 z77.2.1 (hm.pick (news':=dkB z77.1++[]) (Pick.cnt fun x=>by simp only [nC,List.append_nil,List.nil_append,dkM];omega))) (BU3 z185.2.1 (hm.pick (news':=dkB z185.1++[]) (Pick.cnt fun x=>by simp only [nC,List.append_nil,List.nil_append,dkM];omega)))) (Aa6 (.cons .here rfl (.cons .here rfl (.cons .here rfl (.cons .here rfl (.cons .here rfl (Pick.cnt fun x=>by simp only [nC,List.append_nil,List.nil_append,dkM];omega)))))) (.cons .here rfl (.cons .here rfl (.cons .here rfl (.cons .here rfl (.cons .here rfl (Pick.refl _)))))) rfl ?_)
  refine va 4 rfl (Aa3 rfl) rfl rfl rfl (.cons .here rfl (.cons .here rfl (.cons .here rfl (.cons .here rfl (.cons .here rfl (Pick.cnt fun x=>by simp only [nC,List.append_nil,List.nil_append,dkM];omega)))))) rfl ?_;refine va 5 rfl (Aa3 rfl) rfl rfl rfl (.cons .here rfl (.cons .here rfl (.cons .here rfl (.cons .here rfl (.cons .here rfl (Pick.cnt fun x=>by simp only [nC,List.append_nil,List.nil_append,dkM];omega)))))) rfl ?_;refine Bf9 (dj:=188) false rfl (by simp) ?_;refine va 6 rfl (Val.fieldAddr rfl Bq7) rfl rfl rfl (.cons .here rfl (.cons .here rfl (.cons .here rfl (.cons .here rfl (.cons .here rfl (Pick.cnt fun x=>by simp only [nC,List.append_nil,List.nil_append,dkM];omega)))))) rfl ?_;refine va 7 rfl (Val.fieldAddr rfl AO6) rfl rfl rfl (.cons .here rfl (.cons .here rfl (.cons .here rfl (.cons .here rfl (.cons .here rfl (Pick.cnt fun x=>by simp only [nC,List.append_nil,List.nil_append,dkM];omega)))))) rfl ?_;refine va 8 rfl (Ab4 rfl (.tail _ (.tail _ (.tail _ (.tail _ (.head _))))) Aw9 rfl) rfl rfl rfl (.cons .here rfl (.cons .here rfl (.cons .here rfl (.cons .here rfl (.cons .here rfl (Pick.cnt fun x=>by simp only [nC,List.append_nil,List.nil_append,dkM];omega)))))) rfl ?_;refine va 9 rfl (Aj5 rfl Aq9) rfl rfl rfl (.cons .here rfl (.cons .here rfl (.cons .here rfl (.cons .here rfl (.cons .here rfl (Pick.cnt fun x=>by simp only [nC,List.append_nil,List.nil_append,dkM];omega)))))) rfl ?_;refine va 10 rfl (Aa3 rfl) rfl rfl rfl (.cons .here rfl (.cons .here rfl (.cons .here rfl (.cons .here rfl (.cons .here rfl (Pick.cnt fun x=>by simp only [nC,List.append_nil,List.nil_append,dkM];omega)))))) rfl ?_;refine va 11 rfl (Af7 rfl Aq9 hz43) rfl rfl rfl (.cons .here rfl (.cons .here rfl (.cons .here rfl (.cons .here rfl (.cons .here rfl (Pick.cnt fun x=>by simp only [nC,List.append_nil,List.nil_append,dkM];omega)))))) rfl ?_;refine zt ?_;refine zp 12 ?_;refine zp 13 ?_;refine zd ?_;refine st ?_;refine RunC.cond rfl (fun h=>absurd h (by simp)) ?_;intro c9;clear c9;refine st ?_;refine AC4 (Ac1 _) (news':=(b12,.cells [ownV z77.1.v z77.1.vs.length,ownV z77.1.b z77.1.bs.length,ownV z77.1.c z77.1.cs.length].toArray 43 (0,0))::(b3,.cells (cellsL (c.v q cap)).toArray 28 (0,0))::(ownB 9 xo (rep.map strC).flatten++(ownB 66 z43 (c.p.things.map Th.cells).flatten++(dkB z77.1++[])))) (Pick.cnt fun x=>by simp only [nC,List.append_nil,List.nil_append,dkM];omega) ?_;refine lv (Af7 rfl Aq9 hz43) ?_;refine Ae3 (X:=Unit) (n0:=[(b12,_),(b3,_)]) (c.p.things.length) (fun j y0 q=>(199,.int .i64 (j:Int))::q) (fun _ _=>_) (fun j y0=>[]) (fun j y0=>ownB 9 xo (rep.map strC).flatten++(ownB 66 z43 (c.p.things.map Th.cells).flatten++(dkB z77.1++[]))) (fun j y0=>True) () trivial rfl (zE 199 rfl rfl (zS 1 rfl (zS 3 rfl (zS 7 rfl (zS 8 rfl (zS 9 rfl (zS 12 rfl (zS 197 rfl (zS 198 rfl (Sub.nil _)))))))))) (.cons .here rfl (.cons .here rfl (Pick.same rfl))) ?_;intro j y0 jN jI;refine st ?_;refine cn rfl ?_ ?_
  ·intro c10'
   have hj:j < c.p.things.length:=by omega
   obtain ⟨th,hth⟩:∃ th,c.p.things[j]=th:=⟨_,rfl⟩;refine st ?_;refine Ac3 10 Ai9 (.cons .here rfl (.cons .here rfl (Pick.refl _))) ?_;refine va 0 rfl (Val.fieldAddr rfl Bq7) rfl rfl rfl (.cons .here rfl (.cons .here rfl (Pick.refl _))) rfl ?_;refine va 1 rfl (Val.fieldAddr rfl AO6) rfl rfl rfl (.cons .here rfl (.cons .here rfl (Pick.refl _))) rfl ?_;refine va 2 rfl (Ab4 rfl (.tail _ (.head _)) Aw9 rfl) rfl rfl rfl (.cons .here rfl (.cons .here rfl (Pick.refl _))) rfl ?_;refine va 3 rfl (Aa3 rfl) rfl rfl rfl (.cons .here rfl (.cons .here rfl (Pick.refl _))) rfl ?_;refine va 4 rfl (Aa2 rfl rfl Aq9 (by omega) (by omega) (hS.ptrM hj)) rfl rfl rfl (.cons .here rfl (.cons .here rfl (Pick.refl _))) rfl ?_;refine va 5 rfl (Aa9 rfl (fun w hm=>hS.loadX (by decide) hm (by simp) Av2 hj hth)) rfl rfl rfl (.cons .here rfl (.cons .here rfl (Pick.refl _))) rfl ?_;refine va 6 rfl (Aa3 rfl) rfl rfl rfl (.cons .here rfl (.cons .here rfl (Pick.refl _))) rfl ?_;refine va 7 rfl (Aa3 rfl) rfl rfl rfl (.cons .here rfl (.cons .here rfl (Pick.refl _))) rfl ?_;refine va 8 rfl (Aa2 (by show some (ownV z43 c.p.things.length)=_;rw [Ac6 hz43]) rfl Aq9 (by omega) (by omega) (Ak5 hz43 (by omega))) rfl rfl rfl (.cons .here rfl (.cons .here rfl (Pick.refl _))) rfl ?_;refine va 9 rfl (Aa9 rfl (fun w hm=>(Al0 (f:=Th.cells) (e:=66) (fun _=>rfl) (by decide) hz43 (fun b o h=>hm.at (.tail _ (.tail _ ((by first | exact List.mem_append_right _ (List.mem_append_left _ h) | exact List.mem_append_right _ (List.mem_append_right _ (List.mem_append_left _ h)))))))).loadX (by decide) (Mem.refl w) (by simp) Av2 hj hth)) rfl rfl rfl (.cons .here rfl (.cons .here rfl (Pick.refl _))) rfl ?_;refine zt ?_;refine zo 10 rfl (At6 rfl rfl CP5 (Dj2 _ _ _ _ _ _ _ _ _ _ _ _ _ _ _ _ _ _ )) ?_;refine zd ?_;refine st ?_;refine RunC.cond rfl (fun h=>absurd h (by simp)) ?_;intro c11;clear c11;refine st ?_;refine lv (Val.add rfl rfl (IntWalk.i64_in _ ⟨by omega,by omega⟩)) ?_;exact Ac8 () (by omega) trivial rfl (zE 199 rfl rfl (zS 1 rfl (zS 3 rfl (zS 7 rfl (zS 8 rfl (zS 9 rfl (zS 12 rfl (zS 197 rfl (zS 198 rfl (Sub.nil _)))))))))) (Pick.cnt fun x=>by simp only [nC,List.append_nil,List.nil_append,dkM];omega)
  intro c10';refine RunC.exit ?_;refine su ?_;refine Ab0 ?_;refine su ?_;refine Aj4 [(b12,_),(b3,_)] _ rfl (zF rfl BB5) rfl rfl rfl (fun w hm=>AR6 c q b o cap l w (hS.mono (by decide) hm (by simp)) hq (by omega) (hL.mono hm) ql bl ol cl (hls.mono (by decide) hm (by simp)) (by omega) (fun s hs=>by have:=hl5 s hs;omega) hc) (fun z217=>?_)
  obtain ⟨⟨ub,ud,uo,ul⟩,huk⟩:=z217;dsimp only at huk ⊢;have hpp:=huk.pl;rw [hpl] at hpp
  injection hpp with hu1 hu2
  subst hu2;refine st ?_;refine Ac3 13 Ai9 (.cons .here rfl (.cons .here rfl (Pick.refl _))) ?_;refine va 0 rfl (Aa3 rfl) rfl rfl rfl (.cons .here rfl (.cons .here rfl (Pick.refl _))) rfl ?_;refine va 1 rfl (Ag7 rfl hund) rfl rfl rfl (.cons .here rfl (.cons .here rfl (Pick.refl _))) rfl ?_;refine va 2 rfl (Aa3 rfl) rfl rfl rfl (.cons .here rfl (.cons .here rfl (Pick.refl _))) rfl ?_;refine Bf9 (dj:=222) false rfl (by simp) ?_;refine va 3 rfl (Aa3 rfl) rfl rfl rfl (.cons .here rfl (.cons .here rfl (Pick.refl _))) rfl ?_;refine va 4 rfl (Af7 rfl An2 hxk.own) rfl rfl rfl (.cons .here rfl (.cons .here rfl (Pick.refl _))) rfl ?_;refine va 5 rfl (Aa3 rfl) rfl rfl rfl (.cons .here rfl (.cons .here rfl (Pick.refl _))) rfl ?_;refine va 6 rfl (Af7 rfl An2 huk.own) rfl rfl rfl (.cons .here rfl (.cons .here rfl (Pick.refl _))) rfl ?_;refine va 7 rfl (Aa3 rfl) rfl rfl rfl (.cons .here rfl (.cons .here rfl (Pick.refl _))) rfl ?_;refine va 8 rfl (Aa3 rfl) rfl rfl rfl (.cons .here rfl (.cons .here rfl (Pick.refl _))) rfl ?_;refine va 9 rfl (Aa3 rfl) rfl rfl rfl (.cons .here rfl (.cons .here rfl (Pick.refl _))) rfl ?_;refine Bf9 (dj:=229) false rfl (by simp) ?_;refine va 10 rfl (Ag1 rfl (.head _) Bg4 rfl) rfl rfl rfl (.cons .here rfl (.cons .here rfl (Pick.refl _))) rfl ?_;refine va 11 rfl (Aa3 rfl) rfl rfl rfl (.cons .here rfl (.cons .here rfl (Pick.refl _))) rfl ?_;refine zA 12 ?_;refine Ap3 [(b12,_),(b3,_)] _ rfl rfl (zF rfl BB6) rfl rfl rfl (fun w hm=>Ay5 ub ud c huk.dk w (Ak0 huk.dk (hm.pick (news':=dkM ub ud c []) (Pick.cnt fun x=>by simp only [nC,List.append_nil,List.nil_append,dkM];omega)))) (fun z232=>(Aa6 (.cons .here rfl (.cons .here rfl (Pick.cnt fun x=>by simp only [nC,List.append_nil,List.nil_append,dkM];omega))) (.cons .here rfl (.cons .here rfl (Pick.refl _))) rfl ?_))
  skip
  refine zt ?_;refine zq 13 rfl (zF rfl CQ9) (fun w hm=>Bf1 z77.1 z232.1 z77.2.1 z232.2.1 (by rw [z77.2.2,z232.2.2];exact hx1.symm.trans hu1) w (BU3 z77.2.1 (hm.pick (news':=dkB z77.1++[]) (Pick.cnt fun x=>by simp only [nC,List.append_nil,List.nil_append,dkM];omega))) (BU3 z232.2.1 (hm.pick (news':=dkB z232.1++[]) (Pick.cnt fun x=>by simp only [nC,List.append_nil,List.nil_append,dkM];omega)))) ?_;refine zp 14 ?_;refine zp 15 ?_;refine zd ?_;refine st ?_;refine RunC.cond rfl (fun h=>absurd h (by simp)) ?_;intro c12;clear c12;refine st ?_;refine AC4 (Ac1 _) (news':=(b3,.cells (cellsL (c.v q cap)).toArray 28 (0,0))::(ownB 9 uo (rep.map strC).flatten++(ownB 9 xo (rep.map strC).flatten++[]))) (Pick.cnt fun x=>by simp only [nC,List.append_nil,List.nil_append,dkM];omega) ?_;refine lv (Af7 rfl An2 hxk.own) ?_;refine Ae3 (X:=Unit) (n0:=[(b3,_)]) (rep.length) (fun j y1 q=>(238,.int .i64 (j:Int))::q) (fun _ _=>_) (fun j y1=>[]) (fun j y1=>ownB 9 uo (rep.map strC).flatten++(ownB 9 xo (rep.map strC).flatten++[])) (fun j y1=>True) () trivial rfl (zE 238 rfl rfl (zS 9 rfl (zS 24 rfl (zS 236 rfl (zS 237 rfl (Sub.nil _)))))) (.cons .here rfl (Pick.same rfl)) ?_;intro j y1 jN jI;refine st ?_;refine cn rfl ?_ ?_
  ·intro c13'
   have hj:j < rep.length:=by omega
   obtain ⟨u,hu⟩:∃ u,rep[j]=u:=⟨_,rfl⟩;refine st ?_;refine Ac3 8 Ai9 (.cons .here rfl (Pick.refl _)) ?_;refine va 0 rfl (Aa3 rfl) rfl rfl rfl (.cons .here rfl (Pick.refl _)) rfl ?_;refine va 1 rfl (Aa3 rfl) rfl rfl rfl (.cons .here rfl (Pick.refl _)) rfl ?_;refine va 2 rfl (Aa2 (by show some (ownV xo rep.length)=_;rw [Ac6 hxk.own]) rfl An2 (by omega) (by omega) (Ak5 hxk.own (by omega))) rfl rfl rfl (.cons .here rfl (Pick.refl _)) rfl ?_;refine va 3 rfl (Aa9 rfl (fun w hm=>Sl.loadM1 (Al0 (f:=strC) (e:=9) (fun _=>rfl) (by decide) hxk.own (fun b o h=>hm.at (.tail _ ((by first | exact List.mem_append_right _ (List.mem_append_left _ h) | exact List.mem_append_right _ (List.mem_append_right _ (List.mem_append_left _ h))))))) (by decide) (Mem.refl w) (by simp) AC8 hj (v:=.string (bs u)) (by simp [strC,hu]))) rfl rfl rfl (.cons .here rfl (Pick.refl _)) rfl ?_;refine va 4 rfl (Aa3 rfl) rfl rfl rfl (.cons .here rfl (Pick.refl _)) rfl ?_;refine va 5 rfl (Aa3 rfl) rfl rfl rfl (.cons .here rfl (Pick.refl _)) rfl ?_;refine va 6 rfl (Aa2 (by show some (ownV uo rep.length)=_;rw [Ac6 huk.own]) rfl An2 (by omega) (by omega) (Ak5 huk.own (by omega))) rfl rfl rfl (.cons .here rfl (Pick.refl _)) rfl ?_;refine va 7 rfl (Aa9 rfl (fun w hm=>Sl.loadM1 (Al0 (f:=strC) (e:=9) (fun _=>rfl) (by decide) huk.own (fun b o h=>hm.at (.tail _ ((by first | exact List.mem_append_left _ h | exact List.mem_append_right _ (List.mem_append_left _ h)))))) (by decide) (Mem.refl w) (by simp) AC8 hj (v:=.string (bs u)) (by simp [strC,hu]))) rfl rfl rfl (.cons .here rfl (Pick.refl _)) rfl ?_;refine zt ?_;refine zo 8 rfl (Aw4 rfl rfl) ?_;refine zd ?_;refine st ?_;refine RunC.cond rfl (fun h=>absurd h (by simp)) ?_;intro c14;clear c14;refine st ?_;refine lv (Val.add rfl rfl (IntWalk.i64_in _ ⟨by omega,by omega⟩)) ?_;exact Ac8 () (by omega) trivial rfl (zE 238 rfl rfl (zS 9 rfl (zS 24 rfl (zS 236 rfl (zS 237 rfl (Sub.nil _)))))) (Pick.cnt fun x=>by simp only [nC,List.append_nil,List.nil_append,dkM];omega)
  intro c13';refine RunC.exit ?_;refine su ?_;refine Ab0 ?_;refine st ?_;refine zc (zF rfl Ct7) (fun w hm=>At4 w (hL.mono hm)) ?_;exact Aa5 (.r1 rfl (.tmp rfl)) (by first | rfl | simp)
end Go.Proofs.YtnmkdiagbkkmaabGreatDoor
namespace Go.Proofs.YtnmkdiagbkkmaabGreatDoor
open Go Go.Eng Go.Pw1

abbrev spSh:Sh:=.st [.int .i64,.int .i64]
abbrev plSh:Sh:=.st [spSh,spSh]
abbrev thSh:Sh:=.st [plSh,plSh,.int .i64]
abbrev prSh:Sh:=.st [spSh,spSh,.int .i64,.int .i64,.int .i64,.sl thSh]
theorem Ck7 {w:World} {cs:List Value} (h:Rd w spSh cs):∃ s:Sp,cs=[.int .i64 s.lo,.int .i64 s.hi]:=by
  cases h with
  | recS h1 h2 =>
    cases h1
    cases h2 with
    | recS h3 h4 =>
      cases h3
      cases h4
      exact ⟨⟨_,_⟩,rfl⟩
theorem Dh7 {w:World} {cs:List Value} (h:Rd w plSh cs):∃ s t:Sp,cs=[.int .i64 s.lo,.int .i64 s.hi,.int .i64 t.lo,.int .i64 t.hi]:=by
  cases h with
  | recS h1 h2 =>
    obtain ⟨s,rfl⟩:=Ck7 h1
    cases h2 with
    | recS h3 h4 =>
      obtain ⟨t,rfl⟩:=Ck7 h3
      cases h4
      exact ⟨s,t,rfl⟩
theorem Dq5 {w:World} {cs:List Value} (h:Rd w thSh cs):∃ t:Th,cs=t.cells:=by
  cases h with
  | recS h1 h2 =>
    obtain ⟨a,b,rfl⟩:=Dh7 h1
    cases h2 with
    | recS h3 h4 =>
      obtain ⟨c,d,rfl⟩:=Dh7 h3
      cases h4 with
      | recS h5 h6 =>
        cases h5
        cases h6
        exact ⟨⟨a,b,c,d,_⟩,rfl⟩
theorem BH3 {α:Type} {f:α→List Value}:∀ {xs:List (List Value)},(∀ x∈xs,∃ a,x=f a)→∃ l:List α,xs=l.map f
  | [],_=>⟨[],rfl⟩
  | x::xs,h=>by
    obtain ⟨a,rfl⟩:=h x (by simp);obtain ⟨l,rfl⟩:=BH3 (xs:=xs) (fun y hy=>h y (List.mem_cons_of_mem _ hy));exact ⟨a::l,rfl⟩
structure In (w:World) (p:Pr) (q:Option Addr) (b o cap:Nat):Prop where
  s:Sl w q b o 9 (p.things.map Th.cells)
  n:q=none→p.things.length=0∧cap=0
theorem Dq6 {w:World} {cs:List Value} (h:Rd w prSh cs):∃ (p:Pr) (q:Option Addr) (b o cap:Nat),cs=p.cells q cap∧In w p q b o cap:=by
  cases h with
  | recS h1 h2 =>
  obtain ⟨f,rfl⟩:=Ck7 h1
  cases h2 with
  | recS h1 h2 =>
  obtain ⟨g,rfl⟩:=Ck7 h1
  cases h2 with
  | recS h1 h2 =>
  cases h1
  cases h2 with
  | recS h1 h2 =>
  cases h1
  cases h2 with
  | recS h1 h2 =>
  cases h1
  cases h2 with
  | recS h1 h2 =>
  cases h2
  cases h1 with
  | slNil=>exact ⟨⟨f,g,_,_,_,[]⟩,none,0,0,0,rfl,⟨Sl.emp,fun _=>⟨rfl,rfl⟩⟩⟩
  | sl hs hl hc hx =>
    obtain ⟨ts,rfl⟩:=BH3 (f:=Th.cells) (fun x hx'=>Dq5 (hx x hx'));exact ⟨⟨f,g,_,_,_,ts⟩,some _,_,_,_,by rw [List.length_map];rfl,⟨hs,fun h=>by cases h⟩⟩
abbrev cdSh:Sh:=.st [prSh,.int .i64,.int .i64,.int .i64,spSh,.int .i64,.int .i64,.int .i64,.int .i64]
theorem Dq8 {w:World} {cs:List Value} (h:Rd w cdSh cs):∃ (c:Cd) (q:Option Addr) (b o cap:Nat),cs=c.cells q cap∧In w c.p q b o cap:=by
  cases h with
  | recS h1 h2 =>
  obtain ⟨p,q,b,o,cap,rfl,hp⟩:=Dq6 h1
  cases h2 with
  | recS h1 h2 =>
  cases h1
  cases h2 with
  | recS h1 h2 =>
  cases h1
  cases h2 with
  | recS h1 h2 =>
  cases h1
  cases h2 with
  | recS h1 h2 =>
  obtain ⟨e,rfl⟩:=Ck7 h1
  cases h2 with
  | recS h1 h2 =>
  cases h1
  cases h2 with
  | recS h1 h2 =>
  cases h1
  cases h2 with
  | recS h1 h2 =>
  cases h1
  cases h2 with
  | recS h1 h2 =>
  cases h1
  cases h2
  exact ⟨⟨p,_,_,_,e,_,_,_,_⟩,q,b,o,cap,rfl,hp⟩
end Go.Proofs.YtnmkdiagbkkmaabGreatDoor
namespace Go.Eng
open Go Go.RowKit Go.ChangeShapes Go.WideShapes Go.ChangeAt
theorem AR8 {H:Type} {enc:TypeId×Value→H} {a:Assume} {C:Checked} {os:Os} {f:FuncId} {fn:Func} {s:ChangeSpec} {conds:List PathCond} {apart fresh handsOn again:Bool} {X:World→Array Value→Prop}
    (hX:∀ (w w':World) (args:Array Value),w.heap=w'.heap→X w args→X w' args)
    (own:ownKnob C.prog.godebug=none) (started:os.Started) (noInit:C.prog.inits.idxOf? f=none) (hfn:C.prog.funcs[f]? = some fn)
    (witness:∃ (w:World) (tape:Tape) (i:Input),w.os=os∧(w.forCall tape i).Shaped C.prog∧i.vars=[]∧Input.okWide C.prog (w.forCall tape i) .any w.heap.size f i ∧
      ((s.pre enc C.prog fn conds apart (w.forCall tape i).memory i.args∧X (w.forCall tape i).memory i.args)∧sizedMet enc C.prog fn (OpenSpec.ofChange s) apart (w.forCall tape i).memory i.args)∧a.holds C.prog (lone (Frame.enter C.prog f i.args .normal) [] (w.forCall tape i)))
    (contract:∀ (W:World) (base:Nat) (args:Array Value) (ds gs:List (DataW H)) (before:List MemPlace),
      (∀ (j:Nat) t v,fn.params[j]? = some t→args[j]? = some v→Value.okWide C.prog W .any base t v) →
      DataW.Whole enc C.prog fn.params.toList s.vars apart W args.toList ds gs before→W.ShapedOpen C.prog→X W args →
      Calls C.prog f args W fun e W'=>∃ v,e = .returned v∧s.post enc C.prog fn apart fresh handsOn again W args v W') :
    ReturnsInHanded a C os f .any (fun w args=>(s.pre enc C.prog fn conds apart w args∧X w args)∧sizedMet enc C.prog fn (OpenSpec.ofChange s) apart w args) (s.post enc C.prog fn apart fresh handsOn again):=by
  refine returnsInHanded_of_calls own started noInit witness ?_;intro w tape i _ hsh _ hok hpre hholds;obtain ⟨_,_,_,fn',hfn',_,_,_,_,hval⟩:=hok;have e:fn'=fn:=Option.some.inj (hfn'.symm.trans hfn);subst e;obtain ⟨⟨⟨ds,gs,before,hw,hc⟩,hx⟩,hz⟩:=hpre;have hw':=DataW.Whole.of_heap (w':=w.forCall tape i) (by rfl) hw;refine (contract (w.forCall tape i) w.heap.size i.args ds gs before hval hw' hsh (hX _ _ _ (by rfl) hx)).mono fun e W' ⟨v,he,hp⟩=>?_
  subst he;exact ChangeSpec.post_blind hp
theorem Bq0 {H:Type} {enc:TypeId×Value→H} {P:Program} {f:Func} {s:ChangeSpec} {n:Nat} {shs:List Sh} {tb:TypeId} {F:FuncId} (hl:laidOutB P=true) (hsh:f.params.toList.mapM (shapeB P n)=some shs)
    (hp:f.params.toList.all (fun t=>P.readableRec t && decide (t < P.types.size))=true) (hr:f.resultTypes = #[tb]) (hb:P.underlying tb=some .bool) (hvars:s.vars=[])
    (hfn:∀ ds:List (DataW H),ds.length=f.params.toList.length→s.fn H (ds++[])={ results:=[.lit (.bool true)],args:=ds })
    {W:World} (walk:∀ vs:List Value,RdAll W shs vs→Calls P F vs.toArray W (Pure (.bool true) W)) {base:Nat} {args:Array Value} {ds gs:List (DataW H)} {before:List MemPlace} (hval:∀ (j:Nat) t v,f.params[j]? = some t→args[j]? = some v→Value.okWide P W .any base t v)
    (hW:DataW.Whole enc P f.params.toList s.vars false W args.toList ds gs before) :
    Calls P F args W fun e W'=>∃ v,e = .returned v∧s.post enc P f false true false false W args v W':=by
  have hW':=hW;obtain ⟨p,q,hA,hV,rfl,hfz,hnd⟩:=hW;rw [hvars] at hV;obtain ⟨rfl,rfl⟩:=trodVars_none hV;have hrd:RdAll W shs args.toList:=BR0 hsh (fun j t v hj hv=>hval j t v (by simpa using hj) (by simpa using hv)) hA
  have hlen:ds.length=f.params.toList.length:=by
    clear hW' hval hrd hfn hp hsh hfz hnd hV
    generalize f.params.toList=ts at hA
    generalize args.toList=vs at hA
    induction ts generalizing vs ds p with
    | nil=>obtain ⟨_,rfl,_⟩:=trodAll_nil hA;rfl
    | cons t ts ih =>
      obtain ⟨v,vs',d,ds',p,q,rfl,rfl,rfl,h0,hr⟩:=trodAll_cons hA;simp [ih _ _ hr]
  refine (walk args.toList hrd).mono fun e W' ⟨he,hm⟩=>?_
  subst he;have bel:=hm.below;refine ⟨_,rfl,ds,[],p++[],[],p,[],hW',?_,?_,?_,bel.frame _,fun h=>by cases h⟩
  · rw [hfn ds hlen,hr]
    exact trodAll_mk1 (shut_bool hb _)
  · rw [hfn ds hlen]
    exact AM3 hl bel hp hA
  · rw [hvars,hfn ds hlen]
    rfl
theorem Bk2 {P:Program} {n nm:String} {d:DataW Unit} {r:List (String×DataW Unit)} {W:World} {g:Nat} {ti:TypeId} {ms:Array (String×TypeId)}
    (h:laidMet P ((n,.iface nm d)::r) W) (hg:P.globalNamed n=some g) (ht:(P.globals[g]?).map (·.type)=some ti) (hi:P.underlying ti=some (.interface ms)):∃ te pe,W.cell? ⟨g,0,none⟩=some (.iface te pe):=by
  obtain ⟨ps,⟨g0,t0,cs0,f0,p0,q0,hg0,ht0,hv0,hd0,_,e0⟩,_,hrows⟩:=h;obtain rfl:=Option.some.inj (hg.symm.trans hg0);obtain rfl:=Option.some.inj (ht.symm.trans ht0);obtain ⟨f',u,v,hcs,_,_⟩:=iface_of_trod hi hd0;have h1:=World.var?_cell hg0 hv0 0
  have e:cs0 = #[.iface u v]:=by
    obtain ⟨l⟩:=cs0;simp only at hcs
    rw [hcs]
  rw [e] at h1;exact ⟨u,v,by simpa using h1⟩
end Go.Eng
namespace Go.Proofs.YtnmkdiagbkkmaabGreatDoor
open Go Go.Eng Go.Dk Go.RowKit Go.Pw1 Go.Hp

abbrev laidL:List (String×DataW Unit):=[("math/bits.deBruijn32tab",Rows.laid_math_bits_deBruijn32tab),("math/bits.deBruijn64tab",Rows.laid_math_bits_deBruijn64tab),("internal/strconv.uint64pow10",Rows.laid_internal_strconv_uint64pow10),("unicode/utf8.acceptRanges",Rows.laid_unicode_utf8_acceptRanges),("strconv.ErrRange",Rows.laid_strconv_ErrRange),("strconv.ErrSyntax",Rows.laid_strconv_ErrSyntax),("unicode/utf8.first",Rows.laid_unicode_utf8_first)]
theorem Ds0:((begin Tryz.prog (fun _ _=>0) default).world.heap[0]?).bind Obj.row? = some (#[.int .i64 0],3):=by kernel_rfl
theorem Dr0 {W:World} (hsh:W.ShapedOpen Tryz.prog) (hL:laidMetH Tryz.prog laidL W):Lw Tryz.prog W:=by
  rw [MakeChecks.laidMetH_plain _ _ _ (by kernel_rfl)] at hL;have h3:=hL.tail.tail;have h5:=h3.tail.tail;obtain ⟨te,pe,h1⟩:=Bk2 h5 (g:=3) (by kernel_rfl) (by kernel_rfl) Tryz.underlying79;obtain ⟨te2,pe2,h2⟩:=Bk2 h5.tail (g:=2) (by kernel_rfl) (by kernel_rfl) Tryz.underlying79
  exact ⟨cell_of_shapedOpen_int hsh (by decide) Ds0 rfl (by kernel_rfl) (by kernel_rfl) Tryz.underlying3,
    Lib.tabIs_of_head (g:=1) (t:=283) (n:=20) (e:=179) (by kernel_rfl) (by kernel_rfl) (by kernel_rfl) (by kernel_rfl) (by kernel_rfl) (by kernel_rfl) h3,
    ⟨_,h2,.inr ⟨_,_,rfl⟩⟩,⟨_,h1,.inr ⟨_,_,rfl⟩⟩⟩
theorem Cq3 (os:Os):(World.holding Tryz.prog os ⟨#[],#[],[]⟩).layFits Tryz.prog laidL []=true:=by kernel_rfl
theorem BI8 (os:Os):(World.holding Tryz.prog os ⟨#[],#[],[]⟩).layIfaces Tryz.prog laidL (World.laidAll Tryz.prog os laidL)=true:=by kernel_rfl
theorem Dh6 {w:World} {cs:List Value} (h:Rd w .str cs):∃ s:Str,cs=strC s:=by
  cases h with
  | @str v=>exact ⟨v.data.toList,rfl⟩
theorem Ck6 {w:World} {cs:List Value} (h:Rd w (.sl .str) cs):∃ (l:List Str) (q:Option Addr) (b o cap:Nat),cs=[Value.slice q l.length cap]∧Sl w q b o 1 (l.map strC):=by
  cases h with
  | slNil=>exact ⟨[],none,0,0,0,rfl,Sl.emp⟩
  | @sl _ ad cap2 _ hs hl hc hx =>
    obtain ⟨l,rfl⟩:=BH3 (f:=strC) (fun x hx'=>Dh6 (hx x hx'));exact ⟨l,some ad,_,_,cap2,by rw [List.length_map],hs⟩
end Go.Proofs.YtnmkdiagbkkmaabGreatDoor
namespace Go.Proofs.YtnmkdiagbkkmaabGreatDoor
open Go Go.Eng Go.Dk Go.RowKit Go.Pw1 Go.Hp

theorem Bg9 (W:World) (vs:List Value) (hL:Lw Tryz.prog W) (h:RdAll W [cdSh,.sl .str,.sl .str] vs):Calls Tryz.prog 4 vs.toArray W (Pure (.bool true) W):=by
  cases h with
  | cons h1 h =>
  cases h with
  | cons h2 h =>
  cases h with
  | cons h3 h =>
  cases h
  obtain ⟨c,q,b,o,cap,rfl,hp⟩:=Dq8 h1;obtain ⟨l,ql,bl,ol,cl,rfl,hl⟩:=Ck6 h2;obtain ⟨m,qm,bm,om,cm,rfl,hm⟩:=Ck6 h3;have hq:q=none→cap=0:=fun h=>(hp.n h).2
  cases hf:farL c l with
  | true=>exact Ca5 c q b o cap hq l m ql bl ol cl qm bm om cm W hL hp.s hl hm hf
  | false =>
    cases hf2:farL c m with
    | true=>exact BI7 c q b o cap hq l m ql bl ol cl qm bm om cm W hL hp.s hl hm hf hf2
    | false =>
      cases hh:heavyC c with
      | true=>exact By8 c q b o cap hq l m ql bl ol cl qm bm om cm W hL hp.s hl hm hf hf2 hh
      | false =>
        cases hc:cardIs c with
        | true=>exact Cq1 c q b o cap hq l m ql bl ol cl qm bm om cm W hL hp.s hl hm hf hf2 hh hc
        | false=>exact Cq2 c q b o cap hq l m ql bl ol cl qm bm om cm W hL hp.s hl hm hf hf2 hh hc
end Go.Proofs.YtnmkdiagbkkmaabGreatDoor
