/- Walks of package desk: a script. Printed by mk_tc.py. -/
import Derived.Test.YtnmkdiagbkkmaaaGreatDoorC05
import Derived.Test.YtnmkdiagbkkmaaaGreatDoorProg
import Derived.Test.YtnmkdiagbkkmaaaGreatDoorRows
import Derived.Lib.LaidTab
import Derived.Stop.LaidErr
import Derived.MakeChecks
import Derived.Shelf.Vars
import Derived.Handed
import Derived.HandedShaped
import Derived.Lay
set_option linter.unusedSimpArgs false
set_option linter.unusedVariables false
set_option linter.unusedSectionVars false
namespace Go.Dk
open Go Go.Eng Go.RowKit Go.Pw1 Go.Hp
section
variable {c:Cd} {s:Str}
theorem CF6 (h:131072 < s.length):runX c s=([],3):=by unfold runX;rw [if_pos h]
variable (hl:¬ 131072 < s.length)
include hl
theorem CF7 (h1:s ≠ []) (h:Lib.hasSuffix s [10]=false):runX c s=([],8):=by
  unfold runX;rw [if_neg hl,if_pos ⟨h1,fun h2=>by rw [(Ar0 s).2 h2] at h;cases h⟩]
theorem CT9 (h:s=[]∨s.getLast? = some 10) (hc:cardIs c=false):runX c s=([],1):=by
  unfold runX;rw [if_neg hl,if_neg (fun h2=>h.elim h2.1 h2.2),if_neg (by show ¬ cardIs c=true;rw [hc];decide)]
theorem Dh8 (h:s=[]∨s.getLast? = some 10) (hc:cardIs c=true):runX c s=((runL (bareC c) noBn ((linesL s).map trimL)).2,0):=by
  unfold runX;rw [if_neg hl,if_neg (fun h2=>h.elim h2.1 h2.2),if_pos (by exact hc),Cn7 h]
end
theorem Cw0 {s:Str} (h:¬ (s ≠ []∧Lib.hasSuffix s [10]=false)):s=[]∨s.getLast? = some 10:=by
  by_cases h0:s=[]
  · exact .inl h0
  · exact .inr ((Ar0 s).1 (by cases e:Lib.hasSuffix s [10] with
      | true=>rfl
      | false=>exact absurd ⟨h0,e⟩ h))
abbrev RuX:=DkX×Value×Eng.Own×Str
structure RuOk (c:Cd) (b7:Nat) (pre:List Str) (x:RuX):Prop where
  d:DkOk x.1
  p:BuP b7 x.2.1
  o:OwnOk 1 x.2.2.1 x.2.2.2.length (byc x.2.2.2)
  e:x.2.2.1=none∨x.2.2.2 ≠ []
  r:runL (bareC c) noBn (pre.map trimL)=(x.1.pl,x.2.2.2)
  n:x.2.2.2.length≤4001 * pre.length
theorem Di5 {x:Eng.Own} {l:Str} {xs:List Value} (ho:OwnOk 1 x l.length xs) (h:x=none∨l ≠ []):ownQ x=none∨ownC x ≠ 0:=by
  match x,h,ho with
  | none,_,_=>exact .inl rfl
  | some (b,c,r),h,ho =>
    refine .inr ?_;have h1:=List.length_pos_iff.2 (h.resolve_left (by simp));have h2:=(ho.cap b c r rfl).1
    show c ≠ 0
    omega
theorem CT8 (c:Cd) {d d':DkX} {l:List Str} {v:Str} {t r:Str} {e:Int} (h:runL c noBn l=(d.pl,t)) (hz:(d'.pl,r,e)=stepX c d.pl v):runL c noBn (l++[v])=(d'.pl,t++(echoX r e++[10])):=by
  rw [Bv2,h];dsimp only;rw [← hz]
end Go.Dk
namespace Go.Proofs.YtnmkdiagbkkmaaaGreatDoor
open Go Go.Eng Go.Dk Go.RowKit Go.Pw1 Go.Hp

theorem BN4 (s:Str) (W:World):Calls Tryz.prog 41 #[.string (bs s)] W (News (fun b:Nat=>.func (.func 103) #[] #[pV b]) (fun b=>[(b,strO s)]) W):=by
  refine Aa0 Tryz.func41 rfl rfl ?_;refine st ?_;refine zn (New.box rfl) (fun b1=>?_)
  exact RunE.ret (chg:=[]) (.r1 rfl (.tmp rfl)) (fun _ hm=>⟨b1,rfl,hm.pick (.cons .here rfl .nil)⟩)
theorem CM8 (c:Cd) (q:Option Addr) (b o cap:Nat) (s:Str) (W:World) (h:131072 < s.length):Calls Tryz.prog 11 #[c.v q cap,.string (bs s)] W (Pure (.tuple #[.string (bs (runX c s).1),.int .i64 (runX c s).2]) W):=by
  rw [CF6 h];refine Aa0 Tryz.func11 rfl rfl ?_;refine st ?_;refine zn (New.box rfl) (fun b2=>?_)
  refine lv (Ah2 rfl Ao5) ?_;refine RunC.cond rfl ?_ (fun h=>absurd h (by simp;omega))
  intro c0;clear c0;refine su ?_;exact Aa4 (.r2 rfl (.tmp rfl) (.tmp rfl)) (by first | rfl | simp)
theorem CM9 (c:Cd) (q:Option Addr) (b o cap:Nat) (s:Str) (W:World) (hl:¬ 131072 < s.length) (h1:s ≠ []) (hf:Lib.hasSuffix s [10]=false):Calls Tryz.prog 11 #[c.v q cap,.string (bs s)] W (Pure (.tuple #[.string (bs (runX c s).1),.int .i64 (runX c s).2]) W):=by
  rw [CF7 hl h1 hf];refine Aa0 Tryz.func11 rfl rfl ?_;refine st ?_;refine zn (New.box rfl) (fun b2=>?_)
  refine lv (Ah2 rfl Ao5) ?_;refine RunC.cond rfl (fun h=>absurd h (by simp;omega)) ?_;intro c0;clear c0;refine st ?_;refine lv (Ar5 rfl rfl) ?_
  refine Ab3 (dj:=18) (dp:=22) 4 rfl (fun g18=>by
    have g18':=g18;try simp only [nH] at g18'
    refine st ?_;refine Ac0 (zF rfl Ct5) rfl rfl rfl (fun w hm=>(Ax0 s [10] (by omega) w)) ?_;refine sv ?_;exact zs g18
  ) (fun g18=>by
    have g18':=g18;try simp only [nH] at g18'
    iterate 3 refine Ab7 rfl rfl rfl ?_
    refine sv ?_;exact zs g18
  ) ?_
  refine st ?_;refine RunC.cond rfl ?_ (fun h=>absurd h (by simp [hf,h1]))
  intro c1;clear c1;refine su ?_;exact Aa4 (.r2 rfl (.tmp rfl) (.tmp rfl)) (by first | rfl | simp)
theorem Df1 (c:Cd) (q:Option Addr) (b o cap:Nat) (s:Str) (W:World) (hS:Sl W q b o 9 (c.p.things.map Th.cells)) (hq:q=none→cap=0) (hl:c.p.things.length≤1000) (hL:Lw Tryz.prog W) (hs0:¬ 131072 < s.length) (h:s=[]∨s.getLast? = some 10) (hc:cardIs c=false):Calls Tryz.prog 11 #[c.v q cap,.string (bs s)] W (Pure (.tuple #[.string (bs (runX c s).1),.int .i64 (runX c s).2]) W):=by
  rw [CT9 hs0 h hc];have hsx:s ≠ []→Lib.hasSuffix s [10]=true:=fun h1=>(Ar0 s).2 (h.resolve_left h1)
  refine Aa0 Tryz.func11 rfl rfl ?_;refine st ?_;refine zn (New.box rfl) (fun b2=>?_)
  refine lv (Ah2 rfl Ao5) ?_;refine RunC.cond rfl (fun h=>absurd h (by simp;omega)) ?_;intro c0;clear c0;refine st ?_;refine lv (Ar5 rfl rfl) ?_
  refine Ab3 (dj:=18) (dp:=22) 4 rfl (fun g18=>by
    have g18':=g18;try simp only [nH] at g18'
    refine st ?_;refine Ac0 (zF rfl Ct5) rfl rfl rfl (fun w hm=>(Ax0 s [10] (by omega) w)) ?_;refine sv ?_;exact zs g18
  ) (fun g18=>by
    have g18':=g18;try simp only [nH] at g18'
    iterate 3 refine Ab7 rfl rfl rfl ?_
    refine sv ?_;exact zs g18
  ) ?_
  refine st ?_;refine RunC.cond rfl (fun h=>absurd h (by simp;exact hsx)) ?_;intro c1;clear c1;refine su ?_;refine zc (zF rfl BA6) (fun w hm=>(CR1 c q b o cap w (hS.mono (by decide) hm (by simp)) hq hl hc)) ?_;refine zn (New.alloc Ce1) (fun b6=>?_)
  refine Ab1 (Sto.store rfl rfl .here BV4 rfl rfl) rfl rfl ?_;refine st ?_;refine RunC.cond rfl ?_ (fun h=>absurd h (by simp))
  intro c2;clear c2;refine su ?_;exact Aa4 (.r2 rfl (.tmp rfl) (.tmp rfl)) (by first | rfl | simp)
set_option maxHeartbeats 2000000 in
theorem Dp2 (c:Cd) (q:Option Addr) (b o cap:Nat) (s:Str) (W:World) (hS:Sl W q b o 9 (c.p.things.map Th.cells)) (hq:q=none→cap=0) (hl:c.p.things.length≤1000) (hL:Lw Tryz.prog W) (hsl:s.length≤100000) (h:s=[]∨s.getLast? = some 10) (hc:cardIs c=true):Calls Tryz.prog 11 #[c.v q cap,.string (bs s)] W (Pure (.tuple #[.string (bs (runX c s).1),.int .i64 (runX c s).2]) W):=by
  rw [Dh8 (by omega) h hc];have hsx:s ≠ []→Lib.hasSuffix s [10]=true:=fun h1=>(Ar0 s).2 (h.resolve_left h1)
  have hll:=Bi9 s;refine AE2 (Mem.refl W) Tryz.func11 rfl rfl ?_;refine RunCF.seq ?_;refine Ak8 ?_;refine st ?_;refine zn (New.box rfl) (fun b2=>?_)
  refine RunEF.next ?_;refine RunCF.seq ?_;refine RunCF.block ?_;refine RunCF.seq ?_;refine Ak8 ?_;refine st ?_;refine lv (Ah2 rfl Ao5) ?_;refine RunEF.next ?_;refine Ak8 ?_;refine RunC.cond rfl (fun h=>absurd h (by simp;omega)) ?_;intro c0;clear c0;refine st ?_;refine lv (Ar5 rfl rfl) ?_
  refine Ab3 (dj:=18) (dp:=22) 4 rfl (fun g18=>by
    have g18':=g18;try simp only [nH] at g18'
    refine st ?_;refine Ac0 (zF rfl Ct5) rfl rfl rfl (fun w hm=>(Ax0 s [10] (by omega) w)) ?_;refine sv ?_;exact zs g18
  ) (fun g18=>by
    have g18':=g18;try simp only [nH] at g18'
    iterate 3 refine Ab7 rfl rfl rfl ?_
    refine sv ?_;exact zs g18
  ) ?_
  refine st ?_;refine RunC.cond rfl (fun h=>absurd h (by simp;exact hsx)) ?_;intro c1;clear c1;refine st ?_;refine RunEF.next ?_;refine RunCF.seq ?_;refine Ak8 ?_;refine su ?_;refine Af8 (zF rfl BA6) rfl rfl rfl (fun w hm=>(CA2 c q b o cap w (hS.mono (by decide) hm (by simp)) hq hl hc)) (fun b25=>?_)
  refine st ?_;refine zn (New.alloc Ce1) (fun b6=>?_)
  refine Ab1 (Sto.store rfl rfl .here BV4 rfl rfl) rfl rfl ?_;refine st ?_;refine RunEF.next ?_;refine RunCF.seq ?_;refine RunCF.seq ?_;refine Ak8 ?_;refine st ?_;refine RunEF.next ?_;refine Ak8 ?_;refine RunC.cond rfl (fun h=>absurd h (by simp)) ?_;intro c2;clear c2;refine st ?_;refine RunEF.next ?_;refine RunCF.seq ?_;refine Ak8 ?_;refine st ?_;refine zn (New.alloc CR2) (fun b7=>?_)
  refine RunEF.next ?_;refine RunCF.seq ?_;refine RunCF.seq ?_;refine Ak8 ?_;refine st ?_;refine Af8 (zF rfl Dm7) rfl rfl rfl (fun w hm=>(BN4 s w)) (fun b32=>?_)
  refine st ?_;refine RunEF.next ?_;refine RunCF.block ?_;refine RunCF.range Tryz.func11 (α:=Str) (X:=RuX) (enc:=fun x=>.string (bs x)) (eb:=fun _=>[]) (itb:=[(b32,strO s)]) (mis:=dmis) (S:=fun xs=>xs=linesL s) (Sp:=fun xs=>xs <+: linesL s) (Sq:=fun _ _=>False) (N:=s.length + 1) (fun x=>(b6,.cells (cellsL (pV b25)).toArray 38 (0,0))::(b25,dkO x.1 c)::(b7,buO x.2.1 x.2.2.1 x.2.2.2.length)::(dkB x.1++ownB 5 x.2.2.1 (byc x.2.2.2))) (fun pre x=>RuOk c b7 pre x) (fun _ _=>False) (fun _ _=>False) (noDk,.pointer none,none,[]) ⟨BH5,.inl rfl,OwnOk.start,.inl rfl,rfl,Nat.zero_le _⟩ ([]) (.cons (.there (.there .here)) rfl (.cons (.there (.there .here)) rfl (.cons (.there .here) rfl (.cons .here rfl .nil)))) rfl De1 (CV7 s hsl b32 W) rfl rfl (fun _=>rfl) rfl rfl rfl ?_ ?_ ?_ ?_ ?_
  ·intro l D ob pre v x tl hI hsp hlen
   obtain ⟨xd,xp,xo,xl⟩:=x;obtain ⟨hxd,hxp,hxo,hxe,hxr,hxn⟩:=hI;dsimp only at hxd hxp hxo hxe hxr hxn ⊢;have hvl:v.length≤s.length:=AS7 s v (hsp.subset (by simp));have hpl:pre.length≤s.length:=by (have:=hsp.length_le;simp only [List.length_append,List.length_singleton] at this;omega)
   refine Bl7 (Ac1 _) (news':=(l,ob)::(D,dfrO)::(b6,.cells (cellsL (pV b25)).toArray 38 (0,0))::(b25,dkO xd c)::(b7,buO xp xo xl.length)::(dkB xd++(ownB 5 xo (byc xl)++(tl++[])))) (Pick.cnt fun x=>by simp only [nC,List.length_append,List.length_singleton,List.map_cons,List.map_nil,buB,dfrO,markB,dkM];omega) ?_;refine RunCR.block ?_;refine RunCR.seq ?_;refine Cd7 8 Aj0 (.cons .here rfl (.cons .here rfl (.cons .here rfl (.cons (.there .here) rfl .nil)))) ?_;refine zw 0 ?_;refine zw 1 ?_;refine zA 2 ?_;refine Ab5 rfl (zF rfl Dm6) rfl rfl rfl (fun w hm=>(AU3 v [10] (by omega) w)) (Aa5 (.cons .here rfl (.cons .here rfl (.cons .here rfl (.cons (.there .here) rfl .nil)))) (.cons .here rfl (.cons .here rfl (.cons .here rfl (.cons .here rfl .nil)))) rfl ?_)
   refine zA 3 ?_;refine Cd4 rfl (zF rfl Cv0) rfl rfl rfl (fun w hm=>(AO7 (nw':=fun z:DkX×Str×Int=>(l,ob)::(D,dfrO)::(b6,.cells (cellsL (pV b25)).toArray 38 (0,0))::(b25,dkO z.1 c)::(b7,buO xp xo xl.length)::(dkB z.1++(ownB 5 xo (byc xl)++(tl++[])))) (AS2 (trimL v) (by have:=CD3 v;unfold trimL;omega) b25 xd c ((l,ob)::(D,dfrO)::(b6,.cells (cellsL (pV b25)).toArray 38 (0,0))::(b7,buO xp xo xl.length)::(ownB 5 xo (byc xl)++tl)) W w hL hxd (hm.pick (Pick.cnt fun x=>by simp only [nC,List.length_append,List.length_singleton,List.map_cons,List.map_nil,buB,dfrO,markB,dkM];omega))) (fun _=>(Pick.cnt fun x=>by simp only [nC,List.length_append,List.length_singleton,List.map_cons,List.map_nil,buB,dfrO,markB,dkM];omega)))) (fun z38 hz38=>(Aa5 (.cons .here rfl (.cons .here rfl (.cons .here rfl (.cons (.there .here) rfl .nil)))) (.cons .here rfl (.cons .here rfl (.cons .here rfl (.cons .here rfl .nil)))) rfl ?_))
   obtain ⟨hzd,hzs⟩:=hz38;have hrn:=CT8 (bareC c) hxr hzs;have hcod:Cod z38.2.2:=(by have h2:=BP3 hxd.sm (bareC c) (trimL v);rw [← hzs] at h2;exact h2);have he38:(echoX z38.2.1 z38.2.2).length≤4000:=(by have h1:=CE2 hxd.sm (bareC c) (trimL v);rw [← hzs] at h1;exact CK8 h1 hcod);refine zw 4 ?_;refine zw 5 ?_;refine zw 6 ?_;refine zw 7 ?_;refine zt ?_;refine zp 8 ?_;refine zd ?_;refine RunER.next ?_;refine RunCR.seq ?_;refine RunCR.seq ?_;refine Ac5 ?_;refine st ?_;refine RunER.next ?_;refine RunCR.cond rfl ?_ ?_
   ·intro c3
    have c3':=c3;clear c3;try simp only [nH] at c3'
    have hec:echoX z38.2.1 z38.2.2=sayX wError [z38.2.2]:=by (unfold echoX;rw [if_neg (by simpa using c3')])
    rw [hec] at he38 hrn;refine Ac5 ?_;refine lv (Val.makeInterface rfl Aq1) ?_;refine lv (Val.makeInterface rfl Au7) ?_;refine zn (New.buildSlice (parts:=[(0,.tmp 43),(1,.tmp 45)]) rfl Ap8 Am1 rfl rfl rfl rfl) (fun b46=>?_)
    refine zc (zF rfl Au8) (fun w hm=>Ag4 [.s wError,.n z38.2.2] _ (An0 wError [_]) b46 w (hL.mono hm) (hm.at (.head _)) (by simp) (by intro p hp;simp only [List.mem_cons,List.not_mem_nil,or_false] at hp;rcases hp with rfl | rfl;exact (show wError.length≤40 by decide);exact hcod.in64) (by simp [Prt.words])) ?_;refine RunER.next ?_;refine Ac5 ?_;refine st ?_;refine lv (AR7 rfl rfl (by simp;omega)) ?_;refine Ap4 (zF rfl CP8) rfl rfl rfl (fun w hm=>(AO7 (nw':=fun y:Eng.Own=>(l,ob)::(D,dfrO)::(b6,.cells (cellsL (pV b25)).toArray 38 (0,0))::(b25,dkO z38.1 c)::(b7,buO (buS b7) y (xl++(sayX wError [z38.2.2]++[10])).length)::(dkB z38.1++(ownB 5 y (byc (xl++(sayX wError [z38.2.2]++[10])))++(tl++[])))) (AT7 b7 xp xo xl (sayX wError [z38.2.2]++[10]) ((l,ob)::(D,dfrO)::(b6,.cells (cellsL (pV b25)).toArray 38 (0,0))::(b25,dkO z38.1 c)::(dkB z38.1++tl)) W w (hm.pick (Pick.cnt fun x=>by simp only [nC,List.length_append,List.length_singleton,List.map_cons,List.map_nil,buB,dfrO,markB,dkM];omega)) hxp hxo (by simp only [List.length_append,List.length_singleton];omega)) (fun _=>(Pick.cnt fun x=>by simp only [nC,List.length_append,List.length_singleton,List.map_cons,List.map_nil,buB,dfrO,markB,dkM];omega)))) (fun z50 hz50=>?_)
    skip
    refine st ?_;exact AS1 (z38.1,buS b7,z50,xl++(sayX wError [z38.2.2]++[10])) ⟨hzd,.inr rfl,hz50,.inr (by simp),by rw [List.map_append];exact hrn,by simp only [List.length_append,List.length_singleton];omega⟩ (Pick.cnt fun x=>by simp only [nC,List.length_append,List.length_singleton,List.map_cons,List.map_nil,buB,dfrO,markB,dkM];omega)
   intro c3;have c3':=c3;clear c3;try simp only [nH] at c3'
   have hec:echoX z38.2.1 z38.2.2=z38.2.1:=by (unfold echoX;rw [if_pos (by simpa using c3')])
   rw [hec] at he38 hrn;refine RunCR.skip ?_;refine RunER.next ?_;refine Ac5 ?_;refine st ?_;refine lv (AR7 rfl rfl (by simp;omega)) ?_;refine Ap4 (zF rfl CP8) rfl rfl rfl (fun w hm=>(AO7 (nw':=fun y:Eng.Own=>(l,ob)::(D,dfrO)::(b6,.cells (cellsL (pV b25)).toArray 38 (0,0))::(b25,dkO z38.1 c)::(b7,buO (buS b7) y (xl++(z38.2.1++[10])).length)::(dkB z38.1++(ownB 5 y (byc (xl++(z38.2.1++[10])))++(tl++[])))) (AT7 b7 xp xo xl (z38.2.1++[10]) ((l,ob)::(D,dfrO)::(b6,.cells (cellsL (pV b25)).toArray 38 (0,0))::(b25,dkO z38.1 c)::(dkB z38.1++tl)) W w (hm.pick (Pick.cnt fun x=>by simp only [nC,List.length_append,List.length_singleton,List.map_cons,List.map_nil,buB,dfrO,markB,dkM];omega)) hxp hxo (by simp only [List.length_append,List.length_singleton];omega)) (fun _=>(Pick.cnt fun x=>by simp only [nC,List.length_append,List.length_singleton,List.map_cons,List.map_nil,buB,dfrO,markB,dkM];omega)))) (fun z50 hz50=>?_)
   skip
   refine st ?_;exact AS1 (z38.1,buS b7,z50,xl++(z38.2.1++[10])) ⟨hzd,.inr rfl,hz50,.inr (by simp),by rw [List.map_append];exact hrn,by simp only [List.length_append,List.length_singleton];omega⟩ (Pick.cnt fun x=>by simp only [nC,List.length_append,List.length_singleton,List.map_cons,List.map_nil,buB,dfrO,markB,dkM];omega)
  ·intro D xs x hS hI
   obtain ⟨xd,xp,xo,xl⟩:=x;obtain ⟨hxd,hxp,hxo,hxe,hxr,hxn⟩:=hI;dsimp only at hxd hxp hxo hxe hxr hxn ⊢;subst hS;refine Am8 (Ac1 _) (news':=(D,dfrO)::(b6,.cells (cellsL (pV b25)).toArray 38 (0,0))::(b25,dkO xd c)::(b7,buO xp xo xl.length)::(dkB xd++(ownB 5 xo (byc xl)++[]))) (Pick.cnt fun x=>by simp only [nC,List.length_append,List.length_singleton,List.map_cons,List.map_nil,buB,dfrO,markB,dkM];omega) ?_;refine st ?_;refine RunEF.next ?_;refine RunCF.seq ?_;refine Ak8 ?_;refine st ?_;refine Ap4 (zF rfl Dm5) rfl rfl rfl (fun w hm=>(Cc5 b7 xp xo xl ((D,dfrO)::[]) W w (hm.pick (Pick.cnt fun x=>by simp only [nC,List.length_append,List.length_singleton,List.map_cons,List.map_nil,buB,dfrO,markB,dkM];omega)) hxo (Di5 hxo hxe))) (fun z51 hz51=>?_)
   skip
   refine st ?_;refine RunEF.next ?_;refine Ak8 ?_;refine RunC.ret ?_;exact Aq5 (news2:=[]) [D] (Pick.cnt fun x=>by simp only [nC,List.length_append,List.length_singleton,List.map_cons,List.map_nil,buB,dfrO,markB,dkM];omega) (.r2 rfl (.tmp rfl) (.tmp rfl)) (fun w hm=>⟨by rw [hxr],hm⟩)
  ·intro D c x hst
   exact hst.elim
  ·intro D c x hp
   exact hp.elim
  intro D k xs x hq hI;exact hq.elim
end Go.Proofs.YtnmkdiagbkkmaaaGreatDoor
namespace Go.Dk
open Go Go.Eng Go.Pw1 Go.Hp
def cE:Cd:=⟨⟨⟨9000,9000⟩,⟨65,66⟩,5,2000,100000,[]⟩,3200,50,20,⟨6000,6500⟩,300,900,100,200⟩
theorem Co3 {c:Cd} {b:Bn} {s:Str} {ws:List Str} (hl:s.length≤200) (h:wordsX s=some (wDeep::ws)) (hn:numsX ws=some [0]) (hr:0 < b.views.length):lineX c b s=deepD c b 0 :=
  AF8 hl h (by decide) (by decide) (show verbX wDeep=some ⟨1,true,fun c b n=>deepD c b (N n 0)⟩ from rfl) hn rfl (fun _=>hr)
theorem Ah9 {c:Cd} {b b' b2:Bn} {s r t:Str} {e:Int} {l:List Str} (h:stepX c b s=(b',r,e)) (h2:runL c b' l=(b2,t)):runL c b (s::l)=(b2,echoX r e++10::t):=by
  unfold runL;rw [h];dsimp only;rw [h2]
def eB0:Bn:=⟨[],⟨[],[]⟩⟩
def eB1:Bn:=⟨[⟨⟨⟨9000,9000⟩,⟨65,66⟩,5,2000,100000,[]⟩,⟨0,0,0,0⟩,false⟩],⟨[],[]⟩⟩
def eB2:Bn:=⟨[⟨⟨⟨9000,9000⟩,⟨65,66⟩,5,2000,100000,[⟨⟨1100,1101⟩,⟨0,0⟩,⟨904,905⟩,⟨0,0⟩,0⟩]⟩,⟨0,0,0,0⟩,false⟩],⟨[],[]⟩⟩
def eB3:Bn:=⟨[⟨⟨⟨9000,9000⟩,⟨65,66⟩,5,2000,100000,[⟨⟨1100,1101⟩,⟨0,0⟩,⟨904,905⟩,⟨0,0⟩,3000⟩]⟩,⟨0,0,0,0⟩,false⟩],⟨[],[]⟩⟩
def eB4:Bn:=⟨[⟨⟨⟨9000,9000⟩,⟨65,66⟩,5,2000,100000,[⟨⟨1100,1101⟩,⟨0,0⟩,⟨904,905⟩,⟨0,0⟩,3000⟩,⟨⟨1050,1050⟩,⟨0,0⟩,⟨990,992⟩,⟨0,0⟩,0⟩]⟩,⟨0,0,0,0⟩,false⟩],⟨[],[]⟩⟩
def eB5:Bn:=⟨[⟨⟨⟨9000,9000⟩,⟨65,66⟩,5,2000,100000,[⟨⟨1100,1101⟩,⟨0,0⟩,⟨904,905⟩,⟨0,0⟩,3000⟩,⟨⟨1050,1050⟩,⟨0,0⟩,⟨990,992⟩,⟨0,0⟩,0⟩]⟩,⟨0,0,0,0⟩,false⟩],⟨[],[]⟩⟩
def eB6:Bn:=⟨[⟨⟨⟨9000,9000⟩,⟨65,66⟩,5,2000,100000,[⟨⟨1100,1101⟩,⟨0,0⟩,⟨904,905⟩,⟨0,0⟩,3000⟩,⟨⟨1050,1050⟩,⟨0,0⟩,⟨990,992⟩,⟨0,0⟩,0⟩,⟨⟨1000,1002⟩,⟨0,0⟩,⟨1005,1006⟩,⟨0,0⟩,0⟩]⟩,⟨0,0,0,0⟩,false⟩],⟨[],[]⟩⟩
def eB7:Bn:=⟨[⟨⟨⟨9000,9000⟩,⟨65,66⟩,5,2000,100000,[⟨⟨1100,1101⟩,⟨0,0⟩,⟨904,905⟩,⟨0,0⟩,3000⟩,⟨⟨1050,1050⟩,⟨0,0⟩,⟨990,992⟩,⟨0,0⟩,0⟩,⟨⟨1000,1002⟩,⟨0,0⟩,⟨1005,1006⟩,⟨0,0⟩,0⟩]⟩,⟨0,0,0,0⟩,false⟩],⟨[],[]⟩⟩
def eB8:Bn:=⟨[⟨⟨⟨9000,9000⟩,⟨65,66⟩,5,2000,100000,[⟨⟨1100,1101⟩,⟨0,0⟩,⟨904,905⟩,⟨0,0⟩,3000⟩,⟨⟨1050,1050⟩,⟨0,0⟩,⟨990,992⟩,⟨0,0⟩,0⟩,⟨⟨1000,1002⟩,⟨0,0⟩,⟨1005,1006⟩,⟨0,0⟩,0⟩]⟩,⟨0,0,0,0⟩,false⟩],⟨[],[]⟩⟩
def eB9:Bn:=⟨[⟨⟨⟨9000,9000⟩,⟨65,66⟩,5,2000,100000,[⟨⟨1100,1101⟩,⟨0,0⟩,⟨904,905⟩,⟨0,0⟩,3000⟩,⟨⟨1050,1050⟩,⟨0,0⟩,⟨990,992⟩,⟨0,0⟩,0⟩,⟨⟨1000,1002⟩,⟨0,0⟩,⟨1005,1006⟩,⟨0,0⟩,0⟩]⟩,⟨2,1,0,3⟩,true⟩],⟨[],[]⟩⟩
def eB10:Bn:=⟨[⟨⟨⟨9000,9000⟩,⟨65,66⟩,5,2000,100000,[⟨⟨1100,1101⟩,⟨0,0⟩,⟨904,905⟩,⟨0,0⟩,3000⟩,⟨⟨1050,1050⟩,⟨0,0⟩,⟨990,992⟩,⟨0,0⟩,0⟩,⟨⟨1000,1002⟩,⟨0,0⟩,⟨1005,1006⟩,⟨0,0⟩,0⟩]⟩,⟨2,1,0,3⟩,true⟩],⟨[],[]⟩⟩
def eB11:Bn:=⟨[⟨⟨⟨9000,9000⟩,⟨65,66⟩,5,2000,100000,[⟨⟨1100,1101⟩,⟨0,0⟩,⟨904,905⟩,⟨0,0⟩,3000⟩,⟨⟨1050,1050⟩,⟨0,0⟩,⟨990,992⟩,⟨0,0⟩,0⟩,⟨⟨1000,1002⟩,⟨0,0⟩,⟨1005,1006⟩,⟨0,0⟩,0⟩]⟩,⟨2,1,0,3⟩,true⟩],⟨[],[]⟩⟩
def eB12:Bn:=⟨[⟨⟨⟨9000,9000⟩,⟨65,66⟩,5,2000,100000,[⟨⟨1100,1101⟩,⟨0,0⟩,⟨904,905⟩,⟨0,0⟩,3000⟩,⟨⟨1050,1050⟩,⟨0,0⟩,⟨990,992⟩,⟨0,0⟩,0⟩,⟨⟨1000,1002⟩,⟨0,0⟩,⟨1005,1006⟩,⟨0,0⟩,0⟩]⟩,⟨2,1,0,3⟩,true⟩],⟨[⟨1,[[102,97,108,108,115],[109,105,108,108],[112,97,115,115]]⟩],[]⟩⟩
def eB13:Bn:=⟨[⟨⟨⟨9000,9000⟩,⟨65,66⟩,5,2000,100000,[⟨⟨1100,1101⟩,⟨0,0⟩,⟨904,905⟩,⟨0,0⟩,3000⟩,⟨⟨1050,1050⟩,⟨0,0⟩,⟨990,992⟩,⟨0,0⟩,0⟩,⟨⟨1000,1002⟩,⟨0,0⟩,⟨1005,1006⟩,⟨0,0⟩,0⟩]⟩,⟨2,1,0,3⟩,true⟩],⟨[⟨1,[[102,97,108,108,115],[109,105,108,108],[112,97,115,115]]⟩,⟨2,[[109,105,108,108],[108,97,107,101]]⟩],[]⟩⟩
def eB14:Bn:=⟨[⟨⟨⟨9000,9000⟩,⟨65,66⟩,5,2000,100000,[⟨⟨1100,1101⟩,⟨0,0⟩,⟨904,905⟩,⟨0,0⟩,3000⟩,⟨⟨1050,1050⟩,⟨0,0⟩,⟨990,992⟩,⟨0,0⟩,0⟩,⟨⟨1000,1002⟩,⟨0,0⟩,⟨1005,1006⟩,⟨0,0⟩,0⟩]⟩,⟨2,1,0,3⟩,true⟩],⟨[⟨1,[[102,97,108,108,115],[109,105,108,108],[112,97,115,115]]⟩,⟨2,[[109,105,108,108],[108,97,107,101]]⟩],[⟨0,[63],[109,105,42]⟩]⟩⟩
def eB15:Bn:=⟨[⟨⟨⟨9000,9000⟩,⟨65,66⟩,5,2000,100000,[⟨⟨1100,1101⟩,⟨0,0⟩,⟨904,905⟩,⟨0,0⟩,3000⟩,⟨⟨1050,1050⟩,⟨0,0⟩,⟨990,992⟩,⟨0,0⟩,0⟩,⟨⟨1000,1002⟩,⟨0,0⟩,⟨1005,1006⟩,⟨0,0⟩,0⟩]⟩,⟨2,1,0,3⟩,true⟩],⟨[⟨1,[[102,97,108,108,115],[109,105,108,108],[112,97,115,115]]⟩,⟨2,[[109,105,108,108],[108,97,107,101]]⟩],[⟨0,[63],[109,105,42]⟩,⟨2,[42],[109,105,108,108]⟩]⟩⟩
def eB16:Bn:=⟨[⟨⟨⟨9000,9000⟩,⟨65,66⟩,5,2000,100000,[⟨⟨1100,1101⟩,⟨0,0⟩,⟨904,905⟩,⟨0,0⟩,3000⟩,⟨⟨1050,1050⟩,⟨0,0⟩,⟨990,992⟩,⟨0,0⟩,0⟩,⟨⟨1000,1002⟩,⟨0,0⟩,⟨1005,1006⟩,⟨0,0⟩,0⟩]⟩,⟨2,1,0,3⟩,true⟩],⟨[⟨1,[[102,97,108,108,115],[109,105,108,108],[112,97,115,115]]⟩,⟨2,[[109,105,108,108],[108,97,107,101]]⟩],[⟨0,[63],[109,105,42]⟩,⟨2,[42],[109,105,108,108]⟩]⟩⟩
theorem eS0:stepX cE eB0 [118,105,101,119]=(eB1,[118,105,101,119,32,48],0):=by kernel_rfl
theorem eS1:stepX cE eB1 [116,104,105,110,103,32,48,32,49,49,48,48,32,49,49,48,49,32,57,48,52,32,57,48,53]=(eB2,[116,104,105,110,103,32,48,32,48],0):=by kernel_rfl
theorem eS2:stepX cE eB2 [109,97,114,107,32,48,32,48,32,51,48,48,48]=(eB3,[109,97,114,107,32,53,56,53,48,48,48,32,53,57,51,57,57,57],0):=by kernel_rfl
theorem eS3:stepX cE eB3 [116,104,105,110,103,32,48,32,49,48,53,48,32,49,48,53,48,32,57,57,48,32,57,57,50]=(eB4,[116,104,105,110,103,32,49,32,48],0):=by kernel_rfl
theorem eS4:stepX cE eB4 [102,97,114,32,48,32,49]=(eB5,[102,97,114,32,57,53,57,49,32,49,48,50,52,49],0):=by kernel_rfl
theorem eS5:stepX cE eB5 [116,104,105,110,103,32,48,32,49,48,48,48,32,49,48,48,50,32,49,48,48,53,32,49,48,48,54]=(eB6,[116,104,105,110,103,32,50,32,50],0):=by kernel_rfl
theorem eS6:stepX cE eB6 [109,111,118,101,100,32,48]=(eB7,[109,111,118,101,100,32,52],0):=by kernel_rfl
theorem eS7:stepX cE eB7 [109,97,114,107,32,48,32,49,32,52,48,48,48]=(eB8,[],4):=by kernel_rfl
theorem eS8:stepX cE eB8 [116,114,105,109,32,48]=(eB9,[116,114,105,109,32,50,32,49,32,48,32,51],0):=by kernel_rfl
theorem eS9:stepX cE eB9 [116,104,105,110,103,32,48,32,48,32,48,32,48,32,48]=(eB10,[],6):=by kernel_rfl
theorem eDl:lineX cE eB10 [100,101,101,112,32,48]=deepD cE eB10 0:=Co3 (by decide) (show wordsX [100,101,101,112,32,48]=some (wDeep::[[48]]) by kernel_rfl) (show numsX [[48]]=some [0] by kernel_rfl) (by decide)
theorem CL2 {c:Cd} {b:Bn} {i:Nat} {v:Vw} {x y:Int} (hv:b.views.getD i noVw=v) (hu:v.up=true) (h:depthsX (cardV c v) v.cuts=((x,y),0)):deepD c b i = .ok (b,sayX wDeep [x,y]):=by
  unfold deepD;dsimp only;rw [hv,if_neg (by rw [hu];decide),h];rfl
def eV:Vw:=⟨⟨⟨9000,9000⟩,⟨65,66⟩,5,2000,100000,[⟨⟨1100,1101⟩,⟨0,0⟩,⟨904,905⟩,⟨0,0⟩,3000⟩,⟨⟨1050,1050⟩,⟨0,0⟩,⟨990,992⟩,⟨0,0⟩,0⟩,⟨⟨1000,1002⟩,⟨0,0⟩,⟨1005,1006⟩,⟨0,0⟩,0⟩]⟩,⟨2,1,0,3⟩,true⟩
theorem eD4:depthsX (cardV cE eV) eV.cuts=((2956,11700),0):=by rw [BL2];kernel_rfl
theorem eD5:deepD cE eB10 0 = .ok (eB10,sayX wDeep [2956,11700]):=CL2 (v:=eV) rfl rfl eD4
theorem eD6:sayX wDeep [2956,11700]=[100,101,101,112,32,50,57,53,54,32,49,49,55,48,48]:=by kernel_rfl
theorem CS8 {c:Cd} {b b':Bn} {s r:Str} (h:lineX c b s = .ok (b',r)):stepX c b s=(b',r,0):=by unfold stepX;rw [h]
theorem Dr4:stepX cE eB10 [100,101,101,112,32,48]=(eB11,[100,101,101,112,32,50,57,53,54,32,49,49,55,48,48],0):=CS8 (by rw [eDl,eD5,eD6];rfl)
theorem Dr3:stepX cE eB11 [98,111,120,32,49,32,102,97,108,108,115,32,109,105,108,108,32,112,97,115,115]=(eB12,[98,111,120,32,48],0):=by kernel_rfl
theorem Dr2:stepX cE eB12 [98,111,120,32,50,32,109,105,108,108,32,108,97,107,101]=(eB13,[98,111,120,32,49],0):=by kernel_rfl
theorem Dr1:stepX cE eB13 [99,97,114,100,32,48,32,63,32,109,105,42]=(eB14,[99,97,114,100,32,48],0):=by kernel_rfl
theorem Dr0:stepX cE eB14 [99,97,114,100,32,50,32,42,32,109,105,108,108]=(eB15,[99,97,114,100,32,49,32,105,115,32,48,32,49,32,105,115,32,49,32,51],0):=by kernel_rfl
theorem Dq9:stepX cE eB15 [119,104,105,99,104,32,48]=(eB16,[119,104,105,99,104,32,49],0):=by kernel_rfl
def eScript:Str:=[118,105,101,119,10,116,104,105,110,103,32,48,32,49,49,48,48,32,49,49,48,49,32,57,48,52,32,57,48,53,10,109,97,114,107,32,48,32,48,32,51,48,48,48,10,116,104,105,110,103,32,48,32,49,48,53,48,32,49,48,53,48,32,57,57,48,32,57,57,50,10,102,97,114,32,48,32,49,10,116,104,105,110,103,32,48,32,49,48,48,48,32,49,48,48,50,32,49,48,48,53,32,49,48,48,54,10,109,111,118,101,100,32,48,10,109,97,114,107,32,48,32,49,32,52,48,48,48,10,116,114,105,109,32,48,10,116,104,105,110,103,32,48,32,48,32,48,32,48,32,48,10,100,101,101,112,32,48,10,98,111,120,32,49,32,102,97,108,108,115,32,109,105,108,108,32,112,97,115,115,10,98,111,120,32,50,32,109,105,108,108,32,108,97,107,101,10,99,97,114,100,32,48,32,63,32,109,105,42,10,99,97,114,100,32,50,32,42,32,109,105,108,108,10,119,104,105,99,104,32,48,10]
def eSays:Str:=[118,105,101,119,32,48,10,116,104,105,110,103,32,48,32,48,10,109,97,114,107,32,53,56,53,48,48,48,32,53,57,51,57,57,57,10,116,104,105,110,103,32,49,32,48,10,102,97,114,32,57,53,57,49,32,49,48,50,52,49,10,116,104,105,110,103,32,50,32,50,10,109,111,118,101,100,32,52,10,101,114,114,111,114,32,52,10,116,114,105,109,32,50,32,49,32,48,32,51,10,101,114,114,111,114,32,54,10,100,101,101,112,32,50,57,53,54,32,49,49,55,48,48,10,98,111,120,32,48,10,98,111,120,32,49,10,99,97,114,100,32,48,10,99,97,114,100,32,49,32,105,115,32,48,32,49,32,105,115,32,49,32,51,10,119,104,105,99,104,32,49,10]
theorem Dn7:linesX eScript []=[[118,105,101,119],[116,104,105,110,103,32,48,32,49,49,48,48,32,49,49,48,49,32,57,48,52,32,57,48,53],[109,97,114,107,32,48,32,48,32,51,48,48,48],[116,104,105,110,103,32,48,32,49,48,53,48,32,49,48,53,48,32,57,57,48,32,57,57,50],[102,97,114,32,48,32,49],[116,104,105,110,103,32,48,32,49,48,48,48,32,49,48,48,50,32,49,48,48,53,32,49,48,48,54],[109,111,118,101,100,32,48],[109,97,114,107,32,48,32,49,32,52,48,48,48],[116,114,105,109,32,48],[116,104,105,110,103,32,48,32,48,32,48,32,48,32,48],[100,101,101,112,32,48],[98,111,120,32,49,32,102,97,108,108,115,32,109,105,108,108,32,112,97,115,115],[98,111,120,32,50,32,109,105,108,108,32,108,97,107,101],[99,97,114,100,32,48,32,63,32,109,105,42],[99,97,114,100,32,50,32,42,32,109,105,108,108],[119,104,105,99,104,32,48]]:=by kernel_rfl
theorem Dr5:(runL cE noBn (linesX eScript [])).2=eSays:=by
  rw [Dn7];have h:=(Ah9 eS0 (Ah9 eS1 (Ah9 eS2 (Ah9 eS3 (Ah9 eS4 (Ah9 eS5 (Ah9 eS6 (Ah9 eS7 (Ah9 eS8 (Ah9 eS9 (Ah9 Dr4 (Ah9 Dr3 (Ah9 Dr2 (Ah9 Dr1 (Ah9 Dr0 (Ah9 Dq9 (show runL cE eB16 []=(eB16,[]) from rfl)))))))))))))))));rw [show noBn=eB0 from rfl];refine (congrArg Prod.snd h).trans ?_;exact (show _=eSays by kernel_rfl)
theorem Dq3:runX cE eScript=(eSays,0):=by
  unfold runX;rw [if_neg (by decide +kernel),if_neg (fun h=>h.2 (by decide +kernel)),if_pos (by decide +kernel),show bareC cE=cE from rfl,Dr5]
end Go.Dk
namespace Go.Proofs.YtnmkdiagbkkmaaaGreatDoor
open Go Go.Eng
theorem BK3:Enters Tryz.prog 101:=Aa1 Tryz.func101 (by kernel_rfl) rfl
theorem Dn4:Enters Tryz.prog 11:=Aa1 Tryz.func11 (by kernel_rfl) rfl
theorem Dm8:Enters Tryz.prog 39:=Aa1 Tryz.func39 (by kernel_rfl) rfl
theorem Ck1:placesB Tryz.prog 26=some [(0,2),(2,2),(4,1),(5,1),(6,1),(7,1)]:=by kernel_rfl
theorem Ck0:placesB Tryz.prog 28=some [(0,8),(8,1),(9,1),(10,1),(11,2),(13,1),(14,1),(15,1),(16,1)]:=by kernel_rfl
theorem AP5:zeroB Tryz.prog 26=some [.int .i64 0,.int .i64 0,.int .i64 0,.int .i64 0,.int .i64 0,.int .i64 0,.int .i64 0,.slice none 0 0]:=by kernel_rfl
end Go.Proofs.YtnmkdiagbkkmaaaGreatDoor
namespace Go.Proofs.YtnmkdiagbkkmaaaGreatDoor
open Go Go.Eng Go.Dk Go.RowKit Go.Pw1 Go.Hp

theorem Cz5 (c:Cd) (q:Option Addr) (b o cap:Nat) (s:Str) (W:World) (hS:Sl W q b o 9 (c.p.things.map Th.cells)) (hq:q=none→cap=0) (hl:c.p.things.length≤1000) (hL:Lw Tryz.prog W) (hs:s.length≤100000∨131072 < s.length) :
    Calls Tryz.prog 11 #[c.v q cap,.string (bs s)] W (Pure (.tuple #[.string (bs (runX c s).1),.int .i64 (runX c s).2]) W):=by
  by_cases h1:131072 < s.length
  · exact CM8 c q b o cap s W h1
  · have hs2:s.length≤100000:=by omega
    by_cases h2:s ≠ []∧Lib.hasSuffix s [10]=false
    · exact CM9 c q b o cap s W h1 h2.1 h2.2
    · cases hc:cardIs c with
      | false=>exact Df1 c q b o cap s W hS hq hl hL h1 (Cw0 h2) hc
      | true=>exact Dp2 c q b o cap s W hS hq hl hL hs2 (Cw0 h2) hc
theorem AL5 (lo hi:Int) (W:World):Calls Tryz.prog 101 #[.int .i64 lo,.int .i64 hi] W (Pure (.agg #[.int .i64 lo,.int .i64 hi]) W):=by
  refine Aa0 Tryz.func101 rfl rfl ?_;refine st ?_;refine zn (New.alloc Ae3) (fun b4=>?_)
  refine lv (Val.build (parts:=[(0,.tmp 5),(1,.tmp 6)]) rfl Ae3 Am3 rfl) ?_;refine Ab1 (Sto.store rfl rfl .here Ag8 rfl rfl) rfl rfl ?_;refine su ?_;exact Aa4 (.r1 rfl (.agg rfl (.head _) Ag8 rfl)) (by first | rfl | simp)
theorem BL4 (W:World):Calls Tryz.prog 39 #[] W (Pure (cE.v none 0) W):=by
  refine Aa0 Tryz.func39 rfl rfl ?_;refine st ?_;refine zn (New.alloc Bm3) (fun b0=>?_)
  refine zc (zF rfl BK3) (fun w hm=>AL5 _ _ w) ?_;refine zc (zF rfl BK3) (fun w hm=>AL5 _ _ w) ?_;refine lv (Val.build (parts:=[(0,.tmp 2),(1,.tmp 3),(2,.const (.int .i64 5)),(3,.const (.int .i64 2000)),(4,.const (.int .i64 100000))]) rfl AP5 Ck1 rfl) ?_;refine zn (New.alloc AP5) (fun b1=>?_)
  refine Ab1 (Sto.store rfl rfl .here AP6 rfl rfl) rfl rfl ?_;refine st ?_;refine Ac3 2 Aj0 (.cons .here rfl (.cons .here rfl .nil)) ?_;refine zw 0 ?_;refine zA 1 ?_;refine Ab5 rfl (zF rfl BK3) rfl rfl rfl (fun w hm=>AL5 _ _ w) (Aa5 (.cons .here rfl (.cons .here rfl .nil)) (.cons .here rfl (.cons .here rfl .nil)) rfl ?_)
  refine zt ?_;refine zo 2 rfl (Val.build (parts:=[(0,.tmp 5),(1,.const (.int .i64 3200)),(2,.const (.int .i64 50)),(3,.const (.int .i64 20)),(4,.tmp 6),(5,.const (.int .i64 300)),(6,.const (.int .i64 900)),(7,.const (.int .i64 100)),(8,.const (.int .i64 200))]) rfl Bm3 Ck0 rfl) ?_;refine zB 3 ?_;refine Ab8 rfl (Sto.store rfl rfl (.there .here) BF0 rfl rfl) rfl rfl (Ab9 ?_)
  refine zd ?_;refine su ?_;exact Aa4 (.r1 rfl (.agg rfl (.tail _ (.head _)) BF0 rfl)) (by first | rfl | simp)
theorem Cb2 (W:World) (hL:Lw Tryz.prog W):Calls Tryz.prog 11 #[cE.v none 0,.string (bs eScript)] W (Pure (.tuple #[.string (bs eSays),.int .i64 0]) W):=by
  have h:=Cz5 cE none 0 0 0 eScript W ⟨fun h=>absurd rfl h,fun x hx=>(by cases hx),fun i h=>(by cases h)⟩ (fun _=>rfl) (by decide) hL (.inl (by decide +kernel));rw [Dq3] at h;exact h
theorem BK5 (t:Str) (ht:t=eSays) (W:World) (hL:Lw Tryz.prog W):Calls Tryz.prog 11 #[cE.v none 0,.string (bs eScript)] W (Pure (.tuple #[.string (bs t),.int .i64 0]) W):=by
  rw [ht];exact Cb2 W hL
set_option maxRecDepth 100000 in
theorem Az2 (W:World) (hL:Lw Tryz.prog W):Calls Tryz.prog 10 #[] W (Pure (.bool true) W):=by
  obtain ⟨t,ht⟩:∃ t,t=eSays:=⟨_,rfl⟩;refine Aa0 Tryz.func10 rfl rfl ?_;refine st ?_;refine zc (zF rfl Dm8) (fun w hm=>BL4 w) ?_;refine zc (zF rfl Dn4) (fun w hm=>BK5 t ht w (hL.mono hm)) ?_;refine lv (An2 (a:=t) (b:=eSays) rfl rfl) ?_;refine Ag2 (dj:=10) true rfl (by simp [ht]) ?_;refine su ?_;exact Aa4 (.r1 rfl (.tmp rfl)) (by first | rfl | simp)
end Go.Proofs.YtnmkdiagbkkmaaaGreatDoor
namespace Go.Dk
open Go Go.Eng Go.Pw1 Go.Hp
structure VwRight (c:Cd) (v:Vw):Prop where
  pw:(powerX v.p).2=0
  s1:v.p.focal=c.p.focal
  s2:v.p.base=c.p.base
  s3:v.p.tilt=c.p.tilt
  s4:v.p.near=c.p.near
  s5:v.p.far=c.p.far
  n:v.p.things.length≤12
  up:v.up=true→(hurtsX (cardV c v) v.cuts).2.2=0
  dn:v.up=false→v.cuts=noTr
structure Right (c:Cd) (b:Bn):Prop where
  v:∀ v∈b.views,VwRight c v
  nv:b.views.length≤4
  nb:b.heap.boxes.length≤4
  nc:b.heap.cards.length≤8
  w:(WhyX b.heap).2=0
variable {c:Cd} {b:Bn}
theorem Right.put (h:Right c b) {i:Nat} {v:Vw} (hv:VwRight c v):Right c (putV b i v) :=
  ⟨fun x hx=>by
    rcases List.mem_or_eq_of_mem_set hx with hx | rfl
    · exact h.v x hx
    · exact hv,by show (b.views.set i v).length≤4;rw [List.length_set];exact h.nv,h.nb,h.nc,h.w⟩
theorem Right.at (h:Right c b) {i:Nat} (hi:i < b.views.length):VwRight c (b.views.getD i noVw):=by
  rw [List.getD_eq_getElem?_getD,List.getElem?_eq_getElem hi];exact h.v _ (List.getElem_mem hi)
theorem BW7 {i k:Nat} {b':Bn} {r:Str} (e:farD b i k = .ok (b',r)):b'=b:=by
  unfold farD at e;dsimp only at e
  split at e
  · cases e
  · split at e <;> cases e;rfl
theorem Bv7 {i:Nat} {b':Bn} {r:Str} (e:movedD b i = .ok (b',r)):b'=b:=by
  unfold movedD at e;dsimp only at e
  split at e <;> cases e;rfl
theorem Bv8 {i:Nat} {t:Tr} {b':Bn} {r:Str} (e:hurtsD c b i t = .ok (b',r)):b'=b:=by
  unfold hurtsD at e;dsimp only at e
  split at e
  · cases e;rfl
  · split at e <;> cases e;rfl
theorem BG7 {i:Nat} {b':Bn} {r:Str} (e:deepD c b i = .ok (b',r)):b'=b:=by
  unfold deepD at e;dsimp only at e
  split at e
  · cases e
  · split at e <;> cases e;rfl
theorem BG6 {b':Bn} {r:Str} (e:waysD b = .ok (b',r)):b'=b:=by
  unfold waysD at e
  split at e <;> cases e;rfl
theorem Bv6 {k:Nat} {b':Bn} {r:Str} (e:whichD b k = .ok (b',r)):b'=b:=by
  unfold whichD at e
  split at e
  · cases e
  · split at e
    · cases e
    · cases e;rfl
end Go.Dk
namespace Go.Proofs.YtnmkdiagbkkmaaaGreatDoor
open Go Go.Eng Go.Pw1

theorem AM8 (n lo hi:Int) (W:World):Calls Tryz.prog 143 #[.int .i64 n,.int .i64 lo,.int .i64 hi] W (Pure (.bool (within n lo hi)) W):=by
  refine Aa0 Tryz.func143 rfl rfl ?_;refine st ?_
  refine Ab3 (dj:=10) (dp:=14) 4 rfl (fun g10=>by
    have g10':=g10;try simp only [nH] at g10'
    refine sv ?_;exact zs g10
  ) (fun g10=>by
    have g10':=g10;try simp only [nH] at g10'
    iterate 3 refine Ab7 rfl rfl rfl ?_
    refine sv ?_;exact zs g10
  ) ?_
  refine su ?_;exact Aa4 (.r1 rfl (.tmp rfl)) (by first | rfl | simp)
theorem AD0 (s:Sp) (lo hi:Int) (W:World):Calls Tryz.prog 144 #[.agg #[.int .i64 s.lo,.int .i64 s.hi],.int .i64 lo,.int .i64 hi] W (Pure (.bool (isSpan s lo hi)) W):=by
  refine Aa0 Tryz.func144 rfl rfl ?_;refine st ?_;refine zn (New.box rfl) (fun b3=>?_)
  refine Ab3 (dj:=11) (dp:=17) 6 rfl (fun g11=>by
    have g11':=g11;try simp only [nH] at g11'
    refine lv (Val.fieldAddr rfl Az1) ?_;refine lv (Ab6 rfl (.head _) Ag7 rfl) ?_;refine lv (Val.fieldAddr rfl An1) ?_;refine Ac7 (Ab6 rfl (.head _) Ag7 rfl) rfl rfl rfl ?_;refine sv ?_;exact zs g11
  ) (fun g11=>by
    have g11':=g11;try simp only [nH] at g11'
    iterate 5 refine Ab7 rfl rfl rfl ?_
    refine sv ?_;exact zs g11
  ) ?_
  refine st ?_
  refine Ab3 (dj:=18) (dp:=23) 5 rfl (fun g18=>by
    have g18':=g18;try simp only [nH] at g18'
    refine lv (Val.fieldAddr rfl An1) ?_;refine Ac7 (Ab6 rfl (.head _) Ag7 rfl) rfl rfl rfl ?_;refine sv ?_;exact zs g18
  ) (fun g18=>by
    have g18':=g18;try simp only [nH] at g18'
    iterate 4 refine Ab7 rfl rfl rfl ?_
    refine sv ?_;exact zs g18
  ) ?_
  refine su ?_;exact Aa4 (.r1 rfl (.tmp rfl)) (by first | rfl | simp)
theorem AS4 (x y:Sp) (W:World):Calls Tryz.prog 142 #[.agg #[.int .i64 x.lo,.int .i64 x.hi,.int .i64 y.lo,.int .i64 y.hi]] W (Pure (.bool (isPlace x y)) W):=by
  refine Aa0 Tryz.func142 rfl rfl ?_;refine st ?_;refine zn (New.box rfl) (fun b1=>?_)
  refine zc (zF rfl Bq3) (fun w hm=>AD0 ⟨_,_⟩ _ _ w) ?_
  refine Ab3 (dj:=6) (dp:=10) 4 rfl (fun g6=>by
    have g6':=g6;try simp only [nH] at g6'
    refine su ?_;refine Ac0 (zF rfl Bq3) rfl rfl rfl (fun w hm=>AD0 ⟨_,_⟩ _ _ w) ?_;refine sv ?_;exact zs g6
  ) (fun g6=>by
    have g6':=g6;try simp only [nH] at g6'
    iterate 3 refine Ab7 rfl rfl rfl ?_
    refine sv ?_;exact zs g6
  ) ?_
  refine su ?_;exact Aa4 (.r1 rfl (.tmp rfl)) (by first | rfl | simp)
theorem BG5 (p:Pr) (q:Option Addr) (b o cap:Nat) (W:World) (hS:Sl W q b o 9 (p.things.map Th.cells)) (hl:p.things.length≤100000000000) :
    Calls Tryz.prog 59 #[p.v q cap] W (Pure (.bool (isPair p)) W):=by
  refine Aa0 Tryz.func59 rfl rfl ?_;refine st ?_;refine zn (New.box rfl) (fun b1=>?_)
  refine Ad6 (p.things.length) (fun k q=>(3,.int .i64 (k:Int))::q) (fun _=>_) (fun _=>[]) (fun k=>(p.things.take k).any (bad p)=false) (by simp) rfl (zE 3 rfl rfl (zS 1 rfl (Sub.nil _))) (.cons .here rfl .nil) ?_;intro k kN kI;refine su ?_;refine cn rfl ?_ ?_
  ·intro c0'
   have hk:k < p.things.length:=by omega
   obtain ⟨t,ht⟩:∃ t,p.things[k]=t:=⟨_,rfl⟩;refine su ?_;refine lv (Aa7 rfl rfl AA9 (by omega) (by omega) (hS.ptrM hk)) ?_;refine lv (Aa9 rfl (fun w hm=>hS.loadX (by decide) hm (by simp) An7 hk ht)) ?_;refine zn (New.alloc Ap6) (fun b4=>?_)
   refine Ab1 (Sto.store rfl rfl .here An7 rfl rfl) rfl rfl ?_;refine su ?_;refine zc (zF rfl Cv7) (fun w hm=>AS4 ⟨_,_⟩ ⟨_,_⟩ w) ?_
   refine Ad2 (dj:=21) (dp:=26) 5 rfl (fun g21=>by
     have g21':=g21;try simp only [nH] at g21'
     refine su ?_;refine Ac0 (zF rfl Cv7) rfl rfl rfl (fun w hm=>AS4 ⟨_,_⟩ ⟨_,_⟩ w) ?_;refine sv ?_;exact zs g21
   ) (fun g21=>by
     have g21':=g21;try simp only [nH] at g21'
     iterate 4 refine Ab7 rfl rfl rfl ?_
     refine sv ?_;exact zs g21
   ) ?_
   refine st ?_
   refine Ad2 (dj:=27) (dp:=41) 14 rfl (fun g27=>by
     have g27':=g27;try simp only [nH] at g27'
     refine su ?_
     refine Ab3 (dj:=31) (dp:=40) 9 rfl (fun g31=>by
       have g31':=g31;try simp only [nH] at g31'
       refine su ?_;refine Ac0 (zF rfl Bq4) rfl rfl rfl (fun w hm=>AM8 _ _ _ w) ?_;refine sv ?_;exact zs g31
     ) (fun g31=>by
       have g31':=g31;try simp only [nH] at g31'
       iterate 8 refine Ab7 rfl rfl rfl ?_
       refine sv ?_;exact zs g31
     ) ?_
     refine sv ?_;exact zs g27
   ) (fun g27=>by
     have g27':=g27;try simp only [nH] at g27'
     iterate 13 refine Ab7 rfl rfl rfl ?_
     refine sv ?_;exact zs g27
   ) ?_
   refine st ?_;refine cn rfl ?_ ?_
   ·intro c1'
    refine su ?_;exact Aa4 (.r1 rfl (.tmp rfl)) (by have h:=Cy7 (f:=bad p) hk (by rw [ht];simpa [bad] using c1');simp [isPair,h])
   intro c1';refine st ?_;refine lv (Val.add rfl rfl (IntWalk.i64_in _ ⟨by omega,by omega⟩)) ?_;exact Ac8 (by omega) (Az3 hk kI (by rw [ht];obtain ⟨⟨h1,h2⟩,h3⟩:=c1';simp only [bad,Bool.or_eq_false_iff,Bool.not_eq_false',Bool.and_eq_false_iff,decide_eq_true_eq];exact ⟨⟨h1,h2⟩,h3⟩)) rfl (zE 3 rfl rfl (zS 1 rfl (Sub.nil _))) (.cons (.there .here) rfl .nil)
  intro c0';obtain rfl:k=p.things.length:=by omega
  rw [List.take_length] at kI;refine RunC.exit ?_;refine su ?_;refine Ab0 ?_;refine su ?_
  refine Ab3 (dj:=46) (dp:=50) 4 rfl (fun g46=>by
    have g46':=g46;try simp only [nH] at g46'
    refine su ?_;refine Ac0 (zF rfl Bq3) rfl rfl rfl (fun w hm=>AD0 ⟨_,_⟩ _ _ w) ?_;refine sv ?_;exact zs g46
  ) (fun g46=>by
    have g46':=g46;try simp only [nH] at g46'
    iterate 3 refine Ab7 rfl rfl rfl ?_
    refine sv ?_;exact zs g46
  ) ?_
  refine st ?_
  refine Ab3 (dj:=51) (dp:=55) 4 rfl (fun g51=>by
    have g51':=g51;try simp only [nH] at g51'
    refine su ?_;refine Ac0 (zF rfl Bq3) rfl rfl rfl (fun w hm=>AD0 ⟨_,_⟩ _ _ w) ?_;refine sv ?_;exact zs g51
  ) (fun g51=>by
    have g51':=g51;try simp only [nH] at g51'
    iterate 3 refine Ab7 rfl rfl rfl ?_
    refine sv ?_;exact zs g51
  ) ?_
  refine st ?_
  refine Ab3 (dj:=56) (dp:=60) 4 rfl (fun g56=>by
    have g56':=g56;try simp only [nH] at g56'
    refine su ?_;refine Ac0 (zF rfl Bq4) rfl rfl rfl (fun w hm=>AM8 _ _ _ w) ?_;refine sv ?_;exact zs g56
  ) (fun g56=>by
    have g56':=g56;try simp only [nH] at g56'
    iterate 3 refine Ab7 rfl rfl rfl ?_
    refine sv ?_;exact zs g56
  ) ?_
  refine st ?_
  refine Ab3 (dj:=61) (dp:=65) 4 rfl (fun g61=>by
    have g61':=g61;try simp only [nH] at g61'
    refine su ?_;refine Ac0 (zF rfl Bq4) rfl rfl rfl (fun w hm=>AM8 _ _ _ w) ?_;refine sv ?_;exact zs g61
  ) (fun g61=>by
    have g61':=g61;try simp only [nH] at g61'
    iterate 3 refine Ab7 rfl rfl rfl ?_
    refine sv ?_;exact zs g61
  ) ?_
  refine st ?_
  refine Ab3 (dj:=66) (dp:=72) 6 rfl (fun g66=>by
    have g66':=g66;try simp only [nH] at g66'
    refine su ?_;refine Ac0 (zF rfl Bq4) rfl rfl rfl (fun w hm=>AM8 _ _ _ w) ?_;refine sv ?_;exact zs g66
  ) (fun g66=>by
    have g66':=g66;try simp only [nH] at g66'
    iterate 5 refine Ab7 rfl rfl rfl ?_
    refine sv ?_;exact zs g66
  ) ?_
  refine su ?_;exact Aa4 (.r1 rfl (.tmp rfl)) (by simp only [isPair,kI,Bool.not_false,Bool.and_true];congr 1;cases isSpan p.focal 1 50000 <;> cases isSpan p.base 1 10000 <;> cases within p.tilt 0 1000 <;> cases within p.near 2000 1073741824 <;> cases within p.far p.near 1073741824 <;> simp)
end Go.Proofs.YtnmkdiagbkkmaaaGreatDoor
namespace Go.Pw1
open Go Go.Eng
end Go.Pw1
namespace Go.Proofs.YtnmkdiagbkkmaaaGreatDoor
open Go Go.Eng Go.Pw1

theorem Ar2 (n lo hi:Int) (W:World):Calls Tryz.prog 58 #[.int .i64 n,.int .i64 lo,.int .i64 hi] W (Pure (.bool (within n lo hi)) W):=by
  refine Aa0 Tryz.func58 rfl rfl ?_;refine st ?_
  refine Ab3 (dj:=10) (dp:=14) 4 rfl (fun g10=>by
    have g10':=g10;try simp only [nH] at g10'
    refine sv ?_;exact zs g10
  ) (fun g10=>by
    have g10':=g10;try simp only [nH] at g10'
    iterate 3 refine Ab7 rfl rfl rfl ?_
    refine sv ?_;exact zs g10
  ) ?_
  refine su ?_;exact Aa4 (.r1 rfl (.tmp rfl)) (by first | rfl | simp)
theorem Bw6 (c:Cd) (q:Option Addr) (b o cap:Nat) (W:World) (hS:Sl W q b o 9 (c.p.things.map Th.cells)) (hl:c.p.things.length≤100000000000) :
    Calls Tryz.prog 20 #[c.v q cap] W (Pure (.bool (cardR c)) W):=by
  refine Aa0 Tryz.func20 rfl rfl ?_;refine st ?_;refine zn (New.box rfl) (fun b1=>?_)
  refine zc (zF rfl Bc0) (fun w hm=>Ar2 _ _ _ w) ?_
  refine Ab3 (dj:=7) (dp:=11) 4 rfl (fun g7=>by
    have g7':=g7;try simp only [nH] at g7'
    refine su ?_;refine Ac0 (zF rfl Bc0) rfl rfl rfl (fun w hm=>Ar2 _ _ _ w) ?_;refine sv ?_;exact zs g7
  ) (fun g7=>by
    have g7':=g7;try simp only [nH] at g7'
    iterate 3 refine Ab7 rfl rfl rfl ?_
    refine sv ?_;exact zs g7
  ) ?_
  refine st ?_
  refine Ab3 (dj:=12) (dp:=16) 4 rfl (fun g12=>by
    have g12':=g12;try simp only [nH] at g12'
    refine su ?_;refine Ac0 (zF rfl Bc0) rfl rfl rfl (fun w hm=>Ar2 _ _ _ w) ?_;refine sv ?_;exact zs g12
  ) (fun g12=>by
    have g12':=g12;try simp only [nH] at g12'
    iterate 3 refine Ab7 rfl rfl rfl ?_
    refine sv ?_;exact zs g12
  ) ?_
  refine st ?_
  refine Ab3 (dj:=17) (dp:=22) 5 rfl (fun g17=>by
    have g17':=g17;try simp only [nH] at g17'
    refine lv (Val.fieldAddr rfl Az0) ?_;refine lv (Val.fieldAddr rfl Az1) ?_;refine Ac7 (Ab6 rfl (.head _) Ag7 rfl) rfl rfl rfl ?_;refine sv ?_;exact zs g17
  ) (fun g17=>by
    have g17':=g17;try simp only [nH] at g17'
    iterate 4 refine Ab7 rfl rfl rfl ?_
    refine sv ?_;exact zs g17
  ) ?_
  refine st ?_
  refine Ab3 (dj:=23) (dp:=31) 8 rfl (fun g23=>by
    have g23':=g23;try simp only [nH] at g23'
    refine lv (Val.fieldAddr rfl Az0) ?_;refine lv (Val.fieldAddr rfl Az1) ?_;refine lv (Ab6 rfl (.head _) Ag7 rfl) ?_;refine lv (Val.fieldAddr rfl Az0) ?_;refine lv (Val.fieldAddr rfl An1) ?_;refine Ac7 (Ab6 rfl (.head _) Ag7 rfl) rfl rfl rfl ?_;refine sv ?_;exact zs g23
  ) (fun g23=>by
    have g23':=g23;try simp only [nH] at g23'
    iterate 7 refine Ab7 rfl rfl rfl ?_
    refine sv ?_;exact zs g23
  ) ?_
  refine st ?_
  refine Ab3 (dj:=32) (dp:=37) 5 rfl (fun g32=>by
    have g32':=g32;try simp only [nH] at g32'
    refine lv (Val.fieldAddr rfl Az0) ?_;refine lv (Val.fieldAddr rfl An1) ?_;refine Ac7 (Ab6 rfl (.head _) Ag7 rfl) rfl rfl rfl ?_;refine sv ?_;exact zs g32
  ) (fun g32=>by
    have g32':=g32;try simp only [nH] at g32'
    iterate 4 refine Ab7 rfl rfl rfl ?_
    refine sv ?_;exact zs g32
  ) ?_
  refine st ?_
  refine Ab3 (dj:=39) (dp:=43) 4 rfl (fun g39=>by
    have g39':=g39;try simp only [nH] at g39'
    refine su ?_;refine Ac0 (zF rfl Bc0) rfl rfl rfl (fun w hm=>Ar2 _ _ _ w) ?_;refine sv ?_;exact zs g39
  ) (fun g39=>by
    have g39':=g39;try simp only [nH] at g39'
    iterate 3 refine Ab7 rfl rfl rfl ?_
    refine sv ?_;exact zs g39
  ) ?_
  refine st ?_
  refine Ab3 (dj:=44) (dp:=48) 4 rfl (fun g44=>by
    have g44':=g44;try simp only [nH] at g44'
    refine su ?_;refine Ac0 (zF rfl Bc0) rfl rfl rfl (fun w hm=>Ar2 _ _ _ w) ?_;refine sv ?_;exact zs g44
  ) (fun g44=>by
    have g44':=g44;try simp only [nH] at g44'
    iterate 3 refine Ab7 rfl rfl rfl ?_
    refine sv ?_;exact zs g44
  ) ?_
  refine st ?_
  refine Ab3 (dj:=49) (dp:=53) 4 rfl (fun g49=>by
    have g49':=g49;try simp only [nH] at g49'
    refine su ?_;refine Ac0 (zF rfl Bc0) rfl rfl rfl (fun w hm=>Ar2 _ _ _ w) ?_;refine sv ?_;exact zs g49
  ) (fun g49=>by
    have g49':=g49;try simp only [nH] at g49'
    iterate 3 refine Ab7 rfl rfl rfl ?_
    refine sv ?_;exact zs g49
  ) ?_
  refine st ?_
  refine Ab3 (dj:=54) (dp:=58) 4 rfl (fun g54=>by
    have g54':=g54;try simp only [nH] at g54'
    refine su ?_;refine Ac0 (zF rfl Bc0) rfl rfl rfl (fun w hm=>Ar2 _ _ _ w) ?_;refine sv ?_;exact zs g54
  ) (fun g54=>by
    have g54':=g54;try simp only [nH] at g54'
    iterate 3 refine Ab7 rfl rfl rfl ?_
    refine sv ?_;exact zs g54
  ) ?_
  refine st ?_
  refine Ab3 (dj:=59) (dp:=63) 4 rfl (fun g59=>by
    have g59':=g59;try simp only [nH] at g59'
    refine su ?_;refine Ac0 (zF rfl Dm1) rfl rfl rfl (fun w hm=>BG5 c.p q b o cap w (hS.mono (by decide) hm (by simp)) hl) ?_;refine sv ?_;exact zs g59
  ) (fun g59=>by
    have g59':=g59;try simp only [nH] at g59'
    iterate 3 refine Ab7 rfl rfl rfl ?_
    refine sv ?_;exact zs g59
  ) ?_
  refine su ?_;exact Aa4 (.r1 rfl (.tmp rfl)) (by simp [cardR,Bool.and_assoc])
end Go.Proofs.YtnmkdiagbkkmaaaGreatDoor
namespace Go.Proofs.YtnmkdiagbkkmaaaGreatDoor
open Go Go.Eng
theorem Dn3:Enters Tryz.prog 20:=Aa1 Tryz.func20 (by kernel_rfl) rfl
end Go.Proofs.YtnmkdiagbkkmaaaGreatDoor
namespace Go.Dk
open Go Go.Eng Go.RowKit Go.Pw1 Go.Hp
def farL (c:Cd) (l:List Str):Bool:=decide (40 < c.p.things.length) || decide (60 < l.length) || l.any fun s=>decide (400 < s.length)
def heavyC (c:Cd):Bool:=decide (20 < c.cuts) && cardR c
theorem BJ2 {c:Cd} {l:List Str} (h:farL c l=false):c.p.things.length≤40∧l.length≤60∧∀ s∈l,s.length≤400:=by
  unfold farL at h;simp only [Bool.or_eq_false_iff,decide_eq_false_iff_not,List.any_eq_false,decide_eq_true_eq] at h;exact ⟨by omega,by omega,fun s hs=>by have:=h.2 s hs;omega⟩
theorem Dk1 {c:Cd} {l:List Str} (h:40 < (c.p.things.length:Int)∨60 < (l.length:Int)):farL c l=true:=by
  unfold farL
  rcases h with h | h
  · rw [decide_eq_true (show 40 < c.p.things.length by omega)];rfl
  · rw [decide_eq_true (show 60 < l.length by omega),Bool.or_true];rfl
theorem Dk0 {c:Cd} {l:List Str} {v:Str} (hv:v∈l) (h:400 < (v.length:Int)):farL c l=true:=by
  unfold farL;rw [show (l.any fun s=>decide (400 < s.length))=true from List.any_eq_true.2 ⟨v,hv,decide_eq_true (by omega)⟩,Bool.or_true]
theorem Dj9 {c:Cd} {l:List Str} (h:(c.p.things.length:Int)≤40∧(l.length:Int)≤60) (hl:∀ s∈l,s.length≤400):farL c l=false:=by
  unfold farL;rw [decide_eq_false (show ¬ 40 < c.p.things.length by omega),decide_eq_false (show ¬ 60 < l.length by omega),show (l.any fun s=>decide (400 < s.length))=false from List.any_eq_false.2 fun s hs=>by have:=hl s hs;simp;omega];rfl
end Go.Dk
namespace Go.Proofs.YtnmkdiagbkkmaaaGreatDoor
open Go Go.Eng Go.Dk Go.RowKit Go.Pw1 Go.Hp

theorem AI5 (c:Cd) (q:Option Addr) (cap:Nat) (l:List Str) (ql:Option Addr) (bl ol cl:Nat) (W:World) (hls:Sl W ql bl ol 1 (l.map strC)) :
    Calls Tryz.prog 13 #[c.v q cap,.slice ql l.length cl] W (Pure (.bool (farL c l)) W):=by
  refine Aa0 Tryz.func13 rfl rfl ?_;refine st ?_;refine zn (New.box rfl) (fun b2=>?_)
  refine Ad2 (dj:=11) (dp:=15) 4 rfl (fun g11=>by
    have g11':=g11;try simp only [nH] at g11'
    refine st ?_;refine Ac7 (Al6 rfl Am2) rfl rfl rfl ?_;refine sv ?_;exact zs g11
  ) (fun g11=>by
    have g11':=g11;try simp only [nH] at g11'
    iterate 3 refine Ab7 rfl rfl rfl ?_
    refine sv ?_;exact zs g11
  ) ?_
  refine st ?_;refine cn rfl ?_ ?_
  ·intro c0'
   refine su ?_;exact Aa4 (.r1 rfl (.tmp rfl)) (by rw [Dk1 c0'])
  intro c0';refine st ?_;refine Ad6 (l.length) (fun k q=>(5,.int .i64 (k:Int))::q) (fun _=>_) (fun _=>[]) (fun k=>∀ s∈l.take k,s.length≤400) (by simp) rfl (zE 5 rfl rfl (zS 1 rfl (Sub.nil _))) .nil ?_;intro k kN kI;refine su ?_;refine cn rfl ?_ ?_
  ·intro c1'
   have hk:k < l.length:=by omega
   obtain ⟨v,hv⟩:∃ v,l[k]=v:=⟨_,rfl⟩;refine st ?_;refine lv (Aa7 rfl rfl Am2 (by omega) (by omega) (hls.ptrM (i:=k) hk)) ?_;refine lv (Aa9 rfl (fun w hm=>Sl.loadM1 hls (by decide) hm (by simp) AC4 hk (v:=.string (bs v)) (by simp [strC,hv]))) ?_;refine lv (Ah2 rfl Ao5) ?_;refine cn rfl ?_ ?_
   ·intro c2'
    refine su ?_;exact Aa4 (.r1 rfl (.tmp rfl)) (by rw [Dk0 (hv ▸ List.getElem_mem hk) c2'])
   intro c2';refine st ?_;refine lv (Val.add rfl rfl (IntWalk.i64_in _ ⟨by omega,by omega⟩)) ?_;exact Ac8 (by omega) (fun s hs=>by rw [List.take_succ_eq_append_getElem hk,hv] at hs;rcases List.mem_append.1 hs with hs | hs;exact kI s hs;rw [List.mem_singleton] at hs;subst hs;omega) rfl (zE 5 rfl rfl (zS 1 rfl (Sub.nil _))) .nil
  intro c1';have hk:k=l.length:=by omega
  rw [hk,List.take_length] at kI;refine RunC.exit ?_;refine su ?_;refine Ab0 ?_;refine su ?_;exact Aa4 (.r1 rfl (.tmp rfl)) (by rw [Dj9 c0' kI])
theorem AG3 (c:Cd) (q:Option Addr) (b o cap:Nat) (W:World) (hS:Sl W q b o 9 (c.p.things.map Th.cells)) (hl:c.p.things.length≤100000000000) :
    Calls Tryz.prog 9 #[c.v q cap] W (Pure (.bool (heavyC c)) W):=by
  refine Aa0 Tryz.func9 rfl rfl ?_;refine st ?_;refine zn (New.box rfl) (fun b1=>?_)
  refine Ab3 (dj:=6) (dp:=9) 3 rfl (fun g6=>by
    have g6':=g6;try simp only [nH] at g6'
    refine su ?_;refine Ac0 (zF rfl Dn3) rfl rfl rfl (fun w hm=>Bw6 c q b o cap w (hS.mono (by decide) hm (by simp)) hl) ?_;refine sv ?_;exact zs g6
  ) (fun g6=>by
    have g6':=g6;try simp only [nH] at g6'
    refine Ab7 rfl rfl rfl ?_;refine Ab7 rfl rfl rfl ?_;refine sv ?_;exact zs g6
  ) ?_
  refine su ?_;exact Aa4 (.r1 rfl (.tmp rfl)) (by first | rfl | simp)
end Go.Proofs.YtnmkdiagbkkmaaaGreatDoor
namespace Go.Proofs.YtnmkdiagbkkmaaaGreatDoor
open Go Go.Eng
theorem BS7:Enters Tryz.prog 10:=Aa1 Tryz.func10 (by kernel_rfl) rfl
theorem BS6:Enters Tryz.prog 13:=Aa1 Tryz.func13 (by kernel_rfl) rfl
theorem CW8:Enters Tryz.prog 9:=Aa1 Tryz.func9 (by kernel_rfl) rfl
end Go.Proofs.YtnmkdiagbkkmaaaGreatDoor
namespace Go.Proofs.YtnmkdiagbkkmaaaGreatDoor
open Go Go.Eng
theorem BA5:Enters Tryz.prog 19:=Aa1 Tryz.func19 (by kernel_rfl) rfl
theorem Dk2:aggB Tryz.prog 58=true:=by kernel_rfl
theorem Dq0 (a0:Int) (a1:Int) (a2:Int) (a3:Int) (c0:Int) (c1:Int) (c2:Int) (c3:Int):eqF Tryz.prog 8 58 [.int .i64 a0,.int .i64 a1,.int .i64 a2,.int .i64 a3] [.int .i64 c0,.int .i64 c1,.int .i64 c2,.int .i64 c3]=some (decide (a0=c0) && (decide (a1=c1) && (decide (a2=c2) && (decide (a3=c3) && true)))):=by kernel_rfl
theorem Ck5:pairB Tryz.prog 23=true:=by kernel_rfl
theorem BE9:tyB Tryz.prog 60=some (true,13):=by kernel_rfl
instance:Tyc Tryz.prog 60 true 13:=⟨BE9⟩
end Go.Proofs.YtnmkdiagbkkmaaaGreatDoor
namespace Go.Dk
open Go Go.Eng Go.RowKit Go.Pw1 Go.Hp
structure BenA (W:World) (d:DkX):Prop where
  v:Sl W (ownQ d.v) (ownK d.v) 0 13 (d.vs.map VwX.cellsS)
  t:∀ x∈d.vs,Sl W (ownQ x.t) (ownK x.t) 0 9 (x.p.things.map Th.cells)
  m:MOk W d.mx
  sm:MSm d.mx
end Go.Dk
namespace Go.Proofs.YtnmkdiagbkkmaaaGreatDoor
open Go Go.Eng Go.Dk Go.RowKit Go.Pw1 Go.Hp

theorem Bk9 {W0 w:World} {d:DkX} {tl:Blks} (hd:DkOk d) (hm:Mem W0 [] (dkB d++tl) w):BenA w d:=by
  have hat:∀ b o,(b,o)∈dkB d→w.heap[b]? = some o:=fun b o hb=>(hm.newd b o (List.mem_append_left _ hb)).2
  have e1:d.vs.map VwX.cells=d.vs.map VwX.cellsS:=List.map_congr_left fun x hx=>VwX.cells_eq (hd.vs x hx)
  have e2:d.bs.map BoX.cells=(d.bs.map BoX.a).map BxA.cells:=by
    rw [List.map_map];exact List.map_congr_left fun x hx=>BoX.cells_eq (hd.bs x hx)
  refine ⟨?_,fun x hx=>?_,⟨?_,fun x hx=>?_,?_⟩,⟨?_,?_,fun x hx=>?_,fun t ht=>?_⟩⟩
  · rw [← e1]
    exact Ak9 (f:=VwX.cells) (e:=60) (fun _=>rfl) (by decide) hd.v (fun b o h=>hat b o (Dn9 h))
  · exact Ak9 (f:=Th.cells) (e:=107) (fun _=>rfl) (by decide) (hd.vs x hx) (fun b o h=>hat b o (Do0 hx h))
  · show Sl w (ownQ d.b) (ownK d.b) 0 2 ((d.bs.map BoX.a).map BxA.cells)
    rw [← e2];exact Ak9 (f:=BoX.cells) (e:=126) (fun _=>rfl) (by decide) hd.b (fun b o h=>hat b o (Do2 h))
  · obtain ⟨y,hy,rfl⟩:=List.mem_map.1 hx
    have h1:=hd.bs y hy;rw [Ap7] at h1;exact Ak9 (f:=strC) (e:=9) (fun _=>rfl) (by decide) h1 (fun b o h=>hat b o (CQ4 hy (by rw [boB,Ap7];exact h)))
  · exact Ak9 (f:=Tn.cells) (e:=128) (fun _=>rfl) (by decide) hd.c (fun b o h=>hat b o (Do1 h))
  · show (d.bs.map BoX.a).length≤1000
    rw [List.length_map]
    have:=hd.few
    omega
  · have:=hd.few
    show d.cs.length≤1000
    omega
  · obtain ⟨y,hy,rfl⟩:=List.mem_map.1 hx
    exact ⟨(hd.ti y hy).1,(hd.ti y hy).2⟩
  · exact hd.tx t ht
end Go.Proofs.YtnmkdiagbkkmaaaGreatDoor
namespace Go.Proofs.YtnmkdiagbkkmaaaGreatDoor
open Go Go.Eng
theorem De5:boolB Tryz.prog 4=true:=by kernel_rfl
theorem CW7:aggB Tryz.prog 107=true:=by kernel_rfl
theorem CW6:aggB Tryz.prog 128=true:=by kernel_rfl
theorem Dj7 (a0:Int) (a1:Int) (a2:Int) (a3:Int) (a4:Int) (a5:Int) (a6:Int) (a7:Int) (a8:Int) (c0:Int) (c1:Int) (c2:Int) (c3:Int) (c4:Int) (c5:Int) (c6:Int) (c7:Int) (c8:Int):eqF Tryz.prog 8 107 [.int .i64 a0,.int .i64 a1,.int .i64 a2,.int .i64 a3,.int .i64 a4,.int .i64 a5,.int .i64 a6,.int .i64 a7,.int .i64 a8] [.int .i64 c0,.int .i64 c1,.int .i64 c2,.int .i64 c3,.int .i64 c4,.int .i64 c5,.int .i64 c6,.int .i64 c7,.int .i64 c8]=some (((decide (a0=c0) && (decide (a1=c1) && true)) && ((decide (a2=c2) && (decide (a3=c3) && true)) && true)) && (((decide (a4=c4) && (decide (a5=c5) && true)) && ((decide (a6=c6) && (decide (a7=c7) && true)) && true)) && (decide (a8=c8) && true))):=by kernel_rfl
theorem Dj6 (a0:Int) (a1:ByteArray) (a2:ByteArray) (c0:Int) (c1:ByteArray) (c2:ByteArray):eqF Tryz.prog 8 128 [.int .i64 a0,.string a1,.string a2] [.int .i64 c0,.string c1,.string c2]=some (decide (a0=c0) && ((a1.toList == c1.toList) && ((a2.toList == c2.toList) && true))):=by kernel_rfl
end Go.Proofs.YtnmkdiagbkkmaaaGreatDoor
namespace Go.Dk
open Go Go.Eng Go.RowKit Go.Pw1 Go.Hp
abbrev benS (d:DkX):Value:=.agg [.slice (ownQ d.v) d.vs.length (ownC d.v),.slice (ownQ d.b) d.bs.length (ownC d.b),.slice (ownQ d.c) d.cs.length (ownC d.c)].toArray
theorem BenA.b {W:World} {d:DkX} (h:BenA W d):Sl W (ownQ d.b) (ownK d.b) 0 2 (d.bs.map BoX.cellsS):=by
  have h:=h.m.bx;unfold DkX.mx at h;dsimp only at h;rw [List.map_map] at h;exact h
theorem BenA.bt {W:World} {d:DkX} (h:BenA W d):∀ x∈d.bs,Sl W (ownQ x.t) (ownK x.t) 0 1 (x.titles.map strC):=fun x hx=>h.m.ti x.a (List.mem_map_of_mem hx)
theorem BenA.c {W:World} {d:DkX} (h:BenA W d):Sl W (ownQ d.c) (ownK d.c) 0 3 (d.cs.map Tn.cells):=h.m.cd
theorem CT7 {d e:DkX} (h:d.pl=e.pl):d.vs.map VwX.pl=e.vs.map VwX.pl∧d.bs.map BoX.pl=e.bs.map BoX.pl∧d.cs=e.cs:=by
  unfold DkX.pl at h
  injection h with h1 h2
  injection h2 with h2 h3
  exact ⟨h1,h2,h3⟩
theorem Cj1 {α β:Type} {f:α→β} {l m:List α} (h:l.map f=m.map f) {k:Nat} (hk:k < l.length):∃ hk2:k < m.length,f l[k]=f m[k]:=by
  have hl:l.length=m.length:=by have:=congrArg List.length h;simpa using this
  refine ⟨by omega,?_⟩
  have:=congrArg (fun z=>z[k]?) h
  simp only [List.getElem?_map,List.getElem?_eq_getElem hk,List.getElem?_eq_getElem (show k < m.length by omega),Option.map_some] at this;exact Option.some.inj this
end Go.Dk
namespace Go.Proofs.YtnmkdiagbkkmaaaGreatDoor
open Go Go.Eng Go.Dk Go.RowKit Go.Pw1 Go.Hp

theorem CQ6 {d:DkX} (hd:DkOk d):benV d=benS d:=by
  unfold benV benS;rw [Ad3 hd.v,Ad3 hd.b,Ad3 hd.c]
set_option maxHeartbeats 2000000 in
theorem BM8 (d e:DkX) (hd:DkOk d) (hpl:d.pl=e.pl) (W:World) (h1:BenA W d) (h2:BenA W e):Calls Tryz.prog 18 #[benS d,benS e] W (Pure (.bool true) W):=by
  obtain ⟨hsv,hsb,hsc⟩:=CT7 hpl;have hlv:d.vs.length=e.vs.length:=by have:=congrArg List.length hsv;simpa using this
  have hlb:d.bs.length=e.bs.length:=by have:=congrArg List.length hsb;simpa using this
  have hfew:=hd.few;have hlc:d.cs.length=e.cs.length:=congrArg List.length hsc;refine Aa0 Tryz.func18 rfl rfl ?_;refine st ?_;refine zn (New.box rfl) (fun b2=>?_)
  refine zn (New.box rfl) (fun b3=>?_)
  refine Ag2 (dj:=23) false rfl (by simp [hlv]) ?_;refine su ?_;refine Ag2 (dj:=34) false rfl (by simp [hlb]) ?_;refine su ?_;refine RunC.cond rfl (fun h=>absurd h (by simp [hlc])) ?_;intro c0;clear c0;refine st ?_;refine Ad6 (d.vs.length) (fun k q=>(5,.int .i64 (k:Int))::q) (fun _=>_) (fun _=>[]) (fun _=>True) trivial rfl (zE 5 rfl rfl (zS 2 rfl (zS 3 rfl (Sub.nil _)))) (.cons .here rfl (.cons .here rfl .nil)) ?_;intro k kN kI;clear kI;refine su ?_;refine cn rfl ?_ ?_
  ·intro c1'
   have hk:k < d.vs.length:=by omega
   obtain ⟨hk2,hxy⟩:=Cj1 hsv hk;obtain ⟨x,hx⟩:∃ x,d.vs[k]=x:=⟨_,rfl⟩;obtain ⟨y,hy⟩:∃ y,e.vs[k]=y:=⟨_,rfl⟩;have hxm:x∈d.vs:=hx ▸ List.getElem_mem hk;have hym:y∈e.vs:=hy ▸ List.getElem_mem hk2;rw [hx,hy] at hxy;have hxn:x.p.things.length≤12:=hd.things x hxm;have hxp:x.p=y.p:=congrArg Vw.p hxy;have hxc:x.cuts=y.cuts:=congrArg Vw.cuts hxy;have hxu:x.up=y.up:=congrArg Vw.up hxy;refine RunC.skip ?_;refine RunE.next ?_;refine RunC.seq ?_;refine RunC.block ?_;refine RunC.seq ?_
   apply Ai5 (J:=J2 _ _ _ _ _ _) 13 Aj0 (.cons .here rfl (.cons .here rfl .nil))
   ·refine zw 0 ?_
    refine zw 1 ?_;refine zw 2 ?_;refine zv 3 rfl (Aa7 rfl rfl AE8 (by omega) (by omega) (h1.v.ptrM hk)) ?_;refine zv 4 rfl (Aa9 rfl (fun w hm=>h1.v.loadX (by decide) hm (by simp) BE9 hk hx)) ?_;refine zw 5 ?_;refine zw 6 ?_;refine zw 7 ?_;refine zv 8 rfl (Aa7 rfl rfl AE8 (by omega) (by omega) (h2.v.ptrM hk2)) ?_;refine zv 9 rfl (Aa9 rfl (fun w hm=>h2.v.loadX (by decide) hm (by simp) BE9 hk2 hy)) ?_;refine Ag0 (rs:=[10,11]) (by kernel_rfl) (by simp) (by kernel_rfl) (fun m hm=>?_)
    simp only [List.mem_cons,List.not_mem_nil,or_false] at hm
    rcases hm with rfl | rfl
    ·refine Ac2 rfl (New.alloc AK4) rfl rfl rfl (fun b6=>(Aa5 (.cons (.there .here) rfl (.cons (.there .here) rfl .nil)) (.cons .here rfl (.cons .here rfl .nil)) rfl ?_))
     refine zA 11 ?_;refine Ac2 rfl (New.alloc AK4) rfl rfl rfl (fun b7=>(Aa5 (.cons .here rfl (.cons (.there .here) rfl (.cons (.there .here) rfl .nil))) (.cons (.there .here) rfl (.cons (.there .here) rfl .nil)) rfl ?_))
     refine zA 12 ?_;refine Ab8 rfl (Sto.store rfl rfl (.there .here) BE9 rfl rfl) rfl rfl (Aa5 (.cons .here rfl (.cons (.there .here) rfl (.cons (.there .here) rfl .nil))) (.cons .here rfl (.cons .here rfl (.cons .here rfl .nil))) rfl ?_)
     refine zt ?_;refine zB 13 ?_;refine Ab8 rfl (Sto.store rfl rfl .here BE9 rfl rfl) rfl rfl (Ab9 ?_)
     refine zd ?_;exact Ag1 b6 b7 (Ac1 _) (Pick.refl _)
    refine Ac2 rfl (New.alloc AK4) rfl rfl rfl (fun b7=>(Aa5 (.cons .here rfl (.cons .here rfl (.cons .here rfl .nil))) (.cons (.there .here) rfl (.cons (.there .here) rfl .nil)) rfl ?_))
    refine zA 10 ?_;refine Ac2 rfl (New.alloc AK4) rfl rfl rfl (fun b6=>(Aa5 (.cons (.there .here) rfl (.cons (.there .here) rfl (.cons (.there .here) rfl .nil))) (.cons .here rfl (.cons .here rfl (.cons .here rfl .nil))) rfl ?_))
    refine zA 12 ?_;refine Ab8 rfl (Sto.store rfl rfl .here BE9 rfl rfl) rfl rfl (Aa5 (.cons (.there .here) rfl (.cons (.there .here) rfl (.cons (.there .here) rfl .nil))) (.cons .here rfl (.cons .here rfl (.cons .here rfl .nil))) rfl ?_)
    refine zt ?_;refine zB 13 ?_;refine Ab8 rfl (Sto.store rfl rfl (.there .here) BE9 rfl rfl) rfl rfl (Ab9 ?_)
    refine zd ?_;exact Ag1 b6 b7 (zS 7 rfl (zS 6 rfl (zS 61 rfl (zS 60 rfl (zS 59 rfl (zS 58 rfl (zS 57 rfl (zS 56 rfl (zS 55 rfl (zS 54 rfl (zS 53 rfl (zS 52 rfl (Sub.skip rfl (Sub.skip rfl (Sub.skip rfl (Sub.skip rfl (Sub.skip rfl (Sub.skip rfl (Sub.skip rfl (Sub.skip rfl (Sub.skip rfl (Sub.skip rfl (Sub.skip rfl (Sub.skip rfl (Ac1 _))))))))))))))))))))))))) (.cons (.there .here) rfl (.cons .here rfl (.cons .here rfl (.cons .here rfl .nil))))
   refine J2.out (fun b6 b7=>?_)
   refine RunE.next ?_;refine RunC.seq ?_
   apply Ai5 (J:=J2 _ _ _ _ _ _) 7 Aj0 (.cons .here rfl (.cons .here rfl (.cons .here rfl (.cons .here rfl .nil))))
   ·refine zw 0 ?_
    refine zw 1 ?_;refine zw 2 ?_;refine zw 3 ?_;refine Ag0 (rs:=[4,5]) (by kernel_rfl) (by simp) (by kernel_rfl) (fun m hm=>?_)
    simp only [List.mem_cons,List.not_mem_nil,or_false] at hm
    rcases hm with rfl | rfl
    ·refine Ac2 rfl (New.alloc AP5) rfl rfl rfl (fun b8=>(Aa5 (.cons (.there .here) rfl (.cons (.there .here) rfl (.cons (.there .here) rfl (.cons (.there .here) rfl .nil)))) (.cons .here rfl (.cons .here rfl (.cons .here rfl (.cons .here rfl .nil)))) rfl ?_))
     refine zA 5 ?_;refine Ac2 rfl (New.alloc AP5) rfl rfl rfl (fun b9=>(Aa5 (.cons .here rfl (.cons (.there .here) rfl (.cons (.there .here) rfl (.cons (.there .here) rfl (.cons (.there .here) rfl .nil))))) (.cons (.there .here) rfl (.cons (.there .here) rfl (.cons (.there .here) rfl (.cons (.there .here) rfl .nil)))) rfl ?_))
     refine zA 6 ?_;refine Ab8 rfl (Sto.store rfl rfl (.there .here) AP6 rfl rfl) rfl rfl (Aa5 (.cons .here rfl (.cons (.there .here) rfl (.cons (.there .here) rfl (.cons (.there .here) rfl (.cons (.there .here) rfl .nil))))) (.cons .here rfl (.cons .here rfl (.cons .here rfl (.cons .here rfl (.cons .here rfl .nil))))) rfl ?_)
     refine zt ?_;refine zB 7 ?_;refine Ab8 rfl (Sto.store rfl rfl .here AP6 rfl rfl) rfl rfl (Ab9 ?_)
     refine zd ?_;exact Ag1 b8 b9 (Ac1 _) (Pick.refl _)
    refine Ac2 rfl (New.alloc AP5) rfl rfl rfl (fun b9=>(Aa5 (.cons .here rfl (.cons .here rfl (.cons .here rfl (.cons .here rfl (.cons .here rfl .nil))))) (.cons (.there .here) rfl (.cons (.there .here) rfl (.cons (.there .here) rfl (.cons (.there .here) rfl .nil)))) rfl ?_))
    refine zA 4 ?_;refine Ac2 rfl (New.alloc AP5) rfl rfl rfl (fun b8=>(Aa5 (.cons (.there .here) rfl (.cons (.there .here) rfl (.cons (.there .here) rfl (.cons (.there .here) rfl (.cons (.there .here) rfl .nil))))) (.cons .here rfl (.cons .here rfl (.cons .here rfl (.cons .here rfl (.cons .here rfl .nil))))) rfl ?_))
    refine zA 6 ?_;refine Ab8 rfl (Sto.store rfl rfl .here AP6 rfl rfl) rfl rfl (Aa5 (.cons (.there .here) rfl (.cons (.there .here) rfl (.cons (.there .here) rfl (.cons (.there .here) rfl (.cons (.there .here) rfl .nil))))) (.cons .here rfl (.cons .here rfl (.cons .here rfl (.cons .here rfl (.cons .here rfl .nil))))) rfl ?_)
    refine zt ?_;refine zB 7 ?_;refine Ab8 rfl (Sto.store rfl rfl (.there .here) AP6 rfl rfl) rfl rfl (Ab9 ?_)
    refine zd ?_;exact Ag1 b8 b9 (zS 9 rfl (zS 8 rfl (zS 65 rfl (zS 64 rfl (zS 63 rfl (zS 62 rfl (Sub.skip rfl (Sub.skip rfl (Sub.skip rfl (Sub.skip rfl (Sub.skip rfl (Sub.skip rfl (Ac1 _))))))))))))) (.cons (.there .here) rfl (.cons .here rfl (.cons .here rfl (.cons .here rfl (.cons .here rfl (.cons .here rfl .nil))))))
   refine J2.out (fun b8 b9=>?_)
   refine su ?_;refine lv (BD0 rfl rfl De5) ?_;refine Ag2 (dj:=71) false rfl (by simp [hxu]) ?_;refine su ?_;refine lv (Az7 rfl rfl Dk2 (Dq0 _ _ _ _ _ _ _ _ )) ?_;refine Ag2 (dj:=78) false rfl (by simp [hxc]) ?_;refine su ?_;refine lv (Az6 rfl rfl Ck5) ?_;refine Ag2 (dj:=85) false rfl (by simp [hxp]) ?_;refine su ?_;refine lv (Az6 rfl rfl Ck5) ?_;refine Ag2 (dj:=92) false rfl (by simp [hxp]) ?_;refine su ?_;refine Ag2 (dj:=99) false rfl (by simp [hxp]) ?_;refine su ?_;refine Ag2 (dj:=106) false rfl (by simp [hxp]) ?_;refine su ?_;refine Ag2 (dj:=113) false rfl (by simp [hxp]) ?_;refine su ?_;refine RunC.cond rfl (fun h=>absurd h (by simp [hxp])) ?_;intro c2;clear c2;refine st ?_;refine Ad6 (x.p.things.length) (fun j q=>(10,.int .i64 (j:Int))::q) (fun _=>_) (fun _=>[]) (fun _=>True) trivial rfl (zE 10 rfl rfl (zS 2 rfl (zS 3 rfl (zS 5 rfl (zS 6 rfl (zS 7 rfl (zS 8 rfl (zS 9 rfl (Sub.nil _))))))))) (.cons .here rfl (.cons .here rfl (.cons .here rfl (.cons .here rfl (.cons .here rfl (.cons .here rfl .nil)))))) ?_;intro j jN jI;clear jI;refine su ?_;refine cn rfl ?_ ?_
   ·intro c3'
    have hj:j < x.p.things.length:=by omega
    have hj2:j < y.p.things.length:=by (rw [← hxp];exact hj)
    obtain ⟨u,hu⟩:∃ u,x.p.things[j]=u:=⟨_,rfl⟩;have hu2:y.p.things[j]=u:=by (rw [← hu];congr 1;rw [hxp])
    refine st ?_;refine Ac3 10 Aj0 (.cons .here rfl (.cons .here rfl (.cons .here rfl (.cons .here rfl (.cons .here rfl (.cons .here rfl .nil)))))) ?_;refine zw 0 ?_;refine zw 1 ?_;refine zw 2 ?_;refine zv 3 rfl (Aa7 rfl rfl AA9 (by omega) (by omega) ((h1.t x hxm).ptrM hj)) ?_;refine zv 4 rfl (Aa9 rfl (fun w hm=>(h1.t x hxm).loadX (by decide) hm (by simp) An7 hj hu)) ?_;refine zw 5 ?_;refine zw 6 ?_;refine zw 7 ?_;refine zv 8 rfl (Aa7 rfl rfl AA9 (by omega) (by omega) ((h2.t y hym).ptrM hj2)) ?_;refine zv 9 rfl (Aa9 rfl (fun w hm=>(h2.t y hym).loadX (by decide) hm (by simp) An7 hj2 hu2)) ?_;refine zt ?_;refine zo 10 rfl (Az7 rfl rfl CW7 (Dj7 _ _ _ _ _ _ _ _ _ _ _ _ _ _ _ _ _ _ )) ?_;refine zd ?_;refine st ?_;refine RunC.cond rfl (fun h=>absurd h (by simp)) ?_;intro c4;clear c4;refine st ?_;refine lv (Val.add rfl rfl (IntWalk.i64_in _ ⟨by omega,by omega⟩)) ?_;exact Ac8 (by omega) trivial rfl (zE 10 rfl rfl (zS 2 rfl (zS 3 rfl (zS 5 rfl (zS 6 rfl (zS 7 rfl (zS 8 rfl (zS 9 rfl (Sub.nil _))))))))) (.cons .here rfl (.cons .here rfl (.cons .here rfl (.cons .here rfl (.cons .here rfl (.cons .here rfl .nil))))))
   intro c3';refine RunC.exit ?_;refine su ?_;refine Ab0 ?_;refine st ?_;refine lv (Val.add rfl rfl (IntWalk.i64_in _ ⟨by omega,by omega⟩)) ?_;exact Ac8 (by omega) trivial rfl (zE 5 rfl rfl (zS 2 rfl (zS 3 rfl (Sub.nil _)))) (.cons (.there (.there (.there (.there .here)))) rfl (.cons (.there (.there (.there (.there .here)))) rfl .nil))
  intro c1';refine RunC.exit ?_;refine su ?_;refine Ab0 ?_;refine st ?_;refine Ad6 (d.bs.length) (fun k q=>(11,.int .i64 (k:Int))::q) (fun _=>_) (fun _=>[]) (fun _=>True) trivial rfl (zE 11 rfl rfl (zS 2 rfl (zS 3 rfl (Sub.nil _)))) (.cons .here rfl (.cons .here rfl .nil)) ?_;intro k kN kI;clear kI;refine su ?_;refine cn rfl ?_ ?_
  ·intro c5'
   have hk:k < d.bs.length:=by omega
   obtain ⟨hk2,hxy⟩:=Cj1 hsb hk;obtain ⟨x,hx⟩:∃ x,d.bs[k]=x:=⟨_,rfl⟩;obtain ⟨y,hy⟩:∃ y,e.bs[k]=y:=⟨_,rfl⟩;have hxm:x∈d.bs:=hx ▸ List.getElem_mem hk;have hym:y∈e.bs:=hy ▸ List.getElem_mem hk2;rw [hx,hy] at hxy;have hxn:x.titles.length≤1000:=(hd.ti x hxm).1;have hxo:x.a.bx.colour=y.a.bx.colour:=congrArg Bx.colour hxy;have hxt:x.titles=y.titles:=congrArg Bx.titles hxy;have hxt2:x.a.bx.titles=y.a.bx.titles:=hxt;have hxa:x.a.bx.titles.length=x.titles.length:=rfl;have hya:y.a.bx.titles.length=y.titles.length:=rfl;refine RunC.skip ?_;refine RunE.next ?_;refine RunC.seq ?_;refine RunC.block ?_;refine RunC.seq ?_
   apply Ai5 (J:=J2 _ _ _ _ _ _) 15 Aj0 (.cons .here rfl (.cons .here rfl .nil))
   ·refine zw 0 ?_
    refine zw 1 ?_;refine zw 2 ?_;refine zw 3 ?_;refine zv 4 rfl (Aa7 rfl rfl Be9 (by omega) (by omega) (h1.b.ptrM hk)) ?_;refine zv 5 rfl (Aa9 rfl (fun w hm=>h1.b.loadX (by decide) hm (by simp) AJ5 hk hx)) ?_;refine zw 6 ?_;refine zw 7 ?_;refine zw 8 ?_;refine zw 9 ?_;refine zv 10 rfl (Aa7 rfl rfl Be9 (by omega) (by omega) (h2.b.ptrM hk2)) ?_;refine zv 11 rfl (Aa9 rfl (fun w hm=>h2.b.loadX (by decide) hm (by simp) AJ5 hk2 hy)) ?_;refine Ag0 (rs:=[12,13]) (by kernel_rfl) (by simp) (by kernel_rfl) (fun m hm=>?_)
    simp only [List.mem_cons,List.not_mem_nil,or_false] at hm
    rcases hm with rfl | rfl
    ·refine Ac2 rfl (New.alloc Ay1) rfl rfl rfl (fun b12=>(Aa5 (.cons (.there .here) rfl (.cons (.there .here) rfl .nil)) (.cons .here rfl (.cons .here rfl .nil)) rfl ?_))
     refine zA 13 ?_;refine Ac2 rfl (New.alloc Ay1) rfl rfl rfl (fun b13=>(Aa5 (.cons .here rfl (.cons (.there .here) rfl (.cons (.there .here) rfl .nil))) (.cons (.there .here) rfl (.cons (.there .here) rfl .nil)) rfl ?_))
     refine zA 14 ?_;refine Ab8 rfl (Sto.store rfl rfl (.there .here) AJ5 rfl rfl) rfl rfl (Aa5 (.cons .here rfl (.cons (.there .here) rfl (.cons (.there .here) rfl .nil))) (.cons .here rfl (.cons .here rfl (.cons .here rfl .nil))) rfl ?_)
     refine zt ?_;refine zB 15 ?_;refine Ab8 rfl (Sto.store rfl rfl .here AJ5 rfl rfl) rfl rfl (Ab9 ?_)
     refine zd ?_;exact Ag1 b12 b13 (Ac1 _) (Pick.refl _)
    refine Ac2 rfl (New.alloc Ay1) rfl rfl rfl (fun b13=>(Aa5 (.cons .here rfl (.cons .here rfl (.cons .here rfl .nil))) (.cons (.there .here) rfl (.cons (.there .here) rfl .nil)) rfl ?_))
    refine zA 12 ?_;refine Ac2 rfl (New.alloc Ay1) rfl rfl rfl (fun b12=>(Aa5 (.cons (.there .here) rfl (.cons (.there .here) rfl (.cons (.there .here) rfl .nil))) (.cons .here rfl (.cons .here rfl (.cons .here rfl .nil))) rfl ?_))
    refine zA 14 ?_;refine Ab8 rfl (Sto.store rfl rfl .here AJ5 rfl rfl) rfl rfl (Aa5 (.cons (.there .here) rfl (.cons (.there .here) rfl (.cons (.there .here) rfl .nil))) (.cons .here rfl (.cons .here rfl (.cons .here rfl .nil))) rfl ?_)
    refine zt ?_;refine zB 15 ?_;refine Ab8 rfl (Sto.store rfl rfl (.there .here) AJ5 rfl rfl) rfl rfl (Ab9 ?_)
    refine zd ?_;exact Ag1 b12 b13 (zS 13 rfl (zS 12 rfl (zS 159 rfl (zS 158 rfl (zS 157 rfl (zS 156 rfl (zS 155 rfl (zS 154 rfl (zS 153 rfl (zS 152 rfl (zS 151 rfl (zS 150 rfl (zS 149 rfl (zS 148 rfl (Sub.skip rfl (Sub.skip rfl (Sub.skip rfl (Sub.skip rfl (Sub.skip rfl (Sub.skip rfl (Sub.skip rfl (Sub.skip rfl (Sub.skip rfl (Sub.skip rfl (Sub.skip rfl (Sub.skip rfl (Sub.skip rfl (Sub.skip rfl (Ac1 _))))))))))))))))))))))))))))) (.cons (.there .here) rfl (.cons .here rfl (.cons .here rfl (.cons .here rfl .nil))))
   refine J2.out (fun b12 b13=>?_)
   refine su ?_;refine Ag2 (dj:=165) false rfl (by simp [hxo]) ?_;refine su ?_;refine RunC.cond rfl (fun h=>absurd h (by simp [hxt2])) ?_;intro c6;clear c6;refine st ?_;refine Ad6 (x.titles.length) (fun j q=>(14,.int .i64 (j:Int))::q) (fun _=>_) (fun _=>[]) (fun _=>True) trivial rfl (zE 14 rfl rfl (zS 2 rfl (zS 3 rfl (zS 11 rfl (zS 12 rfl (zS 13 rfl (Sub.nil _))))))) (.cons .here rfl (.cons .here rfl (.cons .here rfl (.cons .here rfl .nil)))) ?_;intro j jN jI;clear jI;refine su ?_;refine cn rfl ?_ ?_
   ·intro c7'
    have hj:j < x.titles.length:=by omega
    have hj2:j < y.titles.length:=by (rw [← hxt];exact hj)
    obtain ⟨u,hu⟩:∃ u,x.titles[j]=u:=⟨_,rfl⟩;have hu2:y.titles[j]=u:=by (rw [← hu];congr 1;rw [hxt])
    refine st ?_;refine Ac3 10 Aj0 (.cons .here rfl (.cons .here rfl (.cons .here rfl (.cons .here rfl .nil)))) ?_;refine zw 0 ?_;refine zw 1 ?_;refine zw 2 ?_;refine zv 3 rfl (Aa7 rfl rfl Am2 (by omega) (by omega) ((h1.bt x hxm).ptrM hj)) ?_;refine zv 4 rfl (Aa9 rfl (fun w hm=>Sl.loadM1 (h1.bt x hxm) (by decide) hm (by simp) AC4 hj (v:=.string (bs u)) (by simp [strC,hu]))) ?_;refine zw 5 ?_;refine zw 6 ?_;refine zw 7 ?_;refine zv 8 rfl (Aa7 rfl rfl Am2 (by omega) (by omega) ((h2.bt y hym).ptrM hj2)) ?_;refine zv 9 rfl (Aa9 rfl (fun w hm=>Sl.loadM1 (h2.bt y hym) (by decide) hm (by simp) AC4 hj2 (v:=.string (bs u)) (by simp [strC,hu2]))) ?_;refine zt ?_;refine zo 10 rfl (Ar5 rfl rfl) ?_;refine zd ?_;refine st ?_;refine RunC.cond rfl (fun h=>absurd h (by simp)) ?_;intro c8;clear c8;refine st ?_;refine lv (Val.add rfl rfl (IntWalk.i64_in _ ⟨by omega,by omega⟩)) ?_;exact Ac8 (by omega) trivial rfl (zE 14 rfl rfl (zS 2 rfl (zS 3 rfl (zS 11 rfl (zS 12 rfl (zS 13 rfl (Sub.nil _))))))) (.cons .here rfl (.cons .here rfl (.cons .here rfl (.cons .here rfl .nil))))
   intro c7';refine RunC.exit ?_;refine su ?_;refine Ab0 ?_;refine st ?_;refine lv (Val.add rfl rfl (IntWalk.i64_in _ ⟨by omega,by omega⟩)) ?_;exact Ac8 (by omega) trivial rfl (zE 11 rfl rfl (zS 2 rfl (zS 3 rfl (Sub.nil _)))) (.cons (.there (.there .here)) rfl (.cons (.there (.there .here)) rfl .nil))
  intro c5';refine RunC.exit ?_;refine su ?_;refine Ab0 ?_;refine st ?_;refine Ad6 (d.cs.length) (fun k q=>(15,.int .i64 (k:Int))::q) (fun _=>_) (fun _=>[]) (fun _=>True) trivial rfl (zE 15 rfl rfl (zS 2 rfl (zS 3 rfl (Sub.nil _)))) (.cons .here rfl (.cons .here rfl .nil)) ?_;intro k kN kI;clear kI;refine su ?_;refine cn rfl ?_ ?_
  ·intro c9'
   have hk:k < d.cs.length:=by omega
   have hk2:k < e.cs.length:=by omega
   obtain ⟨u,hu⟩:∃ u,d.cs[k]=u:=⟨_,rfl⟩;have hu2:e.cs[k]=u:=by (rw [← hu];congr 1;rw [hsc])
   refine st ?_;refine Ac3 12 Aj0 (.cons .here rfl (.cons .here rfl .nil)) ?_;refine zw 0 ?_;refine zw 1 ?_;refine zw 2 ?_;refine zw 3 ?_;refine zv 4 rfl (Aa7 rfl rfl AU4 (by omega) (by omega) (h1.c.ptrM hk)) ?_;refine zv 5 rfl (Aa9 rfl (fun w hm=>h1.c.loadX (by decide) hm (by simp) Bg6 hk hu)) ?_;refine zw 6 ?_;refine zw 7 ?_;refine zw 8 ?_;refine zw 9 ?_;refine zv 10 rfl (Aa7 rfl rfl AU4 (by omega) (by omega) (h2.c.ptrM hk2)) ?_;refine zv 11 rfl (Aa9 rfl (fun w hm=>h2.c.loadX (by decide) hm (by simp) Bg6 hk2 hu2)) ?_;refine zt ?_;refine zo 12 rfl (Az7 rfl rfl CW6 (Dj6 _ _ _ _ _ _ )) ?_;refine zd ?_;refine st ?_;refine RunC.cond rfl (fun h=>absurd h (by simp)) ?_;intro c10;clear c10;refine st ?_;refine lv (Val.add rfl rfl (IntWalk.i64_in _ ⟨by omega,by omega⟩)) ?_;exact Ac8 (by omega) trivial rfl (zE 15 rfl rfl (zS 2 rfl (zS 3 rfl (Sub.nil _)))) (.cons .here rfl (.cons .here rfl .nil))
  intro c9';refine RunC.exit ?_;refine su ?_;refine Ab0 ?_;refine su ?_;exact Aa4 (.r1 rfl (.tmp rfl)) (by first | rfl | simp)
end Go.Proofs.YtnmkdiagbkkmaaaGreatDoor
namespace Go.Dk
open Go Go.Eng Go.RowKit Go.Pw1 Go.Hp
def firstW (s:Str):Str:=(blanks s []).getD 0 []
def asksX (s:Str):Bool:=decide (firstW s=wFar) || decide (firstW s=wMoved) || decide (firstW s=wHurts) || decide (firstW s=wDeep) || decide (firstW s=wWays) || decide (firstW s=wWhich)
theorem Cs8 (s:Str):(Lib.cut s [32]).1=firstW s:=by
  unfold Lib.cut firstW;rw [Lib.index_one];have hge:=Lib.indexByte_ge s 32
  by_cases h:Lib.indexByte s 32 < 0
  · rw [if_neg (by omega),AL7 h]
    rfl
  · obtain ⟨i,hi⟩:∃ i:Nat,Lib.indexByte s 32=i:=⟨(Lib.indexByte s 32).toNat,by omega⟩
    rw [if_pos (by omega),(AR5 hi).2,hi];rfl
theorem Cy4 {c:Cd} {b b':Bn} {s r:Str} (ha:asksX s=true) (e:lineX c b s = .ok (b',r)):b'=b:=by
  unfold asksX at ha;simp only [Bool.or_eq_true,decide_eq_true_eq] at ha;unfold lineX at e
  split at e
  · cases e
  · split at e
    · cases e
    · rename_i w hw
      obtain ⟨rfl,-⟩:=AX3 hw;have hf:(blanks s []).getD 0 []=firstW s:=rfl;rw [hf] at e
      have hne:firstW s ≠ wBox∧firstW s ≠ wCard:=by
        rcases ha with ((((h | h) | h) | h) | h) | h <;> rw [h] <;> decide
      rw [if_neg hne.1,if_neg hne.2] at e
      have hv:∃ v,verbX (firstW s)=some v∧∀ n b' r,v.does c b n = .ok (b',r)→b'=b:=by
        rcases ha with ((((h | h) | h) | h) | h) | h <;> rw [h]
        · exact ⟨_,rfl,fun n b' r h=>BW7 h⟩
        · exact ⟨_,rfl,fun n b' r h=>Bv7 h⟩
        · exact ⟨_,rfl,fun n b' r h=>Bv8 h⟩
        · exact ⟨_,rfl,fun n b' r h=>BG7 h⟩
        · exact ⟨_,rfl,fun n b' r h=>BG6 h⟩
        · exact ⟨_,rfl,fun n b' r h=>Bv6 h⟩
      obtain ⟨v,hv,hd⟩:=hv;rw [hv] at e;dsimp only at e
      split at e
      · cases e
      · split at e
        · cases e
        · split at e
          · cases e
          · exact hd _ _ _ e
def keptX (c:Cd) (b:Bn) (s:Str):Bool:=decide ((stepX c b s).2.2=0) && !asksX s
theorem CW1 {c:Cd} {b:Bn} {s:Str} (h:keptX c b s=false):(stepX c b s).1=b:=by
  unfold keptX stepX at h;unfold stepX
  cases e:lineX c b s with
  | error k=>rfl
  | ok y =>
    rw [e] at h;simp at h
    exact Cy4 h e
theorem CK5 {c:Cd} {b:Bn} {s:Str} (h:(stepX c b s).2.2 ≠ 0):(stepX c b s).2.1=[]:=by
  unfold stepX at h ⊢
  cases e:lineX c b s with
  | error k=>rfl
  | ok y=>rw [e] at h;exact absurd rfl h
def playX (c:Cd):Bn→List Str→Bn×List Str
  | b,[]=>(b,[])
  | b,s::l=>((playX c (stepX c b s).1 l).1,echoX (stepX c b s).2.1 (stepX c b s).2.2::(playX c (stepX c b s).1 l).2)
theorem AZ2 (c:Cd):∀ (l:List Str) (b:Bn) (s:Str),playX c b (l++[s])=((stepX c (playX c b l).1 s).1,(playX c b l).2++[echoX (stepX c (playX c b l).1 s).2.1 (stepX c (playX c b l).1 s).2.2])
  | [],b,s=>rfl
  | t::l,b,s=>by
    have ih:=AZ2 c l (stepX c b t).1 s;simp only [List.cons_append,playX,ih]
theorem Bn9 (c:Cd):∀ (l:List Str) (b:Bn),(playX c b l).2.length=l.length
  | [],_=>rfl
  | s::l,b=>by simp only [playX,List.length_cons];rw [Bn9 c l]
end Go.Dk
namespace Go.Proofs.YtnmkdiagbkkmaaaGreatDoor
open Go Go.Eng Go.Dk Go.RowKit Go.Pw1 Go.Hp

theorem Cm5 (w:World):∀ n,Mem w [] [] (w.drewN n):=fun k=>⟨rfl,rfl,rfl,Nat.le_refl _,fun _ _ _=>rfl,fun _ _ h=>(by cases h),fun _ _ h=>(by cases h),by simp⟩
theorem Ca2 (s:Str) (hs:s.length≤100000) (W:World) (hL:Lw Tryz.prog W):Calls Tryz.prog 30 #[.string (bs s),.string (bs [32])] W (Pure (.tuple #[.string (bs (Lib.cut s [32]).1),.string (bs (Lib.cut s [32]).2.1),.bool (Lib.cut s [32]).2.2]) W):=by
  obtain ⟨m,hm⟩:=hL.mx;refine Af6 (Tryz.strings_Cut (bs s) (bs [32]) m W (by show s.length < 4294967281;omega) hm) ?_
  rintro e w' ⟨rfl,n,rfl⟩
  exact ⟨rfl,Cm5 W n⟩
theorem BI1 (s:Str) (hs:s.length≤100000) (W:World) (hL:Lw Tryz.prog W):Calls Tryz.prog 25 #[.string (bs s)] W (Pure (.bool (asksX s)) W):=by
  have hf:=Cs8 s;refine Aa0 Tryz.func25 rfl rfl ?_;refine st ?_;refine zc (zF rfl Ct9) (fun w hm=>Ca2 s hs w (hL.mono hm)) ?_;refine lv (An2 (b:=wFar) rfl rfl) ?_
  refine Ad2 (dj:=14) (dp:=17) 3 rfl (fun g14=>by
    have g14':=g14;try simp only [nH] at g14'
    refine st ?_;refine Ac7 (An2 (b:=wMoved) rfl rfl) rfl rfl rfl ?_;refine sv ?_;exact zs g14
  ) (fun g14=>by
    have g14':=g14;try simp only [nH] at g14'
    refine Ab7 rfl rfl rfl ?_;refine Ab7 rfl rfl rfl ?_;refine sv ?_;exact zs g14
  ) ?_
  refine st ?_
  refine Ad2 (dj:=18) (dp:=21) 3 rfl (fun g18=>by
    have g18':=g18;try simp only [nH] at g18'
    refine st ?_;refine Ac7 (An2 (b:=wHurts) rfl rfl) rfl rfl rfl ?_;refine sv ?_;exact zs g18
  ) (fun g18=>by
    have g18':=g18;try simp only [nH] at g18'
    refine Ab7 rfl rfl rfl ?_;refine Ab7 rfl rfl rfl ?_;refine sv ?_;exact zs g18
  ) ?_
  refine st ?_
  refine Ad2 (dj:=22) (dp:=25) 3 rfl (fun g22=>by
    have g22':=g22;try simp only [nH] at g22'
    refine st ?_;refine Ac7 (An2 (b:=wDeep) rfl rfl) rfl rfl rfl ?_;refine sv ?_;exact zs g22
  ) (fun g22=>by
    have g22':=g22;try simp only [nH] at g22'
    refine Ab7 rfl rfl rfl ?_;refine Ab7 rfl rfl rfl ?_;refine sv ?_;exact zs g22
  ) ?_
  refine st ?_
  refine Ad2 (dj:=26) (dp:=29) 3 rfl (fun g26=>by
    have g26':=g26;try simp only [nH] at g26'
    refine st ?_;refine Ac7 (An2 (b:=wWays) rfl rfl) rfl rfl rfl ?_;refine sv ?_;exact zs g26
  ) (fun g26=>by
    have g26':=g26;try simp only [nH] at g26'
    refine Ab7 rfl rfl rfl ?_;refine Ab7 rfl rfl rfl ?_;refine sv ?_;exact zs g26
  ) ?_
  refine st ?_
  refine Ad2 (dj:=30) (dp:=33) 3 rfl (fun g30=>by
    have g30':=g30;try simp only [nH] at g30'
    refine st ?_;refine Ac7 (An2 (b:=wWhich) rfl rfl) rfl rfl rfl ?_;refine sv ?_;exact zs g30
  ) (fun g30=>by
    have g30':=g30;try simp only [nH] at g30'
    refine Ab7 rfl rfl rfl ?_;refine Ab7 rfl rfl rfl ?_;refine sv ?_;exact zs g30
  ) ?_
  refine su ?_;exact Aa4 (.r1 rfl (.tmp rfl)) (by simp only [hf];rfl)
end Go.Proofs.YtnmkdiagbkkmaaaGreatDoor
namespace Go.Dk
open Go Go.Eng Go.RowKit Go.Pw1 Go.Hp
abbrev RunZ:=Nat×DkX×Eng.Own×List Str
structure RunOk (c:Cd) (l:List Str) (d:DkX) (o:Eng.Own) (t:List Str):Prop where
  dk:DkOk d
  own:OwnOk 1 o t.length (t.map strC).flatten
  pl:playX (bareC c) noBn l=(d.pl,t)
theorem Cj2 (c:Cd):RunOk c [] noDk none []:=⟨BH5,OwnOk.start,rfl⟩
theorem BQ0 {c:Cd} {l:List Str} {d d':DkX} {o o':Eng.Own} {t:List Str} {v r r1:Str} {e:Int} (h:RunOk c l d o t) (hd:DkOk d') (hs:(d'.pl,r,e)=stepX (bareC c) d.pl v) (hr:echoX r e=r1) (ho:OwnOk 1 o' (t.length + 1) ((t.map strC).flatten++strC r1)):RunOk c (l++[v]) d' o' (t++[r1]) :=
  ⟨hd,by rw [List.length_append,List.length_singleton,List.map_append,List.flatten_append];simpa using ho,by
    rw [AZ2,h.pl];dsimp only;rw [← hs,← hr]⟩
end Go.Dk
namespace Go.Proofs.YtnmkdiagbkkmaaaGreatDoor
open Go Go.Eng Go.Dk Go.RowKit Go.Pw1 Go.Hp

set_option maxHeartbeats 2000000 in
theorem CV6 (c:Cd) (q:Option Addr) (b o cap:Nat) (hq:q=none→cap=0) (l:List Str) (ql:Option Addr) (bl ol cl:Nat) (W:World) (hL:Lw Tryz.prog W) (hS:Sl W q b o 9 (c.p.things.map Th.cells)) (hl:c.p.things.length≤1000) (hls:Sl W ql bl ol 1 (l.map strC)) (hln:l.length≤10000) (hlv:∀ s∈l,s.length≤100000) (hc:cardIs c=true) :
    Calls Tryz.prog 26 #[c.v q cap,.slice ql l.length cl] W (Grow W [] (fun z:RunZ=>.tuple #[pV z.1,ownV z.2.2.1 z.2.2.2.length]) (fun z=>(z.1,dkO z.2.1 c)::(ownB 9 z.2.2.1 (z.2.2.2.map strC).flatten++(dkB z.2.1++[]))) (fun z=>RunOk c l z.2.1 z.2.2.1 z.2.2.2)):=by
  have hund:Tryz.prog.underlying 38=some (.pointer 111):=by kernel_rfl
  refine Aa0 Tryz.func26 rfl rfl ?_;refine st ?_;refine zn (New.box rfl) (fun b2=>?_)
  refine Af8 (zF rfl BA6) rfl rfl rfl (fun w hm=>CA2 c q b o cap w (hS.mono (by decide) hm (by simp)) hq (by omega) hc) (fun b15=>?_)
  refine st ?_;refine lv (Aj3 rfl hund) ?_;refine Am9 rfl ?_;refine su ?_;refine Ag9 (X:=DkX×Eng.Own×List Str) (n0:=[(b2,_)]) (l.length) (fun k y q=>(22,.int .i64 (k:Int))::(8,ownV y.2.1 y.2.2.length)::q) (fun _ _=>_) (fun k y=>[(b15,dkO y.1 c)]) (fun k y=>ownB 9 y.2.1 (y.2.2.map strC).flatten++(dkB y.1++[])) (fun k y=>RunOk c (l.take k) y.1 y.2.1 y.2.2) (noDk,none,[]) (Cj2 c) rfl (zE 22 rfl rfl (zE 8 rfl rfl (zS 1 rfl (zS 6 rfl (zS 20 rfl (zS 21 rfl (Sub.nil _))))))) (.cons .here rfl (.cons .here rfl (Pick.same rfl))) ?_;intro k y kN kI;obtain ⟨yd,yo,yl⟩:=y;dsimp only at kI ⊢;have hyl:yl.length≤l.length:=by (have h9:=Bn9 (bareC c) (l.take k) noBn;rw [kI.pl,List.length_take] at h9;dsimp only at h9;omega)
  refine st ?_;refine cn rfl ?_ ?_
  ·intro c1'
   have hk:k < l.length:=by omega
   obtain ⟨v,hv⟩:∃ v,l[k]=v:=⟨_,rfl⟩;have hvm:v∈l:=hv ▸ List.getElem_mem hk;refine st ?_;refine lv (Aa7 rfl rfl Am2 (by omega) (by omega) (hls.ptrM hk)) ?_;refine lv (Aa9 rfl (fun w hm=>Sl.loadM1 hls (by decide) hm (by simp) AC4 hk (v:=.string (bs v)) (by simp [strC,hv]))) ?_;refine Ap4 (zF rfl Cv0) rfl rfl rfl (fun w hm=>(AO7 (nw':=fun z:DkX×Str×Int=>(b15,dkO z.1 c)::(b2,.cells (cellsL (c.v q cap)).toArray 28 (0,0))::(ownB 9 yo (yl.map strC).flatten++(dkB z.1++[]))) (AS2 v (hlv v hvm) b15 yd c ((b2,.cells (cellsL (c.v q cap)).toArray 28 (0,0))::ownB 9 yo (yl.map strC).flatten) W w hL kI.dk (hm.pick (Pick.cnt fun x=>by simp only [nC,List.map_append,List.flatten_append,List.map_cons,List.map_nil,List.flatten_cons,List.flatten_nil,List.append_nil,dkM];omega))) (fun _=>(Pick.cnt fun x=>by simp only [nC,List.map_append,List.flatten_append,List.map_cons,List.map_nil,List.flatten_cons,List.flatten_nil,List.append_nil,dkM];omega)))) (fun z29 hz29=>?_)
   obtain ⟨hzd,hzs⟩:=hz29;have hcod:Cod z29.2.2:=(by have h2:=BP3 kI.dk.sm (bareC c) v;rw [← hzs] at h2;exact h2);have hit:=AD4 hcod.in64;refine st ?_;refine cn rfl ?_ ?_
   ·intro c2'
    have hec:echoX z29.2.1 z29.2.2=([101,114,114,111,114,32]++Lib.itoa z29.2.2):=by (unfold echoX;rw [if_neg (by simpa using c2')];simp [sayX,wError])
    refine st ?_;refine zc (zF rfl Bk0) (fun w hm=>Ax2 z29.2.2 hcod.in64 w (hL.mono hm)) ?_;refine lv (AR7 rfl rfl (by simp;omega)) ?_;refine zn (New.buildSlice (parts:=[(0,.tmp 38)]) rfl Am2 AM1 rfl rfl rfl rfl) (fun b39=>?_)
    refine RunL.append (A:=[(b39,_),(b15,_),(b2,_)]) (B:=_) (x:=yo) (ys:=strC ([101,114,114,111,114,32]++Lib.itoa z29.2.2)) Bs4 rfl rfl rfl kI.own rfl (fun h=>by cases h) (fun w hm=>Aj7 (hm.at (.head _))) (Ao0 rfl) (by simp only [maxLen];omega) (by omega) rfl (fun z40 hz40=>?_)
    refine st ?_;refine lv (Val.add rfl rfl (IntWalk.i64_in _ ⟨by omega,by omega⟩)) ?_;exact Ad1 (z29.1,z40,yl++[([101,114,114,111,114,32]++Lib.itoa z29.2.2)]) (by omega) (by rw [List.take_succ_eq_append_getElem hk,hv];exact BQ0 kI hzd hzs hec hz40) rfl (zE 22 rfl rfl (zE 8 rfl (by simp) (zS 1 rfl (zS 6 rfl (zS 20 rfl (zS 21 rfl (Sub.nil _))))))) (Pick.cnt fun x=>by simp only [nC,List.map_append,List.flatten_append,List.map_cons,List.map_nil,List.flatten_cons,List.flatten_nil,List.append_nil,dkM];omega)
   intro c2';have hec:echoX z29.2.1 z29.2.2=z29.2.1:=by (unfold echoX;rw [if_pos (by simpa using c2')])
   refine st ?_;refine zn (New.buildSlice (parts:=[(0,.tmp 38)]) rfl Am2 AM1 rfl rfl rfl rfl) (fun b39=>?_)
   refine RunL.append (A:=[(b39,_),(b15,_),(b2,_)]) (B:=_) (x:=yo) (ys:=strC z29.2.1) Bs4 rfl rfl rfl kI.own rfl (fun h=>by cases h) (fun w hm=>Aj7 (hm.at (.head _))) (Ao0 rfl) (by simp only [maxLen];omega) (by omega) rfl (fun z40 hz40=>?_)
   refine st ?_;refine lv (Val.add rfl rfl (IntWalk.i64_in _ ⟨by omega,by omega⟩)) ?_;exact Ad1 (z29.1,z40,yl++[z29.2.1]) (by omega) (by rw [List.take_succ_eq_append_getElem hk,hv];exact BQ0 kI hzd hzs hec hz40) rfl (zE 22 rfl rfl (zE 8 rfl (by simp) (zS 1 rfl (zS 6 rfl (zS 20 rfl (zS 21 rfl (Sub.nil _))))))) (Pick.cnt fun x=>by simp only [nC,List.map_append,List.flatten_append,List.map_cons,List.map_nil,List.flatten_cons,List.flatten_nil,List.append_nil,dkM];omega)
  intro c1';have hk:k=l.length:=by omega
  rw [hk,List.take_length] at kI;refine RunC.exit ?_;refine su ?_;refine Ab0 ?_;refine su ?_;exact BE1 (b15,yd,yo,yl) kI (.r2 rfl (.tmp rfl) (.tmp rfl)) rfl (.cons .here rfl (Pick.skip (Pick.refl _)))
end Go.Proofs.YtnmkdiagbkkmaaaGreatDoor
namespace Go.Eng
open Go Go.RowKit
theorem BD8 {P:Program} {ops:Array Oper} {Q:Exit→Act→World→Prop} {n:Nat} {r:Regs} {ds:List Deferred} {W:World} {chg news:Blks} {rest:List Oper} (A X1 Y C:Blks) (hn:news=A++(X1++(Y++C))) (h:RunL P ops Q n rest r ds W chg (A++(Y++(X1++C)))):RunL P ops Q n rest r ds W chg news:=by
  subst hn;exact BD7 (Ac1 _) (Pick.cnt fun x=>by simp only [List.count_append];omega) h
end Go.Eng
namespace Go.Dk
open Go Go.Eng Go.RowKit Go.Pw1 Go.Hp
structure CutOk (c:Cd) (pre:List Str) (d:DkX) (ko ro:Eng.Own) (kl rl:List Str):Prop where
  dk:DkOk d
  o1:OwnOk 1 ko kl.length (kl.map strC).flatten
  o2:OwnOk 1 ro rl.length (rl.map strC).flatten
  pl:playX (bareC c) noBn kl=(d.pl,rl)
  n:kl.length≤pre.length
  s:∀ s∈kl,s∈pre
theorem Cx0 (c:Cd):CutOk c [] noDk none none [] []:=⟨BH5,OwnOk.start,OwnOk.start,rfl,Nat.le_refl _,fun s h=>(by cases h)⟩
theorem CutOk.len {c:Cd} {pre:List Str} {d:DkX} {ko ro:Eng.Own} {kl rl:List Str} (h:CutOk c pre d ko ro kl rl):rl.length=kl.length:=by
  have:=Bn9 (bareC c) kl noBn
  rw [h.pl] at this;exact this
theorem BP4 {o:Eng.Own} {t:List Str} {v:Str} (h:OwnOk 1 o (t.length + 1) ((t.map strC).flatten++strC v)):OwnOk 1 o (t++[v]).length ((t++[v]).map strC).flatten:=by
  rw [List.length_append,List.length_singleton,List.map_append,List.flatten_append];simpa using h
theorem CL3 {c:Cd} {pre:List Str} {d d':DkX} {ko ro ko' ro':Eng.Own} {kl rl:List Str} {v r:Str} {e:Int} (h:CutOk c pre d ko ro kl rl) (hd:DkOk d') (hs:(d'.pl,r,e)=stepX (bareC c) d.pl v) (he:e=0)
    (h1:OwnOk 1 ko' (kl.length + 1) ((kl.map strC).flatten++strC v)) (h2:OwnOk 1 ro' (rl.length + 1) ((rl.map strC).flatten++strC r)):CutOk c (pre++[v]) d' ko' ro' (kl++[v]) (rl++[r]) :=
  ⟨hd,BP4 h1,BP4 h2,by
    rw [AZ2,h.pl];dsimp only;rw [← hs,he];rfl,by simp only [List.length_append,List.length_singleton];have:=h.n;omega,fun s hx=>by
    rcases List.mem_append.1 hx with hx | hx
    · exact List.mem_append_left _ (h.s s hx)
    · exact List.mem_append_right _ hx⟩
theorem BT2 {c:Cd} {pre:List Str} {d d':DkX} {ko ro:Eng.Own} {kl rl:List Str} {v:Str} (h:CutOk c pre d ko ro kl rl) (hd:DkOk d') (hs:d'.pl=d.pl):CutOk c (pre++[v]) d' ko ro kl rl :=
  ⟨hd,h.o1,h.o2,by rw [h.pl,hs],by simp only [List.length_append,List.length_singleton];have:=h.n;omega,fun s hx=>List.mem_append_left _ (h.s s hx)⟩
theorem Ch4 {c:Cd} {d d':DkX} {v r:Str} {e:Int} (hs:(d'.pl,r,e)=stepX c d.pl v) (hk:¬ (e=0∧asksX v=false)):d'.pl=d.pl∧(e ≠ 0→r=[]):=by
  have h1:keptX c d.pl v=false:=by
    unfold keptX;rw [← hs];dsimp only
    cases ha:asksX v with
    | true=>simp
    | false =>
      rw [decide_eq_false (fun h=>hk ⟨h,ha⟩)];rfl
  have h2:=CW1 h1;rw [← hs] at h2;refine ⟨h2,fun he=>?_⟩
  have h3:=CK5 (c:=c) (b:=d.pl) (s:=v) (by rw [← hs];exact he);rw [← hs] at h3;exact h3
end Go.Dk
namespace Go.Proofs.YtnmkdiagbkkmaaaGreatDoor
open Go Go.Eng Go.Dk Go.RowKit Go.Pw1 Go.Hp

theorem AL9 (d e:DkX) (hd:DkOk d) (he:DkOk e) (hpl:d.pl=e.pl) (W:World) (h1:BenA W d) (h2:BenA W e):Calls Tryz.prog 18 #[benV d,benV e] W (Pure (.bool true) W):=by
  rw [CQ6 hd,CQ6 he];exact BM8 d e hd hpl W h1 h2
theorem Cn3 (c:Cd) (q:Option Addr) (b o cap:Nat) (hq:q=none→cap=0) (l:List Str) (ow:Eng.Own) (W:World) (hL:Lw Tryz.prog W) (hS:Sl W q b o 9 (c.p.things.map Th.cells)) (hl:c.p.things.length≤1000) (how:OwnOk 1 ow l.length (l.map strC).flatten) (hls:Sl W (ownQ ow) (ownK ow) 0 1 (l.map strC)) (hln:l.length≤10000) (hlv:∀ s∈l,s.length≤100000) (hc:cardIs c=true) :
    Calls Tryz.prog 26 #[c.v q cap,ownV ow l.length] W (News (fun z:{z:RunZ // RunOk c l z.2.1 z.2.2.1 z.2.2.2}=>.tuple #[pV z.1.1,ownV z.1.2.2.1 z.1.2.2.2.length]) (fun z=>((z.1.1,dkO z.1.2.1 c)::(ownB 9 z.1.2.2.1 (z.1.2.2.2.map strC).flatten++dkB z.1.2.1))++[]) W):=by
  rw [Ad3 how];refine Af6 (CV6 c q b o cap hq l (ownQ ow) (ownK ow) 0 (ownC ow) W hL hS hl hls hln hlv hc) ?_
  rintro e w' ⟨z,hz,rfl,hm⟩
  exact ⟨⟨z,hz⟩,rfl,hm.pick (Pick.cnt fun x=>by simp only [nC];omega)⟩
theorem CI3 (c:Cd) (q:Option Addr) (b o cap:Nat) (hq:q=none→cap=0) (l:List Str) (ql:Option Addr) (bl ol cl:Nat) (W:World) (hL:Lw Tryz.prog W) (hS:Sl W q b o 9 (c.p.things.map Th.cells)) (hls:Sl W ql bl ol 1 (l.map strC)) (h1:farL c l=true):Calls Tryz.prog 6 #[c.v q cap,.slice ql l.length cl] W (Pure (.bool true) W):=by
  refine Aa0 Tryz.func6 rfl rfl ?_;refine st ?_;refine zn (New.box rfl) (fun b2=>?_)
  refine zc (zF rfl BS6) (fun w hm=>AI5 c q cap l ql bl ol cl w (hls.mono (by decide) hm (by simp))) ?_;refine Ag2 (dj:=20) true rfl h1 ?_;refine su ?_;refine RunC.cond rfl ?_ (fun h=>absurd h (by simp))
  intro c0;clear c0;refine st ?_;refine zc (zF rfl BS7) (fun w hm=>Az2 w (hL.mono hm)) ?_;exact Aa4 (.r1 rfl (.tmp rfl)) (by first | rfl | simp)
theorem Ca1 (c:Cd) (q:Option Addr) (b o cap:Nat) (hq:q=none→cap=0) (l:List Str) (ql:Option Addr) (bl ol cl:Nat) (W:World) (hL:Lw Tryz.prog W) (hS:Sl W q b o 9 (c.p.things.map Th.cells)) (hls:Sl W ql bl ol 1 (l.map strC)) (h1:farL c l=false) (h2:heavyC c=true):Calls Tryz.prog 6 #[c.v q cap,.slice ql l.length cl] W (Pure (.bool true) W):=by
  have hl3:=(BJ2 h1).1;refine Aa0 Tryz.func6 rfl rfl ?_;refine st ?_;refine zn (New.box rfl) (fun b2=>?_)
  refine zc (zF rfl BS6) (fun w hm=>AI5 c q cap l ql bl ol cl w (hls.mono (by decide) hm (by simp))) ?_;refine Ag2 (dj:=20) false rfl h1 ?_;refine su ?_;refine zc (zF rfl CW8) (fun w hm=>AG3 c q b o cap w (hS.mono (by decide) hm (by simp)) (by omega)) ?_;refine RunC.cond rfl ?_ (fun h=>absurd h (by simp [h2]))
  intro c0;clear c0;refine st ?_;refine zc (zF rfl BS7) (fun w hm=>Az2 w (hL.mono hm)) ?_;exact Aa4 (.r1 rfl (.tmp rfl)) (by first | rfl | simp)
theorem CV9 (c:Cd) (q:Option Addr) (b o cap:Nat) (hq:q=none→cap=0) (l:List Str) (ql:Option Addr) (bl ol cl:Nat) (W:World) (hL:Lw Tryz.prog W) (hS:Sl W q b o 9 (c.p.things.map Th.cells)) (hls:Sl W ql bl ol 1 (l.map strC)) (h1:farL c l=false) (h2:heavyC c=false) (hc:cardIs c=false):Calls Tryz.prog 6 #[c.v q cap,.slice ql l.length cl] W (Pure (.bool true) W):=by
  have hl3:=(BJ2 h1).1;have hund:Tryz.prog.underlying 38=some (.pointer 111):=by kernel_rfl
  refine Aa0 Tryz.func6 rfl rfl ?_;refine st ?_;refine zn (New.box rfl) (fun b2=>?_)
  refine zc (zF rfl BS6) (fun w hm=>AI5 c q cap l ql bl ol cl w (hls.mono (by decide) hm (by simp))) ?_;refine Ag2 (dj:=20) false rfl h1 ?_;refine su ?_;refine zc (zF rfl CW8) (fun w hm=>AG3 c q b o cap w (hS.mono (by decide) hm (by simp)) (by omega)) ?_;refine RunC.cond rfl (fun h=>absurd h (by simp [h2])) ?_;intro c0;clear c0;refine su ?_;refine zc (zF rfl BA6) (fun w hm=>CR1 c q b o cap w (hS.mono (by decide) hm (by simp)) hq (by omega) hc) ?_;refine AK1 rfl ?_;refine st ?_;refine lv (Aj3 rfl hund) ?_;refine zc (zF rfl BS7) (fun w hm=>Az2 w (hL.mono hm)) ?_;exact Aa4 (.r1 rfl (.tmp rfl)) (by first | rfl | simp)
end Go.Proofs.YtnmkdiagbkkmaaaGreatDoor
namespace Go.Proofs.YtnmkdiagbkkmaaaGreatDoor
open Go Go.Eng
theorem Cu8:Enters Tryz.prog 18:=Aa1 Tryz.func18 (by kernel_rfl) rfl
theorem Dn1:Enters Tryz.prog 25:=Aa1 Tryz.func25 (by kernel_rfl) rfl
theorem Dn0:Enters Tryz.prog 26:=Aa1 Tryz.func26 (by kernel_rfl) rfl
end Go.Proofs.YtnmkdiagbkkmaaaGreatDoor
namespace Go.Proofs.YtnmkdiagbkkmaaaGreatDoor
open Go Go.Eng Go.Dk Go.RowKit Go.Pw1 Go.Hp

set_option maxHeartbeats 4000000 in
theorem CV8 (c:Cd) (q:Option Addr) (b o cap:Nat) (hq:q=none→cap=0) (l:List Str) (ql:Option Addr) (bl ol cl:Nat) (W:World) (hL:Lw Tryz.prog W) (hS:Sl W q b o 9 (c.p.things.map Th.cells)) (hls:Sl W ql bl ol 1 (l.map strC)) (h1:farL c l=false) (h2:heavyC c=false) (hc:cardIs c=true):Calls Tryz.prog 6 #[c.v q cap,.slice ql l.length cl] W (Pure (.bool true) W):=by
  obtain ⟨hl3,hl4,hl5⟩:=BJ2 h1;have hund:Tryz.prog.underlying 38=some (.pointer 111):=by kernel_rfl
  refine Aa0 Tryz.func6 rfl rfl ?_;refine st ?_;refine zn (New.box rfl) (fun b2=>?_)
  refine zc (zF rfl BS6) (fun w hm=>AI5 c q cap l ql bl ol cl w (hls.mono (by decide) hm (by simp))) ?_;refine Ag2 (dj:=20) false rfl h1 ?_;refine su ?_;refine zc (zF rfl CW8) (fun w hm=>AG3 c q b o cap w (hS.mono (by decide) hm (by simp)) (by omega)) ?_;refine RunC.cond rfl (fun h=>absurd h (by simp [h2])) ?_;intro c0;clear c0;refine su ?_;refine Af8 (zF rfl BA6) rfl rfl rfl (fun w hm=>CA2 c q b o cap w (hS.mono (by decide) hm (by simp)) hq (by omega) hc) (fun b27=>?_)
  refine st ?_;refine lv (Aj3 rfl hund) ?_;refine Am9 rfl ?_;refine su ?_;refine Ag9 (X:=DkX×(Eng.Own×Eng.Own)×List Str×List Str) (n0:=[(b2,_)]) (l.length) (fun k y q=>(47,.int .i64 (k:Int))::(7,ownV y.2.1.1 y.2.2.1.length)::(8,ownV y.2.1.2 y.2.2.2.length)::q) (fun _ _=>_) (fun k y=>[(b27,dkO y.1 c)]) (fun k y=>ownB 9 y.2.1.1 (y.2.2.1.map strC).flatten++(ownB 9 y.2.1.2 (y.2.2.2.map strC).flatten++(dkB y.1++[]))) (fun k y=>CutOk c (l.take k) y.1 y.2.1.1 y.2.1.2 y.2.2.1 y.2.2.2) (noDk,(none,none),[],[]) (Cx0 c) rfl (zE 47 rfl rfl (zE 7 rfl rfl (zE 8 rfl rfl (zS 1 rfl (zS 2 rfl (zS 5 rfl (zS 45 rfl (zS 46 rfl (Sub.nil _))))))))) (.cons .here rfl (.cons .here rfl (Pick.same rfl))) ?_;intro k y kN kI;obtain ⟨yd,⟨ko,ro⟩,kl,rl⟩:=y;dsimp only at kI ⊢;have hkn:=kI.n;have hkr:=kI.len;have hkt:(l.take k).length≤l.length:=by (rw [List.length_take];omega)
  refine st ?_;refine cn rfl ?_ ?_
  ·intro c2'
   have hk:k < l.length:=by omega
   obtain ⟨v,hv⟩:∃ v,l[k]=v:=⟨_,rfl⟩;have hvm:v∈l:=hv ▸ List.getElem_mem hk;refine st ?_;refine lv (Aa7 rfl rfl Am2 (by omega) (by omega) (hls.ptrM hk)) ?_;refine lv (Aa9 rfl (fun w hm=>Sl.loadM1 hls (by decide) hm (by simp) AC4 hk (v:=.string (bs v)) (by simp [strC,hv]))) ?_;refine Ak6 [(b27,_),(b2,_)] _ rfl (zF rfl BA5) rfl rfl rfl (fun w hm=>Ax8 b27 yd c kI.dk w (Aj9 kI.dk (hm.pick (news':=dkM b27 yd c []) (Pick.cnt fun x=>by simp only [nC,List.map_append,List.flatten_append,List.map_cons,List.map_nil,List.flatten_cons,List.flatten_nil,List.append_nil,dkM];omega)))) (fun z52=>?_)
   skip
   refine zn (New.alloc Bm2) (fun b11=>?_)
   refine Ab1 (Sto.store (cs:=[.slice none 0 0,.slice none 0 0,.slice none 0 0]) (cs':=[ownV z52.1.v z52.1.vs.length,ownV z52.1.b z52.1.bs.length,ownV z52.1.c z52.1.cs.length]) rfl rfl .here Bt7 rfl (by have h:=AL0 (ownV z52.1.v z52.1.vs.length) (ownV z52.1.b z52.1.bs.length) (ownV z52.1.c z52.1.cs.length) (Ae8 _ _) (Ae8 _ _) (Ae8 _ _);exact h)) rfl rfl ?_;refine st ?_;refine Ap4 (zF rfl Cv0) rfl rfl rfl (fun w hm=>(AO7 (nw':=fun z:DkX×Str×Int=>(b11,.cells [ownV z52.1.v z52.1.vs.length,ownV z52.1.b z52.1.bs.length,ownV z52.1.c z52.1.cs.length].toArray 47 (0,0))::(b27,dkO z.1 c)::(b2,.cells (cellsL (c.v q cap)).toArray 28 (0,0))::(ownB 9 ko (kl.map strC).flatten++(ownB 9 ro (rl.map strC).flatten++(dkB z52.1++(dkB z.1++[]))))) (AS2 v (by have:=hl5 v hvm;omega) b27 yd c ((b11,.cells [ownV z52.1.v z52.1.vs.length,ownV z52.1.b z52.1.bs.length,ownV z52.1.c z52.1.cs.length].toArray 47 (0,0))::(b2,.cells (cellsL (c.v q cap)).toArray 28 (0,0))::(ownB 9 ko (kl.map strC).flatten++(ownB 9 ro (rl.map strC).flatten++dkB z52.1))) W w hL kI.dk (hm.pick (Pick.cnt fun x=>by simp only [nC,List.map_append,List.flatten_append,List.map_cons,List.map_nil,List.flatten_cons,List.flatten_nil,List.append_nil,dkM];omega))) (fun _=>(Pick.cnt fun x=>by simp only [nC,List.map_append,List.flatten_append,List.map_cons,List.map_nil,List.flatten_cons,List.flatten_nil,List.append_nil,dkM];omega)))) (fun z56 hz56=>?_)
   obtain ⟨hzd,hzs⟩:=hz56;refine st ?_
   refine Ab3 (dj:=61) (dp:=65) 4 rfl (fun g61=>by
     have g61':=g61;try simp only [nH] at g61'
     refine st ?_;refine Ac0 (zF rfl Dn1) rfl rfl rfl (fun w hm=>BI1 v (by have:=hl5 v hvm;omega) w (hL.mono hm)) ?_;refine sv ?_;exact zs g61
   ) (fun g61=>by
     have g61':=g61;try simp only [nH] at g61'
     iterate 3 refine Ab7 rfl rfl rfl ?_
     refine sv ?_;exact zs g61
   ) ?_
   refine st ?_;refine cn rfl ?_ ?_
   ·intro c3'
    obtain ⟨he0,hask⟩:=c3';refine st ?_;refine zn (New.buildSlice (parts:=[(0,.tmp 67)]) rfl Am2 AM1 rfl rfl rfl rfl) (fun b68=>?_)
    refine RunL.append (A:=[(b68,_),(b11,_),(b27,_),(b2,_)]) (B:=_) (x:=ko) (ys:=strC v) Bs4 rfl rfl rfl kI.o1 rfl (fun h=>by cases h) (fun w hm=>Aj7 (hm.at (.head _))) (Ao0 rfl) (by simp only [maxLen];omega) (by omega) rfl (fun z69 hz69=>?_)
    refine st ?_;refine zn (New.buildSlice (parts:=[(0,.tmp 71)]) rfl Am2 AM1 rfl rfl rfl rfl) (fun b72=>?_)
    refine BD8 [(b72,_),(b68,_),(b11,_),(b27,_),(b2,_)] _ _ _ rfl ?_;refine RunL.append (A:=[(b72,_),(b68,_),(b11,_),(b27,_),(b2,_)]) (B:=_) (x:=ro) (ys:=strC z56.2.1) Bs4 rfl rfl rfl kI.o2 rfl (fun h=>by cases h) (fun w hm=>Aj7 (hm.at (.head _))) (Ao0 rfl) (by simp only [maxLen];omega) (by omega) rfl (fun z73 hz73=>?_)
    refine st ?_;refine RunC.exit ?_;refine Aj5 ?_;refine Ab0 ?_;refine st ?_;refine lv (Val.add rfl rfl (IntWalk.i64_in _ ⟨by omega,by omega⟩)) ?_;exact Ad1 (z56.1,(z69,z73),kl++[v],rl++[z56.2.1]) (by omega) (by rw [List.take_succ_eq_append_getElem hk,hv];exact CL3 kI hzd hzs he0 hz69 hz73) rfl (zE 47 rfl rfl (zE 7 rfl (by simp) (zE 8 rfl (by simp) (zS 1 rfl (zS 2 rfl (zS 5 rfl (zS 45 rfl (zS 46 rfl (Sub.nil _))))))))) (Pick.cnt fun x=>by simp only [nC,List.map_append,List.flatten_append,List.map_cons,List.map_nil,List.flatten_cons,List.flatten_nil,List.append_nil,dkM];omega)
   intro c3';have hst:=Ch4 hzs (fun h=>by simp_all);refine st ?_;refine Ac3 10 Aj0 (.cons .here rfl (.cons .here rfl (.cons .here rfl (Pick.refl _)))) ?_;refine va 0 rfl (Aa2 rfl) rfl rfl rfl (.cons .here rfl (.cons .here rfl (.cons .here rfl (Pick.refl _)))) rfl ?_;refine va 1 rfl (Aa2 rfl) rfl rfl rfl (.cons .here rfl (.cons .here rfl (.cons .here rfl (Pick.refl _)))) rfl ?_;refine va 2 rfl (Aa2 rfl) rfl rfl rfl (.cons .here rfl (.cons .here rfl (.cons .here rfl (Pick.refl _)))) rfl ?_;refine Ao1 (dj:=76) rfl ?_ ?_
   ·intro g76
    have g76':=g76;clear g76;try simp only [nH] at g76'
    refine va 3 rfl (Aa2 rfl) rfl rfl rfl (.cons .here rfl (.cons .here rfl (.cons .here rfl (Pick.refl _)))) rfl ?_;refine va 4 rfl (Ar5 rfl rfl) rfl rfl rfl (.cons .here rfl (.cons .here rfl (.cons .here rfl (Pick.refl _)))) rfl ?_;refine va 5 rfl (Aa2 rfl) rfl rfl rfl (.cons .here rfl (.cons .here rfl (.cons .here rfl (Pick.refl _)))) rfl ?_;refine va 6 rfl (Aa2 rfl) rfl rfl rfl (.cons .here rfl (.cons .here rfl (.cons .here rfl (Pick.refl _)))) rfl ?_;refine BE3 (dj:=80) false rfl (by first | rfl | (have hr0:=hst.2 (by assumption);simp [hr0])) ?_;refine va 7 rfl (Ag5 rfl (.head _) Bt7 rfl) rfl rfl rfl (.cons .here rfl (.cons .here rfl (.cons .here rfl (Pick.refl _)))) rfl ?_;refine va 8 rfl (Aa2 rfl) rfl rfl rfl (.cons .here rfl (.cons .here rfl (.cons .here rfl (Pick.refl _)))) rfl ?_;refine zA 9 ?_;refine Ap1 [(b11,_),(b27,_),(b2,_)] _ rfl rfl (zF rfl BA5) rfl rfl rfl (fun w hm=>Ax8 b27 z56.1 c hzd w (Aj9 hzd (hm.pick (news':=dkM b27 z56.1 c []) (Pick.cnt fun x=>by simp only [nC,List.map_append,List.flatten_append,List.map_cons,List.map_nil,List.flatten_cons,List.flatten_nil,List.append_nil,dkM];omega)))) (fun z83=>(Aa5 (.cons .here rfl (.cons .here rfl (.cons .here rfl (Pick.cnt fun x=>by simp only [nC,List.map_append,List.flatten_append,List.map_cons,List.map_nil,List.flatten_cons,List.flatten_nil,List.append_nil,dkM];omega)))) (.cons .here rfl (.cons .here rfl (.cons .here rfl (Pick.refl _)))) rfl ?_))
    skip
    refine zt ?_;refine zq 10 rfl (zF rfl Cu8) (fun w hm=>AL9 z52.1 z83.1 z52.2.1 z83.2.1 (by rw [z52.2.2,z83.2.2];exact hst.1.symm) w (Bk9 z52.2.1 (hm.pick (news':=dkB z52.1++[]) (Pick.cnt fun x=>by simp only [nC,List.map_append,List.flatten_append,List.map_cons,List.map_nil,List.flatten_cons,List.flatten_nil,List.append_nil,dkM];omega))) (Bk9 z83.2.1 (hm.pick (news':=dkB z83.1++[]) (Pick.cnt fun x=>by simp only [nC,List.map_append,List.flatten_append,List.map_cons,List.map_nil,List.flatten_cons,List.flatten_nil,List.append_nil,dkM];omega)))) ?_;refine zp 11 ?_;refine zp 12 ?_;refine zd ?_;refine st ?_;refine RunC.cond rfl (fun h=>absurd h (by simp)) ?_;intro c4;clear c4;refine st ?_;refine lv (Val.add rfl rfl (IntWalk.i64_in _ ⟨by omega,by omega⟩)) ?_;exact Ad1 (z56.1,(ko,ro),kl,rl) (by omega) (by rw [List.take_succ_eq_append_getElem hk,hv];exact BT2 kI hzd hst.1) rfl (zE 47 rfl rfl (zE 7 rfl (by simp) (zE 8 rfl (by simp) (zS 1 rfl (zS 2 rfl (zS 5 rfl (zS 45 rfl (zS 46 rfl (Sub.nil _))))))))) (Pick.cnt fun x=>by simp only [nC,List.map_append,List.flatten_append,List.map_cons,List.map_nil,List.flatten_cons,List.flatten_nil,List.append_nil,dkM];omega)
   intro g76;have g76':=g76;clear g76;try simp only [nH] at g76'
   refine Al8 (i:=3) rfl (by kernel_rfl) (by kernel_rfl) rfl rfl rfl (fun _ _ _ h=>h) (.cons .here rfl (.cons .here rfl (.cons .here rfl (Pick.refl _)))) rfl ?_;refine Al8 (i:=4) rfl (by kernel_rfl) (by kernel_rfl) rfl rfl rfl (fun _ _ _ h=>h) (.cons .here rfl (.cons .here rfl (.cons .here rfl (Pick.refl _)))) rfl ?_;refine va 5 rfl (Aa2 rfl) rfl rfl rfl (.cons .here rfl (.cons .here rfl (.cons .here rfl (Pick.refl _)))) rfl ?_;refine va 6 rfl (Aa2 rfl) rfl rfl rfl (.cons .here rfl (.cons .here rfl (.cons .here rfl (Pick.refl _)))) rfl ?_;refine BE3 (dj:=80) false rfl (by first | rfl | (have hr0:=hst.2 (by assumption);simp [hr0])) ?_;refine va 7 rfl (Ag5 rfl (.head _) Bt7 rfl) rfl rfl rfl (.cons .here rfl (.cons .here rfl (.cons .here rfl (Pick.refl _)))) rfl ?_;refine va 8 rfl (Aa2 rfl) rfl rfl rfl (.cons .here rfl (.cons .here rfl (.cons .here rfl (Pick.refl _)))) rfl ?_;refine zA 9 ?_;refine Ap1 [(b11,_),(b27,_),(b2,_)] _ rfl rfl (zF rfl BA5) rfl rfl rfl (fun w hm=>Ax8 b27 z56.1 c hzd w (Aj9 hzd (hm.pick (news':=dkM b27 z56.1 c []) (Pick.cnt fun x=>by simp only [nC,List.map_append,List.flatten_append,List.map_cons,List.map_nil,List.flatten_cons,List.flatten_nil,List.append_nil,dkM];omega)))) (fun z83=>(Aa5 (.cons .here rfl (.cons .here rfl (.cons .here rfl (Pick.cnt fun x=>by simp only [nC,List.map_append,List.flatten_append,List.map_cons,List.map_nil,List.flatten_cons,List.flatten_nil,List.append_nil,dkM];omega)))) (.cons .here rfl (.cons .here rfl (.cons .here rfl (Pick.refl _)))) rfl ?_))
   skip
   refine zt ?_;refine zq 10 rfl (zF rfl Cu8) (fun w hm=>AL9 z52.1 z83.1 z52.2.1 z83.2.1 (by rw [z52.2.2,z83.2.2];exact hst.1.symm) w (Bk9 z52.2.1 (hm.pick (news':=dkB z52.1++[]) (Pick.cnt fun x=>by simp only [nC,List.map_append,List.flatten_append,List.map_cons,List.map_nil,List.flatten_cons,List.flatten_nil,List.append_nil,dkM];omega))) (Bk9 z83.2.1 (hm.pick (news':=dkB z83.1++[]) (Pick.cnt fun x=>by simp only [nC,List.map_append,List.flatten_append,List.map_cons,List.map_nil,List.flatten_cons,List.flatten_nil,List.append_nil,dkM];omega)))) ?_;refine zp 11 ?_;refine zp 12 ?_;refine zd ?_;refine st ?_;refine RunC.cond rfl (fun h=>absurd h (by simp)) ?_;intro c4;clear c4;refine st ?_;refine lv (Val.add rfl rfl (IntWalk.i64_in _ ⟨by omega,by omega⟩)) ?_;exact Ad1 (z56.1,(ko,ro),kl,rl) (by omega) (by rw [List.take_succ_eq_append_getElem hk,hv];exact BT2 kI hzd hst.1) rfl (zE 47 rfl rfl (zE 7 rfl (by simp) (zE 8 rfl (by simp) (zS 1 rfl (zS 2 rfl (zS 5 rfl (zS 45 rfl (zS 46 rfl (Sub.nil _))))))))) (Pick.cnt fun x=>by simp only [nC,List.map_append,List.flatten_append,List.map_cons,List.map_nil,List.flatten_cons,List.flatten_nil,List.append_nil,dkM];omega)
  intro c2';have hk:k=l.length:=by omega
  rw [hk,List.take_length] at kI;refine RunC.exit ?_;refine su ?_;refine Ab0 ?_;refine su ?_;refine Ak6 [(b27,_),(b2,_)] _ rfl (zF rfl Dn0) rfl rfl rfl (fun w hm=>Cn3 c q b o cap hq kl ko w (hL.mono hm) (hS.mono (by decide) hm (by simp)) (by omega) kI.o1 (Ak9 (f:=strC) (e:=9) (fun _=>rfl) (by decide) kI.o1 (fun b o h=>hm.at (.tail _ (.tail _ ((by first | exact List.mem_append_left _ h | exact List.mem_append_right _ (List.mem_append_left _ h))))))) (by have:=kI.n;omega) (fun s hs=>by have:=hl5 s (kI.s s hs);omega) hc) (fun z91=>?_)
  obtain ⟨⟨xb,xd,xo,xl⟩,hxk⟩:=z91;dsimp only at hxk ⊢;have hpp:=hxk.pl;rw [kI.pl] at hpp
  injection hpp with hp1 hp2
  subst hp2;refine st ?_;refine BD7 (Ac1 _) (news':=(xb,dkO xd c)::(b27,dkO yd c)::(b2,.cells (cellsL (c.v q cap)).toArray 28 (0,0))::(ownB 9 xo (rl.map strC).flatten++(ownB 9 ro (rl.map strC).flatten++(dkB xd++(dkB yd++[]))))) (Pick.cnt fun x=>by simp only [nC,List.map_append,List.flatten_append,List.map_cons,List.map_nil,List.flatten_cons,List.flatten_nil,List.append_nil,dkM];omega) ?_;refine st ?_;refine lv (Aj3 rfl hund) ?_;refine lv (Ai7 rfl Am2 hxk.own) ?_;refine lv (Ai7 rfl Am2 kI.o2) ?_;refine Ag2 (dj:=103) false rfl (by simp) ?_;refine st ?_;refine Ak6 [(xb,_),(b27,_),(b2,_)] _ rfl (zF rfl BA5) rfl rfl rfl (fun w hm=>Ax8 xb xd c hxk.dk w (Aj9 hxk.dk (hm.pick (news':=dkM xb xd c []) (Pick.cnt fun x=>by simp only [nC,List.map_append,List.flatten_append,List.map_cons,List.map_nil,List.flatten_cons,List.flatten_nil,List.append_nil,dkM];omega)))) (fun z105=>?_)
  skip
  refine st ?_;refine Ak6 [(xb,_),(b27,_),(b2,_)] _ rfl (zF rfl BA5) rfl rfl rfl (fun w hm=>Ax8 b27 yd c kI.dk w (Aj9 kI.dk (hm.pick (news':=dkM b27 yd c []) (Pick.cnt fun x=>by simp only [nC,List.map_append,List.flatten_append,List.map_cons,List.map_nil,List.flatten_cons,List.flatten_nil,List.append_nil,dkM];omega)))) (fun z107=>?_)
  skip
  refine zc (zF rfl Cu8) (fun w hm=>AL9 z105.1 z107.1 z105.2.1 z107.2.1 (by rw [z105.2.2,z107.2.2];exact hp1.symm) w (Bk9 z105.2.1 (hm.pick (news':=dkB z105.1++[]) (Pick.cnt fun x=>by simp only [nC,List.map_append,List.flatten_append,List.map_cons,List.map_nil,List.flatten_cons,List.flatten_nil,List.append_nil,dkM];omega))) (Bk9 z107.2.1 (hm.pick (news':=dkB z107.1++[]) (Pick.cnt fun x=>by simp only [nC,List.map_append,List.flatten_append,List.map_cons,List.map_nil,List.flatten_cons,List.flatten_nil,List.append_nil,dkM];omega)))) ?_;refine RunC.cond rfl (fun h=>absurd h (by simp)) ?_;intro c5;clear c5;refine st ?_;refine lv (Ai7 rfl Am2 hxk.own) ?_;refine Ad6 (rl.length) (fun j q=>(113,.int .i64 (j:Int))::q) (fun _=>_) (fun _=>[]) (fun _=>True) trivial rfl (zE 113 rfl rfl (zS 8 rfl (zS 15 rfl (zS 112 rfl (Sub.nil _))))) (.cons .here rfl (.cons .here rfl (.cons .here rfl (Pick.refl _)))) ?_;intro j jN jI;clear jI;refine st ?_;refine cn rfl ?_ ?_
  ·intro c6'
   have hj:j < rl.length:=by omega
   obtain ⟨u,hu⟩:∃ u,rl[j]=u:=⟨_,rfl⟩;refine st ?_;refine Ac3 8 Aj0 (.cons .here rfl (.cons .here rfl (.cons .here rfl (Pick.refl _)))) ?_;refine va 0 rfl (Aa2 rfl) rfl rfl rfl (.cons .here rfl (.cons .here rfl (.cons .here rfl (Pick.refl _)))) rfl ?_;refine va 1 rfl (Aa2 rfl) rfl rfl rfl (.cons .here rfl (.cons .here rfl (.cons .here rfl (Pick.refl _)))) rfl ?_;refine va 2 rfl (Aa7 (by show some (ownV xo rl.length)=_;rw [Ad3 hxk.own]) rfl Am2 (by omega) (by omega) (AN1 hxk.own (by omega))) rfl rfl rfl (.cons .here rfl (.cons .here rfl (.cons .here rfl (Pick.refl _)))) rfl ?_;refine va 3 rfl (Aa9 rfl (fun w hm=>Sl.loadM1 (Ak9 (f:=strC) (e:=9) (fun _=>rfl) (by decide) hxk.own (fun b o h=>hm.at (.tail _ (.tail _ (.tail _ ((by first | exact List.mem_append_right _ (List.mem_append_right _ (List.mem_append_left _ h)) | exact List.mem_append_right _ (List.mem_append_right _ (List.mem_append_right _ (List.mem_append_left _ h)))))))))) (by decide) (Mem.refl w) (by simp) AC4 hj (v:=.string (bs u)) (by simp [strC,hu]))) rfl rfl rfl (.cons .here rfl (.cons .here rfl (.cons .here rfl (Pick.refl _)))) rfl ?_;refine va 4 rfl (Aa2 rfl) rfl rfl rfl (.cons .here rfl (.cons .here rfl (.cons .here rfl (Pick.refl _)))) rfl ?_;refine va 5 rfl (Aa2 rfl) rfl rfl rfl (.cons .here rfl (.cons .here rfl (.cons .here rfl (Pick.refl _)))) rfl ?_;refine va 6 rfl (Aa7 (by show some (ownV ro rl.length)=_;rw [Ad3 kI.o2]) rfl Am2 (by omega) (by omega) (AN1 kI.o2 (by omega))) rfl rfl rfl (.cons .here rfl (.cons .here rfl (.cons .here rfl (Pick.refl _)))) rfl ?_;refine va 7 rfl (Aa9 rfl (fun w hm=>Sl.loadM1 (Ak9 (f:=strC) (e:=9) (fun _=>rfl) (by decide) kI.o2 (fun b o h=>hm.at (.tail _ (.tail _ (.tail _ ((by first | exact List.mem_append_right _ (List.mem_append_right _ (List.mem_append_right _ (List.mem_append_left _ h))) | exact List.mem_append_right _ (List.mem_append_right _ (List.mem_append_right _ (List.mem_append_right _ (List.mem_append_left _ h))))))))))) (by decide) (Mem.refl w) (by simp) AC4 hj (v:=.string (bs u)) (by simp [strC,hu]))) rfl rfl rfl (.cons .here rfl (.cons .here rfl (.cons .here rfl (Pick.refl _)))) rfl ?_;refine zt ?_;refine zo 8 rfl (Ar5 rfl rfl) ?_;refine zd ?_;refine st ?_;refine RunC.cond rfl (fun h=>absurd h (by simp)) ?_;intro c7;clear c7;refine st ?_;refine lv (Val.add rfl rfl (IntWalk.i64_in _ ⟨by omega,by omega⟩)) ?_;exact Ac8 (by omega) trivial rfl (zE 113 rfl rfl (zS 8 rfl (zS 15 rfl (zS 112 rfl (Sub.nil _))))) (.cons .here rfl (.cons .here rfl (.cons .here rfl (Pick.refl _))))
  intro c6';refine RunC.exit ?_;refine su ?_;refine Ab0 ?_;refine st ?_;refine zc (zF rfl BS7) (fun w hm=>Az2 w (hL.mono hm)) ?_;exact Aa4 (.r1 rfl (.tmp rfl)) (by first | rfl | simp)
end Go.Proofs.YtnmkdiagbkkmaaaGreatDoor
namespace Go.Proofs.YtnmkdiagbkkmaaaGreatDoor
open Go Go.Eng Go.Pw1

abbrev spSh:Sh:=.st [.int .i64,.int .i64]
abbrev plSh:Sh:=.st [spSh,spSh]
abbrev thSh:Sh:=.st [plSh,plSh,.int .i64]
abbrev prSh:Sh:=.st [spSh,spSh,.int .i64,.int .i64,.int .i64,.sl thSh]
theorem Cj6 {w:World} {cs:List Value} (h:Rd w spSh cs):∃ s:Sp,cs=[.int .i64 s.lo,.int .i64 s.hi]:=by
  cases h with
  | recS h1 h2 =>
    cases h1
    cases h2 with
    | recS h3 h4 =>
      cases h3
      cases h4
      exact ⟨⟨_,_⟩,rfl⟩
theorem Di0 {w:World} {cs:List Value} (h:Rd w plSh cs):∃ s t:Sp,cs=[.int .i64 s.lo,.int .i64 s.hi,.int .i64 t.lo,.int .i64 t.hi]:=by
  cases h with
  | recS h1 h2 =>
    obtain ⟨s,rfl⟩:=Cj6 h1
    cases h2 with
    | recS h3 h4 =>
      obtain ⟨t,rfl⟩:=Cj6 h3
      cases h4
      exact ⟨s,t,rfl⟩
theorem Dp4 {w:World} {cs:List Value} (h:Rd w thSh cs):∃ t:Th,cs=t.cells:=by
  cases h with
  | recS h1 h2 =>
    obtain ⟨a,b,rfl⟩:=Di0 h1
    cases h2 with
    | recS h3 h4 =>
      obtain ⟨c,d,rfl⟩:=Di0 h3
      cases h4 with
      | recS h5 h6 =>
        cases h5
        cases h6
        exact ⟨⟨a,b,c,d,_⟩,rfl⟩
theorem BG4 {α:Type} {f:α→List Value}:∀ {xs:List (List Value)},(∀ x∈xs,∃ a,x=f a)→∃ l:List α,xs=l.map f
  | [],_=>⟨[],rfl⟩
  | x::xs,h=>by
    obtain ⟨a,rfl⟩:=h x (by simp);obtain ⟨l,rfl⟩:=BG4 (xs:=xs) (fun y hy=>h y (List.mem_cons_of_mem _ hy));exact ⟨a::l,rfl⟩
structure In (w:World) (p:Pr) (q:Option Addr) (b o cap:Nat):Prop where
  s:Sl w q b o 9 (p.things.map Th.cells)
  n:q=none→p.things.length=0∧cap=0
theorem Dp5 {w:World} {cs:List Value} (h:Rd w prSh cs):∃ (p:Pr) (q:Option Addr) (b o cap:Nat),cs=p.cells q cap∧In w p q b o cap:=by
  cases h with
  | recS h1 h2 =>
  obtain ⟨f,rfl⟩:=Cj6 h1
  cases h2 with
  | recS h1 h2 =>
  obtain ⟨g,rfl⟩:=Cj6 h1
  cases h2 with
  | recS h1 h2 =>
  cases h1
  cases h2 with
  | recS h1 h2 =>
  cases h1
  cases h2 with
  | recS h1 h2 =>
  cases h1
  cases h2 with
  | recS h1 h2 =>
  cases h2
  cases h1 with
  | slNil=>exact ⟨⟨f,g,_,_,_,[]⟩,none,0,0,0,rfl,⟨Sl.emp,fun _=>⟨rfl,rfl⟩⟩⟩
  | sl hs hl hc hx =>
    obtain ⟨ts,rfl⟩:=BG4 (f:=Th.cells) (fun x hx'=>Dp4 (hx x hx'));exact ⟨⟨f,g,_,_,_,ts⟩,some _,_,_,_,by rw [List.length_map];rfl,⟨hs,fun h=>by cases h⟩⟩
abbrev cdSh:Sh:=.st [prSh,.int .i64,.int .i64,.int .i64,spSh,.int .i64,.int .i64,.int .i64,.int .i64]
theorem Dp7 {w:World} {cs:List Value} (h:Rd w cdSh cs):∃ (c:Cd) (q:Option Addr) (b o cap:Nat),cs=c.cells q cap∧In w c.p q b o cap:=by
  cases h with
  | recS h1 h2 =>
  obtain ⟨p,q,b,o,cap,rfl,hp⟩:=Dp5 h1
  cases h2 with
  | recS h1 h2 =>
  cases h1
  cases h2 with
  | recS h1 h2 =>
  cases h1
  cases h2 with
  | recS h1 h2 =>
  cases h1
  cases h2 with
  | recS h1 h2 =>
  obtain ⟨e,rfl⟩:=Cj6 h1
  cases h2 with
  | recS h1 h2 =>
  cases h1
  cases h2 with
  | recS h1 h2 =>
  cases h1
  cases h2 with
  | recS h1 h2 =>
  cases h1
  cases h2 with
  | recS h1 h2 =>
  cases h1
  cases h2
  exact ⟨⟨p,_,_,_,e,_,_,_,_⟩,q,b,o,cap,rfl,hp⟩
end Go.Proofs.YtnmkdiagbkkmaaaGreatDoor
namespace Go.Eng
open Go Go.RowKit Go.ChangeShapes Go.WideShapes Go.ChangeAt
theorem AQ9 {H:Type} {enc:TypeId×Value→H} {a:Assume} {C:Checked} {os:Os} {f:FuncId} {fn:Func} {s:ChangeSpec} {conds:List PathCond} {apart fresh handsOn again:Bool} {X:World→Array Value→Prop}
    (hX:∀ (w w':World) (args:Array Value),w.heap=w'.heap→X w args→X w' args)
    (own:ownKnob C.prog.godebug=none) (started:os.Started) (noInit:C.prog.inits.idxOf? f=none) (hfn:C.prog.funcs[f]? = some fn)
    (witness:∃ (w:World) (tape:Tape) (i:Input),w.os=os∧(w.forCall tape i).Shaped C.prog∧i.vars=[]∧Input.okWide C.prog (w.forCall tape i) .any w.heap.size f i ∧
      ((s.pre enc C.prog fn conds apart (w.forCall tape i).memory i.args∧X (w.forCall tape i).memory i.args)∧sizedMet enc C.prog fn (OpenSpec.ofChange s) apart (w.forCall tape i).memory i.args)∧a.holds C.prog (lone (Frame.enter C.prog f i.args .normal) [] (w.forCall tape i)))
    (contract:∀ (W:World) (base:Nat) (args:Array Value) (ds gs:List (DataW H)) (before:List MemPlace),
      (∀ (j:Nat) t v,fn.params[j]? = some t→args[j]? = some v→Value.okWide C.prog W .any base t v) →
      DataW.Whole enc C.prog fn.params.toList s.vars apart W args.toList ds gs before→W.ShapedOpen C.prog→X W args →
      Calls C.prog f args W fun e W'=>∃ v,e = .returned v∧s.post enc C.prog fn apart fresh handsOn again W args v W') :
    ReturnsInHanded a C os f .any (fun w args=>(s.pre enc C.prog fn conds apart w args∧X w args)∧sizedMet enc C.prog fn (OpenSpec.ofChange s) apart w args) (s.post enc C.prog fn apart fresh handsOn again):=by
  refine returnsInHanded_of_calls own started noInit witness ?_;intro w tape i _ hsh _ hok hpre hholds;obtain ⟨_,_,_,fn',hfn',_,_,_,_,hval⟩:=hok;have e:fn'=fn:=Option.some.inj (hfn'.symm.trans hfn);subst e;obtain ⟨⟨⟨ds,gs,before,hw,hc⟩,hx⟩,hz⟩:=hpre;have hw':=DataW.Whole.of_heap (w':=w.forCall tape i) (by rfl) hw;refine (contract (w.forCall tape i) w.heap.size i.args ds gs before hval hw' hsh (hX _ _ _ (by rfl) hx)).mono fun e W' ⟨v,he,hp⟩=>?_
  subst he;exact ChangeSpec.post_blind hp
theorem Bo8 {H:Type} {enc:TypeId×Value→H} {P:Program} {f:Func} {s:ChangeSpec} {n:Nat} {shs:List Sh} {tb:TypeId} {F:FuncId} (hl:laidOutB P=true) (hsh:f.params.toList.mapM (shapeB P n)=some shs)
    (hp:f.params.toList.all (fun t=>P.readableRec t && decide (t < P.types.size))=true) (hr:f.resultTypes = #[tb]) (hb:P.underlying tb=some .bool) (hvars:s.vars=[])
    (hfn:∀ ds:List (DataW H),ds.length=f.params.toList.length→s.fn H (ds++[])={ results:=[.lit (.bool true)],args:=ds })
    {W:World} (walk:∀ vs:List Value,RdAll W shs vs→Calls P F vs.toArray W (Pure (.bool true) W)) {base:Nat} {args:Array Value} {ds gs:List (DataW H)} {before:List MemPlace} (hval:∀ (j:Nat) t v,f.params[j]? = some t→args[j]? = some v→Value.okWide P W .any base t v)
    (hW:DataW.Whole enc P f.params.toList s.vars false W args.toList ds gs before) :
    Calls P F args W fun e W'=>∃ v,e = .returned v∧s.post enc P f false true false false W args v W':=by
  have hW':=hW;obtain ⟨p,q,hA,hV,rfl,hfz,hnd⟩:=hW;rw [hvars] at hV;obtain ⟨rfl,rfl⟩:=trodVars_none hV;have hrd:RdAll W shs args.toList:=BQ2 hsh (fun j t v hj hv=>hval j t v (by simpa using hj) (by simpa using hv)) hA
  have hlen:ds.length=f.params.toList.length:=by
    clear hW' hval hrd hfn hp hsh hfz hnd hV
    generalize f.params.toList=ts at hA
    generalize args.toList=vs at hA
    induction ts generalizing vs ds p with
    | nil=>obtain ⟨_,rfl,_⟩:=trodAll_nil hA;rfl
    | cons t ts ih =>
      obtain ⟨v,vs',d,ds',p,q,rfl,rfl,rfl,h0,hr⟩:=trodAll_cons hA;simp [ih _ _ hr]
  refine (walk args.toList hrd).mono fun e W' ⟨he,hm⟩=>?_
  subst he;have bel:=hm.below;refine ⟨_,rfl,ds,[],p++[],[],p,[],hW',?_,?_,?_,bel.frame _,fun h=>by cases h⟩
  · rw [hfn ds hlen,hr]
    exact trodAll_mk1 (shut_bool hb _)
  · rw [hfn ds hlen]
    exact AM4 hl bel hp hA
  · rw [hvars,hfn ds hlen]
    rfl
theorem Bj0 {P:Program} {n nm:String} {d:DataW Unit} {r:List (String×DataW Unit)} {W:World} {g:Nat} {ti:TypeId} {ms:Array (String×TypeId)}
    (h:laidMet P ((n,.iface nm d)::r) W) (hg:P.globalNamed n=some g) (ht:(P.globals[g]?).map (·.type)=some ti) (hi:P.underlying ti=some (.interface ms)):∃ te pe,W.cell? ⟨g,0,none⟩=some (.iface te pe):=by
  obtain ⟨ps,⟨g0,t0,cs0,f0,p0,q0,hg0,ht0,hv0,hd0,_,e0⟩,_,hrows⟩:=h;obtain rfl:=Option.some.inj (hg.symm.trans hg0);obtain rfl:=Option.some.inj (ht.symm.trans ht0);obtain ⟨f',u,v,hcs,_,_⟩:=iface_of_trod hi hd0;have h1:=World.var?_cell hg0 hv0 0
  have e:cs0 = #[.iface u v]:=by
    obtain ⟨l⟩:=cs0;simp only at hcs
    rw [hcs]
  rw [e] at h1;exact ⟨u,v,by simpa using h1⟩
end Go.Eng
namespace Go.Proofs.YtnmkdiagbkkmaaaGreatDoor
open Go Go.Eng Go.Dk Go.RowKit Go.Pw1 Go.Hp

abbrev laidL:List (String×DataW Unit):=[("math/bits.deBruijn32tab",Rows.laid_math_bits_deBruijn32tab),("math/bits.deBruijn64tab",Rows.laid_math_bits_deBruijn64tab),("internal/strconv.uint64pow10",Rows.laid_internal_strconv_uint64pow10),("unicode/utf8.acceptRanges",Rows.laid_unicode_utf8_acceptRanges),("strconv.ErrRange",Rows.laid_strconv_ErrRange),("strconv.ErrSyntax",Rows.laid_strconv_ErrSyntax),("unicode/utf8.first",Rows.laid_unicode_utf8_first)]
theorem Dq8:((begin Tryz.prog (fun _ _=>0) default).world.heap[0]?).bind Obj.row? = some (#[.int .i64 0],3):=by kernel_rfl
theorem Dp9 {W:World} (hsh:W.ShapedOpen Tryz.prog) (hL:laidMetH Tryz.prog laidL W):Lw Tryz.prog W:=by
  rw [MakeChecks.laidMetH_plain _ _ _ (by kernel_rfl)] at hL;have h3:=hL.tail.tail;have h5:=h3.tail.tail;obtain ⟨te,pe,h1⟩:=Bj0 h5 (g:=3) (by kernel_rfl) (by kernel_rfl) Tryz.underlying98;obtain ⟨te2,pe2,h2⟩:=Bj0 h5.tail (g:=2) (by kernel_rfl) (by kernel_rfl) Tryz.underlying98
  exact ⟨cell_of_shapedOpen_int hsh (by decide) Dq8 rfl (by kernel_rfl) (by kernel_rfl) Tryz.underlying3,
    Lib.tabIs_of_head (g:=1) (t:=353) (n:=20) (e:=299) (by kernel_rfl) (by kernel_rfl) (by kernel_rfl) (by kernel_rfl) (by kernel_rfl) (by kernel_rfl) h3,
    ⟨_,h2,.inr ⟨_,_,rfl⟩⟩,⟨_,h1,.inr ⟨_,_,rfl⟩⟩⟩
theorem Co5 (os:Os):(World.holding Tryz.prog os ⟨#[],#[],[]⟩).layFits Tryz.prog laidL []=true:=by kernel_rfl
theorem BI2 (os:Os):(World.holding Tryz.prog os ⟨#[],#[],[]⟩).layIfaces Tryz.prog laidL (World.laidAll Tryz.prog os laidL)=true:=by kernel_rfl
theorem Dh9 {w:World} {cs:List Value} (h:Rd w .str cs):∃ s:Str,cs=strC s:=by
  cases h with
  | @str v=>exact ⟨v.data.toList,rfl⟩
theorem CU1 {w:World} {cs:List Value} (h:Rd w (.sl .str) cs):∃ (l:List Str) (q:Option Addr) (b o cap:Nat),cs=[Value.slice q l.length cap]∧Sl w q b o 1 (l.map strC):=by
  cases h with
  | slNil=>exact ⟨[],none,0,0,0,rfl,Sl.emp⟩
  | @sl _ ad cap2 _ hs hl hc hx =>
    obtain ⟨l,rfl⟩:=BG4 (f:=strC) (fun x hx'=>Dh9 (hx x hx'));exact ⟨l,some ad,_,_,cap2,by rw [List.length_map],hs⟩
end Go.Proofs.YtnmkdiagbkkmaaaGreatDoor
namespace Go.Proofs.YtnmkdiagbkkmaaaGreatDoor
open Go Go.Eng Go.Dk Go.RowKit Go.Pw1 Go.Hp

theorem BB3 (W:World) (vs:List Value) (hL:Lw Tryz.prog W) (h:RdAll W [cdSh,.sl .str] vs):Calls Tryz.prog 6 vs.toArray W (Pure (.bool true) W):=by
  cases h with
  | cons h1 h =>
  cases h with
  | cons h2 h =>
  cases h
  obtain ⟨c,q,b,o,cap,rfl,hp⟩:=Dp7 h1;obtain ⟨l,ql,bl,ol,cl,rfl,hl⟩:=CU1 h2;have hq:q=none→cap=0:=fun h=>(hp.n h).2
  cases hf:farL c l with
  | true=>exact CI3 c q b o cap hq l ql bl ol cl W hL hp.s hl hf
  | false =>
    cases hh:heavyC c with
    | true=>exact Ca1 c q b o cap hq l ql bl ol cl W hL hp.s hl hf hh
    | false =>
      cases hc:cardIs c with
      | true=>exact CV8 c q b o cap hq l ql bl ol cl W hL hp.s hl hf hh hc
      | false=>exact CV9 c q b o cap hq l ql bl ol cl W hL hp.s hl hf hh hc
end Go.Proofs.YtnmkdiagbkkmaaaGreatDoor
