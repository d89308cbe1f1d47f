/- Walks of package desk: a script. Printed by mk_tc.py. -/
import Derived.Test.YtnmkdiagbkkmaabGreatDoorN05
import Derived.Test.YtnmkdiagbkkmaabGreatDoorProg
import Derived.Shelf.Strings.Repeat
import Derived.Shelf.Strings.Replace
import Derived.Test.YtnmkdiagbkkmaabGreatDoorRows
import Derived.Lib.LaidTab
import Derived.Stop.LaidErr
import Derived.MakeChecks
import Derived.Shelf.Vars
import Derived.Handed
import Derived.HandedShaped
import Derived.Lay
set_option linter.unusedSimpArgs false
set_option linter.unusedVariables false
set_option linter.unusedSectionVars false
namespace Go.Dk
open Go Go.Eng Go.RowKit Go.Pw1 Go.Hp
section
variable {c:Cd} {s:Str}
theorem CC2 (h:131072 < s.length):runX c s=([],3):=by unfold runX;rw [if_pos h]
variable (hl:¬ 131072 < s.length)
include hl
theorem CC4 (h1:s ≠ []) (h:Lib.hasSuffix s [10]=false):runX c s=([],8):=by
  unfold runX;rw [if_neg hl,if_pos ⟨h1,fun h2=>by rw [(Ap9 s).2 h2] at h;cases h⟩]
theorem CR1 (h:s=[]∨s.getLast? = some 10) (hc:cardIs c=false):runX c s=([],1):=by
  unfold runX;rw [if_neg hl,if_neg (fun h2=>h.elim h2.1 h2.2),if_neg (by show ¬ cardIs c=true;rw [hc];decide)]
theorem Dd1 (h:s=[]∨s.getLast? = some 10) (hc:cardIs c=true):runX c s=((runL (bareC c) noBn ((linesL s).map trimL)).2,0):=by
  unfold runX;rw [if_neg hl,if_neg (fun h2=>h.elim h2.1 h2.2),if_pos (by exact hc),Cl5 h]
end
theorem Cs4 {s:Str} (h:¬ (s ≠ []∧Lib.hasSuffix s [10]=false)):s=[]∨s.getLast? = some 10:=by
  by_cases h0:s=[]
  · exact .inl h0
  · exact .inr ((Ap9 s).1 (by cases e:Lib.hasSuffix s [10] with
      | true=>rfl
      | false=>exact absurd ⟨h0,e⟩ h))
abbrev RuX:=DkX×Value×Eng.Own×Str
structure RuOk (c:Cd) (b7:Nat) (pre:List Str) (x:RuX):Prop where
  d:DkOk x.1
  p:BuP b7 x.2.1
  o:OwnOk 1 x.2.2.1 x.2.2.2.length (byc x.2.2.2)
  e:x.2.2.1=none∨x.2.2.2 ≠ []
  r:runL (bareC c) noBn (pre.map trimL)=(x.1.pl,x.2.2.2)
  n:x.2.2.2.length≤4001 * pre.length
theorem Dd7 {x:Eng.Own} {l:Str} {xs:List Value} (ho:OwnOk 1 x l.length xs) (h:x=none∨l ≠ []):ownQ x=none∨ownC x ≠ 0:=by
  match x,h,ho with
  | none,_,_=>exact .inl rfl
  | some (b,c,r),h,ho =>
    refine .inr ?_;have h1:=List.length_pos_iff.2 (h.resolve_left (by simp));have h2:=(ho.cap b c r rfl).1
    show c ≠ 0
    omega
theorem CQ9 (c:Cd) {d d':DkX} {l:List Str} {v:Str} {t r:Str} {e:Int} (h:runL c noBn l=(d.pl,t)) (hz:(d'.pl,r,e)=stepX c d.pl v):runL c noBn (l++[v])=(d'.pl,t++(echoX r e++[10])):=by
  rw [Bu0,h];dsimp only;rw [← hz]
end Go.Dk
namespace Go.Proofs.YtnmkdiagbkkmaabGreatDoor
open Go Go.Eng Go.Dk Go.RowKit Go.Pw1 Go.Hp

theorem BL8 (s:Str) (W:World):Calls Tryz.prog 51 #[.string (bs s)] W (News (fun b:Nat=>.func (.func 102) #[] #[pV b]) (fun b=>[(b,strO s)]) W):=by
  refine Aa0 Tryz.func51 rfl rfl ?_;refine st ?_;refine zn (New.box rfl) (fun b1=>?_)
  exact RunE.ret (chg:=[]) (.r1 rfl (.tmp rfl)) (fun _ hm=>⟨b1,rfl,hm.pick (.cons .here rfl .nil)⟩)
theorem CK4 (c:Cd) (q:Option Addr) (b o cap:Nat) (s:Str) (W:World) (h:131072 < s.length):Calls Tryz.prog 23 #[c.v q cap,.string (bs s)] W (Pure (.tuple #[.string (bs (runX c s).1),.int .i64 (runX c s).2]) W):=by
  rw [CC2 h];refine Aa0 Tryz.func23 rfl rfl ?_;refine st ?_;refine zn (New.box rfl) (fun b2=>?_)
  refine lv (Ah0 rfl An7) ?_;refine RunC.cond rfl ?_ (fun h=>absurd h (by simp;omega))
  intro c0;clear c0;refine su ?_;exact Aa4 (.r2 rfl (.tmp rfl) (.tmp rfl)) (by first | rfl | simp)
theorem CK5 (c:Cd) (q:Option Addr) (b o cap:Nat) (s:Str) (W:World) (hl:¬ 131072 < s.length) (h1:s ≠ []) (hf:Lib.hasSuffix s [10]=false):Calls Tryz.prog 23 #[c.v q cap,.string (bs s)] W (Pure (.tuple #[.string (bs (runX c s).1),.int .i64 (runX c s).2]) W):=by
  rw [CC4 hl h1 hf];refine Aa0 Tryz.func23 rfl rfl ?_;refine st ?_;refine zn (New.box rfl) (fun b2=>?_)
  refine lv (Ah0 rfl An7) ?_;refine RunC.cond rfl (fun h=>absurd h (by simp;omega)) ?_;intro c0;clear c0;refine st ?_;refine lv (Av6 rfl rfl) ?_
  refine Ab3 (dj:=18) (dp:=22) 4 rfl (fun g18=>by
    have g18':=g18;try simp only [nH] at g18'
    refine st ?_;refine Ab7 (zF rfl Cp8) rfl rfl rfl (fun w hm=>(Aw9 s [10] (by omega) w)) ?_;refine sv ?_;exact zs g18
  ) (fun g18=>by
    have g18':=g18;try simp only [nH] at g18'
    iterate 3 refine Ab8 rfl rfl rfl ?_
    refine sv ?_;exact zs g18
  ) ?_
  refine st ?_;refine RunC.cond rfl ?_ (fun h=>absurd h (by simp [hf,h1]))
  intro c1;clear c1;refine su ?_;exact Aa4 (.r2 rfl (.tmp rfl) (.tmp rfl)) (by first | rfl | simp)
theorem Da4 (c:Cd) (q:Option Addr) (b o cap:Nat) (s:Str) (W:World) (hS:Sl W q b o 9 (c.p.things.map Th.cells)) (hq:q=none→cap=0) (hl:c.p.things.length≤1000) (hL:Lw Tryz.prog W) (hs0:¬ 131072 < s.length) (h:s=[]∨s.getLast? = some 10) (hc:cardIs c=false):Calls Tryz.prog 23 #[c.v q cap,.string (bs s)] W (Pure (.tuple #[.string (bs (runX c s).1),.int .i64 (runX c s).2]) W):=by
  rw [CR1 hs0 h hc];have hsx:s ≠ []→Lib.hasSuffix s [10]=true:=fun h1=>(Ap9 s).2 (h.resolve_left h1)
  refine Aa0 Tryz.func23 rfl rfl ?_;refine st ?_;refine zn (New.box rfl) (fun b2=>?_)
  refine lv (Ah0 rfl An7) ?_;refine RunC.cond rfl (fun h=>absurd h (by simp;omega)) ?_;intro c0;clear c0;refine st ?_;refine lv (Av6 rfl rfl) ?_
  refine Ab3 (dj:=18) (dp:=22) 4 rfl (fun g18=>by
    have g18':=g18;try simp only [nH] at g18'
    refine st ?_;refine Ab7 (zF rfl Cp8) rfl rfl rfl (fun w hm=>(Aw9 s [10] (by omega) w)) ?_;refine sv ?_;exact zs g18
  ) (fun g18=>by
    have g18':=g18;try simp only [nH] at g18'
    iterate 3 refine Ab8 rfl rfl rfl ?_
    refine sv ?_;exact zs g18
  ) ?_
  refine st ?_;refine RunC.cond rfl (fun h=>absurd h (by simp;exact hsx)) ?_;intro c1;clear c1;refine su ?_;refine zc (zF rfl CN9) (fun w hm=>(Dl4 c q b o cap w (hS.mono (by decide) hm (by simp)) hq hl hc)) ?_;refine zn (New.alloc BC7) (fun b6=>?_)
  refine Aa9 (Sto.store rfl rfl .here BT2 rfl rfl) rfl rfl ?_;refine st ?_;refine RunC.cond rfl ?_ (fun h=>absurd h (by simp))
  intro c2;clear c2;refine su ?_;exact Aa4 (.r2 rfl (.tmp rfl) (.tmp rfl)) (by first | rfl | simp)
set_option maxHeartbeats 2000000 in
theorem Dl2 (c:Cd) (q:Option Addr) (b o cap:Nat) (s:Str) (W:World) (hS:Sl W q b o 9 (c.p.things.map Th.cells)) (hq:q=none→cap=0) (hl:c.p.things.length≤1000) (hL:Lw Tryz.prog W) (hsl:s.length≤100000) (h:s=[]∨s.getLast? = some 10) (hc:cardIs c=true):Calls Tryz.prog 23 #[c.v q cap,.string (bs s)] W (Pure (.tuple #[.string (bs (runX c s).1),.int .i64 (runX c s).2]) W):=by
  rw [Dd1 (by omega) h hc];have hsx:s ≠ []→Lib.hasSuffix s [10]=true:=fun h1=>(Ap9 s).2 (h.resolve_left h1)
  have hll:=Bh5 s;refine AD7 (Mem.refl W) Tryz.func23 rfl rfl ?_;refine RunCF.seq ?_;refine Ak4 ?_;refine st ?_;refine zn (New.box rfl) (fun b2=>?_)
  refine RunEF.next ?_;refine RunCF.seq ?_;refine RunCF.block ?_;refine RunCF.seq ?_;refine Ak4 ?_;refine st ?_;refine lv (Ah0 rfl An7) ?_;refine RunEF.next ?_;refine Ak4 ?_;refine RunC.cond rfl (fun h=>absurd h (by simp;omega)) ?_;intro c0;clear c0;refine st ?_;refine lv (Av6 rfl rfl) ?_
  refine Ab3 (dj:=18) (dp:=22) 4 rfl (fun g18=>by
    have g18':=g18;try simp only [nH] at g18'
    refine st ?_;refine Ab7 (zF rfl Cp8) rfl rfl rfl (fun w hm=>(Aw9 s [10] (by omega) w)) ?_;refine sv ?_;exact zs g18
  ) (fun g18=>by
    have g18':=g18;try simp only [nH] at g18'
    iterate 3 refine Ab8 rfl rfl rfl ?_
    refine sv ?_;exact zs g18
  ) ?_
  refine st ?_;refine RunC.cond rfl (fun h=>absurd h (by simp;exact hsx)) ?_;intro c1;clear c1;refine st ?_;refine RunEF.next ?_;refine RunCF.seq ?_;refine Ak4 ?_;refine su ?_;refine Ag3 (zF rfl CN9) rfl rfl rfl (fun w hm=>(Dl3 c q b o cap w (hS.mono (by decide) hm (by simp)) hq hl hc)) (fun b25=>?_)
  refine st ?_;refine zn (New.alloc BC7) (fun b6=>?_)
  refine Aa9 (Sto.store rfl rfl .here BT2 rfl rfl) rfl rfl ?_;refine st ?_;refine RunEF.next ?_;refine RunCF.seq ?_;refine RunCF.seq ?_;refine Ak4 ?_;refine st ?_;refine RunEF.next ?_;refine Ak4 ?_;refine RunC.cond rfl (fun h=>absurd h (by simp)) ?_;intro c2;clear c2;refine st ?_;refine RunEF.next ?_;refine RunCF.seq ?_;refine Ak4 ?_;refine st ?_;refine zn (New.alloc CO6) (fun b7=>?_)
  refine RunEF.next ?_;refine RunCF.seq ?_;refine RunCF.seq ?_;refine Ak4 ?_;refine st ?_;refine Ag3 (zF rfl Di2) rfl rfl rfl (fun w hm=>(BL8 s w)) (fun b32=>?_)
  refine st ?_;refine RunEF.next ?_;refine RunCF.block ?_;refine RunCF.range Tryz.func23 (α:=Str) (X:=RuX) (enc:=fun x=>.string (bs x)) (eb:=fun _=>[]) (itb:=[(b32,strO s)]) (mis:=dmis) (S:=fun xs=>xs=linesL s) (Sp:=fun xs=>xs <+: linesL s) (Sq:=fun _ _=>False) (N:=s.length + 1) (fun x=>(b6,.cells (cellsL (pV b25)).toArray 33 (0,0))::(b25,dkO x.1 c)::(b7,buO x.2.1 x.2.2.1 x.2.2.2.length)::(dkB x.1++ownB 5 x.2.2.1 (byc x.2.2.2))) (fun pre x=>RuOk c b7 pre x) (fun _ _=>False) (fun _ _=>False) (noDk,.pointer none,none,[]) ⟨BF5,.inl rfl,OwnOk.start,.inl rfl,rfl,Nat.zero_le _⟩ ([]) (.cons (.there (.there .here)) rfl (.cons (.there (.there .here)) rfl (.cons (.there .here) rfl (.cons .here rfl .nil)))) rfl CZ4 (CS7 s hsl b32 W) rfl rfl (fun _=>rfl) rfl rfl rfl ?_ ?_ ?_ ?_ ?_
  ·intro l D ob pre v x tl hI hsp hlen
   obtain ⟨xd,xp,xo,xl⟩:=x;obtain ⟨hxd,hxp,hxo,hxe,hxr,hxn⟩:=hI;dsimp only at hxd hxp hxo hxe hxr hxn ⊢;have hvl:v.length≤s.length:=AR2 s v (hsp.subset (by simp));have hpl:pre.length≤s.length:=by (have:=hsp.length_le;simp only [List.length_append,List.length_singleton] at this;omega)
   refine Bk5 (Ac1 _) (news':=(l,ob)::(D,dfrO)::(b6,.cells (cellsL (pV b25)).toArray 33 (0,0))::(b25,dkO xd c)::(b7,buO xp xo xl.length)::(dkB xd++(ownB 5 xo (byc xl)++(tl++[])))) (Pick.cnt fun x=>by simp only [nC,List.length_append,List.length_singleton,List.map_cons,List.map_nil,buB,dfrO,markB,dkM];omega) ?_;refine RunCR.block ?_;refine RunCR.seq ?_;refine Ca8 8 Aj3 (.cons .here rfl (.cons .here rfl (.cons .here rfl (.cons (.there .here) rfl .nil)))) ?_;refine zw 0 ?_;refine zw 1 ?_;refine zA 2 ?_;refine Ab5 rfl (zF rfl Di1) rfl rfl rfl (fun w hm=>(AT0 v [10] (by omega) w)) (Aa7 (.cons .here rfl (.cons .here rfl (.cons .here rfl (.cons (.there .here) rfl .nil)))) (.cons .here rfl (.cons .here rfl (.cons .here rfl (.cons .here rfl .nil)))) rfl ?_)
   refine zA 3 ?_;refine Ca5 rfl (zF rfl Cs0) rfl rfl rfl (fun w hm=>(Bq7 (nw':=fun z:DkX×Str×Int=>(l,ob)::(D,dfrO)::(b6,.cells (cellsL (pV b25)).toArray 33 (0,0))::(b25,dkO z.1 c)::(b7,buO xp xo xl.length)::(dkB z.1++(ownB 5 xo (byc xl)++(tl++[])))) (Cb0 (trimL v) (by have:=Cz7 v;unfold trimL;omega) b25 xd c ((l,ob)::(D,dfrO)::(b6,.cells (cellsL (pV b25)).toArray 33 (0,0))::(b7,buO xp xo xl.length)::(ownB 5 xo (byc xl)++tl)) W w hL hxd (hm.pick (Pick.cnt fun x=>by simp only [nC,List.length_append,List.length_singleton,List.map_cons,List.map_nil,buB,dfrO,markB,dkM];omega))) (fun _=>(Pick.cnt fun x=>by simp only [nC,List.length_append,List.length_singleton,List.map_cons,List.map_nil,buB,dfrO,markB,dkM];omega)))) (fun z38 hz38=>(Aa7 (.cons .here rfl (.cons .here rfl (.cons .here rfl (.cons (.there .here) rfl .nil)))) (.cons .here rfl (.cons .here rfl (.cons .here rfl (.cons .here rfl .nil)))) rfl ?_))
   obtain ⟨hzd,hzs⟩:=hz38;have hrn:=CQ9 (bareC c) hxr hzs;have hcod:Cod z38.2.2:=(by have h2:=CA7 hxd.sm (bareC c) (trimL v);rw [← hzs] at h2;exact h2);have he38:(echoX z38.2.1 z38.2.2).length≤4000:=(by have h1:=CA6 hxd.sm (bareC c) (trimL v);rw [← hzs] at h1;exact CI5 h1 hcod);refine zw 4 ?_;refine zw 5 ?_;refine zw 6 ?_;refine zw 7 ?_;refine zt ?_;refine zp 8 ?_;refine zd ?_;refine RunER.next ?_;refine RunCR.seq ?_;refine RunCR.seq ?_;refine Ac3 ?_;refine st ?_;refine RunER.next ?_;refine RunCR.cond rfl ?_ ?_
   ·intro c3
    have c3':=c3;clear c3;try simp only [nH] at c3'
    have hec:echoX z38.2.1 z38.2.2=sayX wError [z38.2.2]:=by (unfold echoX;rw [if_neg (by simpa using c3')])
    rw [hec] at he38 hrn;refine Ac3 ?_;refine lv (Val.makeInterface rfl Ap0) ?_;refine lv (Val.makeInterface rfl Au0) ?_;refine zn (New.buildSlice (parts:=[(0,.tmp 43),(1,.tmp 45)]) rfl Ao7 Al8 rfl rfl rfl rfl) (fun b46=>?_)
    refine zc (zF rfl Au1) (fun w hm=>Ag2 [.s wError,.n z38.2.2] _ (Am4 wError [_]) b46 w (hL.mono hm) (hm.at (.head _)) (by simp) (by intro p hp;simp only [List.mem_cons,List.not_mem_nil,or_false] at hp;rcases hp with rfl | rfl;exact (show wError.length≤40 by decide);exact hcod.in64) (by simp [Prt.words])) ?_;refine RunER.next ?_;refine Ac3 ?_;refine st ?_;refine lv (AI6 rfl rfl (by simp;omega)) ?_;refine Av8 (zF rfl CN5) rfl rfl rfl (fun w hm=>(Bq7 (nw':=fun y:Eng.Own=>(l,ob)::(D,dfrO)::(b6,.cells (cellsL (pV b25)).toArray 33 (0,0))::(b25,dkO z38.1 c)::(b7,buO (buS b7) y (xl++(sayX wError [z38.2.2]++[10])).length)::(dkB z38.1++(ownB 5 y (byc (xl++(sayX wError [z38.2.2]++[10])))++(tl++[])))) (AS2 b7 xp xo xl (sayX wError [z38.2.2]++[10]) ((l,ob)::(D,dfrO)::(b6,.cells (cellsL (pV b25)).toArray 33 (0,0))::(b25,dkO z38.1 c)::(dkB z38.1++tl)) W w (hm.pick (Pick.cnt fun x=>by simp only [nC,List.length_append,List.length_singleton,List.map_cons,List.map_nil,buB,dfrO,markB,dkM];omega)) hxp hxo (by simp only [List.length_append,List.length_singleton];omega)) (fun _=>(Pick.cnt fun x=>by simp only [nC,List.length_append,List.length_singleton,List.map_cons,List.map_nil,buB,dfrO,markB,dkM];omega)))) (fun z50 hz50=>?_)
    skip
    refine st ?_;exact AQ7 (z38.1,buS b7,z50,xl++(sayX wError [z38.2.2]++[10])) ⟨hzd,.inr rfl,hz50,.inr (by simp),by rw [List.map_append];exact hrn,by simp only [List.length_append,List.length_singleton];omega⟩ (Pick.cnt fun x=>by simp only [nC,List.length_append,List.length_singleton,List.map_cons,List.map_nil,buB,dfrO,markB,dkM];omega)
   intro c3;have c3':=c3;clear c3;try simp only [nH] at c3'
   have hec:echoX z38.2.1 z38.2.2=z38.2.1:=by (unfold echoX;rw [if_pos (by simpa using c3')])
   rw [hec] at he38 hrn;refine RunCR.skip ?_;refine RunER.next ?_;refine Ac3 ?_;refine st ?_;refine lv (AI6 rfl rfl (by simp;omega)) ?_;refine Av8 (zF rfl CN5) rfl rfl rfl (fun w hm=>(Bq7 (nw':=fun y:Eng.Own=>(l,ob)::(D,dfrO)::(b6,.cells (cellsL (pV b25)).toArray 33 (0,0))::(b25,dkO z38.1 c)::(b7,buO (buS b7) y (xl++(z38.2.1++[10])).length)::(dkB z38.1++(ownB 5 y (byc (xl++(z38.2.1++[10])))++(tl++[])))) (AS2 b7 xp xo xl (z38.2.1++[10]) ((l,ob)::(D,dfrO)::(b6,.cells (cellsL (pV b25)).toArray 33 (0,0))::(b25,dkO z38.1 c)::(dkB z38.1++tl)) W w (hm.pick (Pick.cnt fun x=>by simp only [nC,List.length_append,List.length_singleton,List.map_cons,List.map_nil,buB,dfrO,markB,dkM];omega)) hxp hxo (by simp only [List.length_append,List.length_singleton];omega)) (fun _=>(Pick.cnt fun x=>by simp only [nC,List.length_append,List.length_singleton,List.map_cons,List.map_nil,buB,dfrO,markB,dkM];omega)))) (fun z50 hz50=>?_)
   skip
   refine st ?_;exact AQ7 (z38.1,buS b7,z50,xl++(z38.2.1++[10])) ⟨hzd,.inr rfl,hz50,.inr (by simp),by rw [List.map_append];exact hrn,by simp only [List.length_append,List.length_singleton];omega⟩ (Pick.cnt fun x=>by simp only [nC,List.length_append,List.length_singleton,List.map_cons,List.map_nil,buB,dfrO,markB,dkM];omega)
  ·intro D xs x hS hI
   obtain ⟨xd,xp,xo,xl⟩:=x;obtain ⟨hxd,hxp,hxo,hxe,hxr,hxn⟩:=hI;dsimp only at hxd hxp hxo hxe hxr hxn ⊢;subst hS;refine Aj8 (Ac1 _) (news':=(D,dfrO)::(b6,.cells (cellsL (pV b25)).toArray 33 (0,0))::(b25,dkO xd c)::(b7,buO xp xo xl.length)::(dkB xd++(ownB 5 xo (byc xl)++[]))) (Pick.cnt fun x=>by simp only [nC,List.length_append,List.length_singleton,List.map_cons,List.map_nil,buB,dfrO,markB,dkM];omega) ?_;refine st ?_;refine RunEF.next ?_;refine RunCF.seq ?_;refine Ak4 ?_;refine st ?_;refine Av8 (zF rfl Dj5) rfl rfl rfl (fun w hm=>(BZ6 b7 xp xo xl ((D,dfrO)::[]) W w (hm.pick (Pick.cnt fun x=>by simp only [nC,List.length_append,List.length_singleton,List.map_cons,List.map_nil,buB,dfrO,markB,dkM];omega)) hxo (Dd7 hxo hxe))) (fun z51 hz51=>?_)
   skip
   refine st ?_;refine RunEF.next ?_;refine Ak4 ?_;refine RunC.ret ?_;exact Ap4 (news2:=[]) [D] (Pick.cnt fun x=>by simp only [nC,List.length_append,List.length_singleton,List.map_cons,List.map_nil,buB,dfrO,markB,dkM];omega) (.r2 rfl (.tmp rfl) (.tmp rfl)) (fun w hm=>⟨by rw [hxr],hm⟩)
  ·intro D c x hst
   exact hst.elim
  ·intro D c x hp
   exact hp.elim
  intro D k xs x hq hI;exact hq.elim
end Go.Proofs.YtnmkdiagbkkmaabGreatDoor
namespace Go.Dk
open Go Go.Eng Go.Pw1 Go.Hp
def cE:Cd:=⟨⟨⟨9000,9000⟩,⟨65,66⟩,5,2000,100000,[]⟩,3200,50,20,⟨6000,6500⟩,300,900,100,200⟩
theorem Cm1 {c:Cd} {b:Bn} {s:Str} {ws:List Str} (hl:s.length≤200) (h:wordsX s=some (wDeep::ws)) (hn:numsX ws=some [0]) (hr:0 < b.views.length):lineX c b s=deepD c b 0 :=
  AF5 hl h (by decide) (by decide) (show verbX wDeep=some ⟨1,true,fun c b n=>deepD c b (N n 0)⟩ from rfl) hn rfl (fun _=>hr)
theorem Ai0 {c:Cd} {b b' b2:Bn} {s r t:Str} {e:Int} {l:List Str} (h:stepX c b s=(b',r,e)) (h2:runL c b' l=(b2,t)):runL c b (s::l)=(b2,echoX r e++10::t):=by
  unfold runL;rw [h];dsimp only;rw [h2]
def eB0:Bn:=⟨[],⟨[],[]⟩⟩
def eB1:Bn:=⟨[⟨⟨⟨9000,9000⟩,⟨65,66⟩,5,2000,100000,[]⟩,⟨0,0,0,0⟩,false⟩],⟨[],[]⟩⟩
def eB2:Bn:=⟨[⟨⟨⟨9000,9000⟩,⟨65,66⟩,5,2000,100000,[⟨⟨1100,1101⟩,⟨0,0⟩,⟨904,905⟩,⟨0,0⟩,0⟩]⟩,⟨0,0,0,0⟩,false⟩],⟨[],[]⟩⟩
def eB3:Bn:=⟨[⟨⟨⟨9000,9000⟩,⟨65,66⟩,5,2000,100000,[⟨⟨1100,1101⟩,⟨0,0⟩,⟨904,905⟩,⟨0,0⟩,3000⟩]⟩,⟨0,0,0,0⟩,false⟩],⟨[],[]⟩⟩
def eB4:Bn:=⟨[⟨⟨⟨9000,9000⟩,⟨65,66⟩,5,2000,100000,[⟨⟨1100,1101⟩,⟨0,0⟩,⟨904,905⟩,⟨0,0⟩,3000⟩,⟨⟨1050,1050⟩,⟨0,0⟩,⟨990,992⟩,⟨0,0⟩,0⟩]⟩,⟨0,0,0,0⟩,false⟩],⟨[],[]⟩⟩
def eB5:Bn:=⟨[⟨⟨⟨9000,9000⟩,⟨65,66⟩,5,2000,100000,[⟨⟨1100,1101⟩,⟨0,0⟩,⟨904,905⟩,⟨0,0⟩,3000⟩,⟨⟨1050,1050⟩,⟨0,0⟩,⟨990,992⟩,⟨0,0⟩,0⟩]⟩,⟨0,0,0,0⟩,false⟩],⟨[],[]⟩⟩
def eB6:Bn:=⟨[⟨⟨⟨9000,9000⟩,⟨65,66⟩,5,2000,100000,[⟨⟨1100,1101⟩,⟨0,0⟩,⟨904,905⟩,⟨0,0⟩,3000⟩,⟨⟨1050,1050⟩,⟨0,0⟩,⟨990,992⟩,⟨0,0⟩,0⟩,⟨⟨1000,1002⟩,⟨0,0⟩,⟨1005,1006⟩,⟨0,0⟩,0⟩]⟩,⟨0,0,0,0⟩,false⟩],⟨[],[]⟩⟩
def eB7:Bn:=⟨[⟨⟨⟨9000,9000⟩,⟨65,66⟩,5,2000,100000,[⟨⟨1100,1101⟩,⟨0,0⟩,⟨904,905⟩,⟨0,0⟩,3000⟩,⟨⟨1050,1050⟩,⟨0,0⟩,⟨990,992⟩,⟨0,0⟩,0⟩,⟨⟨1000,1002⟩,⟨0,0⟩,⟨1005,1006⟩,⟨0,0⟩,0⟩]⟩,⟨0,0,0,0⟩,false⟩],⟨[],[]⟩⟩
def eB8:Bn:=⟨[⟨⟨⟨9000,9000⟩,⟨65,66⟩,5,2000,100000,[⟨⟨1100,1101⟩,⟨0,0⟩,⟨904,905⟩,⟨0,0⟩,3000⟩,⟨⟨1050,1050⟩,⟨0,0⟩,⟨990,992⟩,⟨0,0⟩,0⟩,⟨⟨1000,1002⟩,⟨0,0⟩,⟨1005,1006⟩,⟨0,0⟩,0⟩]⟩,⟨0,0,0,0⟩,false⟩],⟨[],[]⟩⟩
def eB9:Bn:=⟨[⟨⟨⟨9000,9000⟩,⟨65,66⟩,5,2000,100000,[⟨⟨1100,1101⟩,⟨0,0⟩,⟨904,905⟩,⟨0,0⟩,3000⟩,⟨⟨1050,1050⟩,⟨0,0⟩,⟨990,992⟩,⟨0,0⟩,0⟩,⟨⟨1000,1002⟩,⟨0,0⟩,⟨1005,1006⟩,⟨0,0⟩,0⟩]⟩,⟨2,1,0,3⟩,true⟩],⟨[],[]⟩⟩
def eB10:Bn:=⟨[⟨⟨⟨9000,9000⟩,⟨65,66⟩,5,2000,100000,[⟨⟨1100,1101⟩,⟨0,0⟩,⟨904,905⟩,⟨0,0⟩,3000⟩,⟨⟨1050,1050⟩,⟨0,0⟩,⟨990,992⟩,⟨0,0⟩,0⟩,⟨⟨1000,1002⟩,⟨0,0⟩,⟨1005,1006⟩,⟨0,0⟩,0⟩]⟩,⟨2,1,0,3⟩,true⟩],⟨[],[]⟩⟩
def eB11:Bn:=⟨[⟨⟨⟨9000,9000⟩,⟨65,66⟩,5,2000,100000,[⟨⟨1100,1101⟩,⟨0,0⟩,⟨904,905⟩,⟨0,0⟩,3000⟩,⟨⟨1050,1050⟩,⟨0,0⟩,⟨990,992⟩,⟨0,0⟩,0⟩,⟨⟨1000,1002⟩,⟨0,0⟩,⟨1005,1006⟩,⟨0,0⟩,0⟩]⟩,⟨2,1,0,3⟩,true⟩],⟨[],[]⟩⟩
def eB12:Bn:=⟨[⟨⟨⟨9000,9000⟩,⟨65,66⟩,5,2000,100000,[⟨⟨1100,1101⟩,⟨0,0⟩,⟨904,905⟩,⟨0,0⟩,3000⟩,⟨⟨1050,1050⟩,⟨0,0⟩,⟨990,992⟩,⟨0,0⟩,0⟩,⟨⟨1000,1002⟩,⟨0,0⟩,⟨1005,1006⟩,⟨0,0⟩,0⟩]⟩,⟨2,1,0,3⟩,true⟩],⟨[⟨1,[[102,97,108,108,115],[109,105,108,108],[112,97,115,115]]⟩],[]⟩⟩
def eB13:Bn:=⟨[⟨⟨⟨9000,9000⟩,⟨65,66⟩,5,2000,100000,[⟨⟨1100,1101⟩,⟨0,0⟩,⟨904,905⟩,⟨0,0⟩,3000⟩,⟨⟨1050,1050⟩,⟨0,0⟩,⟨990,992⟩,⟨0,0⟩,0⟩,⟨⟨1000,1002⟩,⟨0,0⟩,⟨1005,1006⟩,⟨0,0⟩,0⟩]⟩,⟨2,1,0,3⟩,true⟩],⟨[⟨1,[[102,97,108,108,115],[109,105,108,108],[112,97,115,115]]⟩,⟨2,[[109,105,108,108],[108,97,107,101]]⟩],[]⟩⟩
def eB14:Bn:=⟨[⟨⟨⟨9000,9000⟩,⟨65,66⟩,5,2000,100000,[⟨⟨1100,1101⟩,⟨0,0⟩,⟨904,905⟩,⟨0,0⟩,3000⟩,⟨⟨1050,1050⟩,⟨0,0⟩,⟨990,992⟩,⟨0,0⟩,0⟩,⟨⟨1000,1002⟩,⟨0,0⟩,⟨1005,1006⟩,⟨0,0⟩,0⟩]⟩,⟨2,1,0,3⟩,true⟩],⟨[⟨1,[[102,97,108,108,115],[109,105,108,108],[112,97,115,115]]⟩,⟨2,[[109,105,108,108],[108,97,107,101]]⟩],[⟨0,[63],[109,105,42]⟩]⟩⟩
def eB15:Bn:=⟨[⟨⟨⟨9000,9000⟩,⟨65,66⟩,5,2000,100000,[⟨⟨1100,1101⟩,⟨0,0⟩,⟨904,905⟩,⟨0,0⟩,3000⟩,⟨⟨1050,1050⟩,⟨0,0⟩,⟨990,992⟩,⟨0,0⟩,0⟩,⟨⟨1000,1002⟩,⟨0,0⟩,⟨1005,1006⟩,⟨0,0⟩,0⟩]⟩,⟨2,1,0,3⟩,true⟩],⟨[⟨1,[[102,97,108,108,115],[109,105,108,108],[112,97,115,115]]⟩,⟨2,[[109,105,108,108],[108,97,107,101]]⟩],[⟨0,[63],[109,105,42]⟩,⟨2,[42],[109,105,108,108]⟩]⟩⟩
def eB16:Bn:=⟨[⟨⟨⟨9000,9000⟩,⟨65,66⟩,5,2000,100000,[⟨⟨1100,1101⟩,⟨0,0⟩,⟨904,905⟩,⟨0,0⟩,3000⟩,⟨⟨1050,1050⟩,⟨0,0⟩,⟨990,992⟩,⟨0,0⟩,0⟩,⟨⟨1000,1002⟩,⟨0,0⟩,⟨1005,1006⟩,⟨0,0⟩,0⟩]⟩,⟨2,1,0,3⟩,true⟩],⟨[⟨1,[[102,97,108,108,115],[109,105,108,108],[112,97,115,115]]⟩,⟨2,[[109,105,108,108],[108,97,107,101]]⟩],[⟨0,[63],[109,105,42]⟩,⟨2,[42],[109,105,108,108]⟩]⟩⟩
theorem eS0:stepX cE eB0 [118,105,101,119]=(eB1,[118,105,101,119,32,48],0):=by kernel_rfl
theorem eS1:stepX cE eB1 [116,104,105,110,103,32,48,32,49,49,48,48,32,49,49,48,49,32,57,48,52,32,57,48,53]=(eB2,[116,104,105,110,103,32,48,32,48],0):=by kernel_rfl
theorem eS2:stepX cE eB2 [109,97,114,107,32,48,32,48,32,51,48,48,48]=(eB3,[109,97,114,107,32,53,56,53,48,48,48,32,53,57,51,57,57,57],0):=by kernel_rfl
theorem eS3:stepX cE eB3 [116,104,105,110,103,32,48,32,49,48,53,48,32,49,48,53,48,32,57,57,48,32,57,57,50]=(eB4,[116,104,105,110,103,32,49,32,48],0):=by kernel_rfl
theorem eS4:stepX cE eB4 [102,97,114,32,48,32,49]=(eB5,[102,97,114,32,57,53,57,49,32,49,48,50,52,49],0):=by kernel_rfl
theorem eS5:stepX cE eB5 [116,104,105,110,103,32,48,32,49,48,48,48,32,49,48,48,50,32,49,48,48,53,32,49,48,48,54]=(eB6,[116,104,105,110,103,32,50,32,50],0):=by kernel_rfl
theorem eS6:stepX cE eB6 [109,111,118,101,100,32,48]=(eB7,[109,111,118,101,100,32,52],0):=by kernel_rfl
theorem eS7:stepX cE eB7 [109,97,114,107,32,48,32,49,32,52,48,48,48]=(eB8,[],4):=by kernel_rfl
theorem eS8:stepX cE eB8 [116,114,105,109,32,48]=(eB9,[116,114,105,109,32,50,32,49,32,48,32,51],0):=by kernel_rfl
theorem eS9:stepX cE eB9 [116,104,105,110,103,32,48,32,48,32,48,32,48,32,48]=(eB10,[],6):=by kernel_rfl
theorem eDl:lineX cE eB10 [100,101,101,112,32,48]=deepD cE eB10 0:=Cm1 (by decide) (show wordsX [100,101,101,112,32,48]=some (wDeep::[[48]]) by kernel_rfl) (show numsX [[48]]=some [0] by kernel_rfl) (by decide)
theorem CI9 {c:Cd} {b:Bn} {i:Nat} {v:Vw} {x y:Int} (hv:b.views.getD i noVw=v) (hu:v.up=true) (h:depthsX (cardV c v) v.cuts=((x,y),0)):deepD c b i = .ok (b,sayX wDeep [x,y]):=by
  unfold deepD;dsimp only;rw [hv,if_neg (by rw [hu];decide),h];rfl
def eV:Vw:=⟨⟨⟨9000,9000⟩,⟨65,66⟩,5,2000,100000,[⟨⟨1100,1101⟩,⟨0,0⟩,⟨904,905⟩,⟨0,0⟩,3000⟩,⟨⟨1050,1050⟩,⟨0,0⟩,⟨990,992⟩,⟨0,0⟩,0⟩,⟨⟨1000,1002⟩,⟨0,0⟩,⟨1005,1006⟩,⟨0,0⟩,0⟩]⟩,⟨2,1,0,3⟩,true⟩
theorem eD4:depthsX (cardV cE eV) eV.cuts=((2956,11700),0):=by rw [BJ7];kernel_rfl
theorem eD5:deepD cE eB10 0 = .ok (eB10,sayX wDeep [2956,11700]):=CI9 (v:=eV) rfl rfl eD4
theorem eD6:sayX wDeep [2956,11700]=[100,101,101,112,32,50,57,53,54,32,49,49,55,48,48]:=by kernel_rfl
theorem CQ0 {c:Cd} {b b':Bn} {s r:Str} (h:lineX c b s = .ok (b',r)):stepX c b s=(b',r,0):=by unfold stepX;rw [h]
theorem Do2:stepX cE eB10 [100,101,101,112,32,48]=(eB11,[100,101,101,112,32,50,57,53,54,32,49,49,55,48,48],0):=CQ0 (by rw [eDl,eD5,eD6];rfl)
theorem Do1:stepX cE eB11 [98,111,120,32,49,32,102,97,108,108,115,32,109,105,108,108,32,112,97,115,115]=(eB12,[98,111,120,32,48],0):=by kernel_rfl
theorem Do0:stepX cE eB12 [98,111,120,32,50,32,109,105,108,108,32,108,97,107,101]=(eB13,[98,111,120,32,49],0):=by kernel_rfl
theorem Dn9:stepX cE eB13 [99,97,114,100,32,48,32,63,32,109,105,42]=(eB14,[99,97,114,100,32,48],0):=by kernel_rfl
theorem Dn8:stepX cE eB14 [99,97,114,100,32,50,32,42,32,109,105,108,108]=(eB15,[99,97,114,100,32,49,32,105,115,32,48,32,49,32,105,115,32,49,32,51],0):=by kernel_rfl
theorem Dn7:stepX cE eB15 [119,104,105,99,104,32,48]=(eB16,[119,104,105,99,104,32,49],0):=by kernel_rfl
def eScript:Str:=[118,105,101,119,10,116,104,105,110,103,32,48,32,49,49,48,48,32,49,49,48,49,32,57,48,52,32,57,48,53,10,109,97,114,107,32,48,32,48,32,51,48,48,48,10,116,104,105,110,103,32,48,32,49,48,53,48,32,49,48,53,48,32,57,57,48,32,57,57,50,10,102,97,114,32,48,32,49,10,116,104,105,110,103,32,48,32,49,48,48,48,32,49,48,48,50,32,49,48,48,53,32,49,48,48,54,10,109,111,118,101,100,32,48,10,109,97,114,107,32,48,32,49,32,52,48,48,48,10,116,114,105,109,32,48,10,116,104,105,110,103,32,48,32,48,32,48,32,48,32,48,10,100,101,101,112,32,48,10,98,111,120,32,49,32,102,97,108,108,115,32,109,105,108,108,32,112,97,115,115,10,98,111,120,32,50,32,109,105,108,108,32,108,97,107,101,10,99,97,114,100,32,48,32,63,32,109,105,42,10,99,97,114,100,32,50,32,42,32,109,105,108,108,10,119,104,105,99,104,32,48,10]
def eSays:Str:=[118,105,101,119,32,48,10,116,104,105,110,103,32,48,32,48,10,109,97,114,107,32,53,56,53,48,48,48,32,53,57,51,57,57,57,10,116,104,105,110,103,32,49,32,48,10,102,97,114,32,57,53,57,49,32,49,48,50,52,49,10,116,104,105,110,103,32,50,32,50,10,109,111,118,101,100,32,52,10,101,114,114,111,114,32,52,10,116,114,105,109,32,50,32,49,32,48,32,51,10,101,114,114,111,114,32,54,10,100,101,101,112,32,50,57,53,54,32,49,49,55,48,48,10,98,111,120,32,48,10,98,111,120,32,49,10,99,97,114,100,32,48,10,99,97,114,100,32,49,32,105,115,32,48,32,49,32,105,115,32,49,32,51,10,119,104,105,99,104,32,49,10]
theorem Dk0:linesX eScript []=[[118,105,101,119],[116,104,105,110,103,32,48,32,49,49,48,48,32,49,49,48,49,32,57,48,52,32,57,48,53],[109,97,114,107,32,48,32,48,32,51,48,48,48],[116,104,105,110,103,32,48,32,49,48,53,48,32,49,48,53,48,32,57,57,48,32,57,57,50],[102,97,114,32,48,32,49],[116,104,105,110,103,32,48,32,49,48,48,48,32,49,48,48,50,32,49,48,48,53,32,49,48,48,54],[109,111,118,101,100,32,48],[109,97,114,107,32,48,32,49,32,52,48,48,48],[116,114,105,109,32,48],[116,104,105,110,103,32,48,32,48,32,48,32,48,32,48],[100,101,101,112,32,48],[98,111,120,32,49,32,102,97,108,108,115,32,109,105,108,108,32,112,97,115,115],[98,111,120,32,50,32,109,105,108,108,32,108,97,107,101],[99,97,114,100,32,48,32,63,32,109,105,42],[99,97,114,100,32,50,32,42,32,109,105,108,108],[119,104,105,99,104,32,48]]:=by kernel_rfl
theorem Do3:(runL cE noBn (linesX eScript [])).2=eSays:=by
  rw [Dk0];have h:=(Ai0 eS0 (Ai0 eS1 (Ai0 eS2 (Ai0 eS3 (Ai0 eS4 (Ai0 eS5 (Ai0 eS6 (Ai0 eS7 (Ai0 eS8 (Ai0 eS9 (Ai0 Do2 (Ai0 Do1 (Ai0 Do0 (Ai0 Dn9 (Ai0 Dn8 (Ai0 Dn7 (show runL cE eB16 []=(eB16,[]) from rfl)))))))))))))))));rw [show noBn=eB0 from rfl];refine (congrArg Prod.snd h).trans ?_;exact (show _=eSays by kernel_rfl)
theorem Dm7:runX cE eScript=(eSays,0):=by
  unfold runX;rw [if_neg (by decide +kernel),if_neg (fun h=>h.2 (by decide +kernel)),if_pos (by decide +kernel),show bareC cE=cE from rfl,Do3]
end Go.Dk
namespace Go.Proofs.YtnmkdiagbkkmaabGreatDoor
open Go Go.Eng
theorem BQ5:Enters Tryz.prog 23:=Aa1 Tryz.func23 (by kernel_rfl) rfl
theorem Dj2:Enters Tryz.prog 27:=Aa1 Tryz.func27 (by kernel_rfl) rfl
theorem Cp7:Enters Tryz.prog 59:=Aa1 Tryz.func59 (by kernel_rfl) rfl
theorem Ci0:placesB Tryz.prog 26=some [(0,2),(2,2),(4,1),(5,1),(6,1),(7,1)]:=by kernel_rfl
theorem Ch9:placesB Tryz.prog 28=some [(0,8),(8,1),(9,1),(10,1),(11,2),(13,1),(14,1),(15,1),(16,1)]:=by kernel_rfl
theorem Cb5:zeroB Tryz.prog 26=some [.int .i64 0,.int .i64 0,.int .i64 0,.int .i64 0,.int .i64 0,.int .i64 0,.int .i64 0,.slice none 0 0]:=by kernel_rfl
end Go.Proofs.YtnmkdiagbkkmaabGreatDoor
namespace Go.Proofs.YtnmkdiagbkkmaabGreatDoor
open Go Go.Eng Go.Dk Go.RowKit Go.Pw1 Go.Hp

theorem AO1 (c:Cd) (q:Option Addr) (b o cap:Nat) (s:Str) (W:World) (hS:Sl W q b o 9 (c.p.things.map Th.cells)) (hq:q=none→cap=0) (hl:c.p.things.length≤1000) (hL:Lw Tryz.prog W) (hs:s.length≤100000∨131072 < s.length) :
    Calls Tryz.prog 23 #[c.v q cap,.string (bs s)] W (Pure (.tuple #[.string (bs (runX c s).1),.int .i64 (runX c s).2]) W):=by
  by_cases h1:131072 < s.length
  · exact CK4 c q b o cap s W h1
  · have hs2:s.length≤100000:=by omega
    by_cases h2:s ≠ []∧Lib.hasSuffix s [10]=false
    · exact CK5 c q b o cap s W h1 h2.1 h2.2
    · cases hc:cardIs c with
      | false=>exact Da4 c q b o cap s W hS hq hl hL h1 (Cs4 h2) hc
      | true=>exact Dl2 c q b o cap s W hS hq hl hL hs2 (Cs4 h2) hc
theorem AK8 (lo hi:Int) (W:World):Calls Tryz.prog 59 #[.int .i64 lo,.int .i64 hi] W (Pure (.agg #[.int .i64 lo,.int .i64 hi]) W):=by
  refine Aa0 Tryz.func59 rfl rfl ?_;refine st ?_;refine zn (New.alloc Ae2) (fun b4=>?_)
  refine lv (Val.build (parts:=[(0,.tmp 5),(1,.tmp 6)]) rfl Ae2 Al9 rfl) ?_;refine Aa9 (Sto.store rfl rfl .here Ag5 rfl rfl) rfl rfl ?_;refine su ?_;exact Aa4 (.r1 rfl (.agg rfl (.head _) Ag5 rfl)) (by first | rfl | simp)
theorem BJ9 (W:World):Calls Tryz.prog 27 #[] W (Pure (cE.v none 0) W):=by
  refine Aa0 Tryz.func27 rfl rfl ?_;refine st ?_;refine zn (New.alloc Bl3) (fun b0=>?_)
  refine zc (zF rfl Cp7) (fun w hm=>AK8 _ _ w) ?_;refine zc (zF rfl Cp7) (fun w hm=>AK8 _ _ w) ?_;refine lv (Val.build (parts:=[(0,.tmp 2),(1,.tmp 3),(2,.const (.int .i64 5)),(3,.const (.int .i64 2000)),(4,.const (.int .i64 100000))]) rfl Cb5 Ci0 rfl) ?_;refine zn (New.alloc Cb5) (fun b1=>?_)
  refine Aa9 (Sto.store rfl rfl .here Bm1 rfl rfl) rfl rfl ?_;refine st ?_;refine Ac4 2 Aj3 (.cons .here rfl (.cons .here rfl .nil)) ?_;refine zw 0 ?_;refine zA 1 ?_;refine Ab5 rfl (zF rfl Cp7) rfl rfl rfl (fun w hm=>AK8 _ _ w) (Aa7 (.cons .here rfl (.cons .here rfl .nil)) (.cons .here rfl (.cons .here rfl .nil)) rfl ?_)
  refine zt ?_;refine zo 2 rfl (Val.build (parts:=[(0,.tmp 5),(1,.const (.int .i64 3200)),(2,.const (.int .i64 50)),(3,.const (.int .i64 20)),(4,.tmp 6),(5,.const (.int .i64 300)),(6,.const (.int .i64 900)),(7,.const (.int .i64 100)),(8,.const (.int .i64 200))]) rfl Bl3 Ch9 rfl) ?_;refine zB 3 ?_;refine Ac0 rfl (Sto.store rfl rfl (.there .here) BD3 rfl rfl) rfl rfl (Ab9 ?_)
  refine zd ?_;refine su ?_;exact Aa4 (.r1 rfl (.agg rfl (.tail _ (.head _)) BD3 rfl)) (by first | rfl | simp)
theorem BY3 (W:World) (hL:Lw Tryz.prog W):Calls Tryz.prog 23 #[cE.v none 0,.string (bs eScript)] W (Pure (.tuple #[.string (bs eSays),.int .i64 0]) W):=by
  have h:=AO1 cE none 0 0 0 eScript W ⟨fun h=>absurd rfl h,fun x hx=>(by cases hx),fun i h=>(by cases h)⟩ (fun _=>rfl) (by decide) hL (.inl (by decide +kernel));rw [Dm7] at h;exact h
theorem BJ0 (t:Str) (ht:t=eSays) (W:World) (hL:Lw Tryz.prog W):Calls Tryz.prog 23 #[cE.v none 0,.string (bs eScript)] W (Pure (.tuple #[.string (bs t),.int .i64 0]) W):=by
  rw [ht];exact BY3 W hL
set_option maxRecDepth 100000 in
theorem AS0 (W:World) (hL:Lw Tryz.prog W):Calls Tryz.prog 9 #[] W (Pure (.bool true) W):=by
  obtain ⟨t,ht⟩:∃ t,t=eSays:=⟨_,rfl⟩;refine Aa0 Tryz.func9 rfl rfl ?_;refine st ?_;refine zc (zF rfl Dj2) (fun w hm=>BJ9 w) ?_;refine zc (zF rfl BQ5) (fun w hm=>BJ0 t ht w (hL.mono hm)) ?_;refine lv (Av7 (a:=t) (b:=eSays) rfl rfl) ?_;refine Af9 (dj:=10) true rfl (by simp [ht]) ?_;refine su ?_;exact Aa4 (.r1 rfl (.tmp rfl)) (by first | rfl | simp)
end Go.Proofs.YtnmkdiagbkkmaabGreatDoor
namespace Go.Proofs
open Go.Shelf
def Tryz.lays105_ren:Go.Shelf.Ren:=⟨fun | 99=>55 | 105=>25 | 165=>56 | 166=>22 | 169=>24 | 170=>57 | 206=>108 | 212=>54 | 240=>49 | 241=>109 | 263=>106 | 264=>107 | 276=>100 | 277=>160 | n=>n,fun | 0=>0 | 3=>3 | 4=>4 | 5=>5 | 9=>9 | 20=>20 | 37=>74 | 46=>115 | 51=>176 | 53=>179 | 70=>73 | 72=>76 | 75=>79 | 76=>80 | 109=>131 | 127=>130 | 146=>177 | 148=>180 | 164=>171 | 80=>83 | n=>n,fun | n=>n⟩
theorem Tryz.lays105:Go.Proofs.Lays.n105 Tryz.prog Tryz.lays105_ren:={
  mixed:=by kernel_rfl
  f99:=Tryz.func55.trans (congrArg some (by kernel_rfl))
  f105:=Tryz.func25.trans (congrArg some (by kernel_rfl))
  f165:=Tryz.func56.trans (congrArg some (by kernel_rfl))
  f166:=Tryz.func22.trans (congrArg some (by kernel_rfl))
  f169:=Tryz.func24.trans (congrArg some (by kernel_rfl))
  f170:=Tryz.func57.trans (congrArg some (by kernel_rfl))
  f206:=Tryz.func108.trans (congrArg some (by kernel_rfl))
  f212:=Tryz.func54.trans (congrArg some (by kernel_rfl))
  f240:=Tryz.func49.trans (congrArg some (by kernel_rfl))
  f241:=Tryz.func109.trans (congrArg some (by kernel_rfl))
  f263:=Tryz.func106.trans (congrArg some (by kernel_rfl))
  f264:=Tryz.func107.trans (congrArg some (by kernel_rfl))
  f276:=Tryz.func100.trans (congrArg some (by kernel_rfl))
  f277:=Tryz.func160.trans (congrArg some (by kernel_rfl))
  t0:=Tryz.underlying0
  a0:=Tryz.isAgg0
  z0:=Tryz.sizeOf0
  v0:=Tryz.zeroValue0
  t3:=Tryz.underlying3
  a3:=Tryz.isAgg3
  z3:=Tryz.sizeOf3
  v3:=Tryz.zeroValue3
  t4:=Tryz.underlying4
  a4:=Tryz.isAgg4
  z4:=Tryz.sizeOf4
  v4:=Tryz.zeroValue4
  t5:=Tryz.underlying5
  a5:=Tryz.isAgg5
  z5:=Tryz.sizeOf5
  v5:=Tryz.zeroValue5
  t9:=Tryz.underlying9
  a9:=Tryz.isAgg9
  z9:=Tryz.sizeOf9
  v9:=Tryz.zeroValue9
  t20:=Tryz.underlying20
  a20:=Tryz.isAgg20
  z20:=Tryz.sizeOf20
  v20:=Tryz.zeroValue20
  t37:=Tryz.underlying74
  a37:=Tryz.isAgg74
  z37:=Tryz.sizeOf74
  v37:=Tryz.zeroValue74
  t46:=Tryz.underlying115
  a46:=Tryz.isAgg115
  z46:=Tryz.sizeOf115
  v46:=Tryz.zeroValue115
  t51:=Tryz.underlying176
  a51:=Tryz.isAgg176
  z51:=Tryz.sizeOf176
  v51:=Tryz.zeroValue176
  t53:=Tryz.underlying179
  a53:=Tryz.isAgg179
  z53:=Tryz.sizeOf179
  v53:=Tryz.zeroValue179
  t70:=Tryz.underlying73
  a70:=Tryz.isAgg73
  z70:=Tryz.sizeOf73
  v70:=Tryz.zeroValue73
  t72:=Tryz.underlying76
  a72:=Tryz.isAgg76
  z72:=Tryz.sizeOf76
  v72:=Tryz.zeroValue76
  t75:=Tryz.underlying79
  a75:=Tryz.isAgg79
  z75:=Tryz.sizeOf79
  v75:=Tryz.zeroValue79
  t76:=Tryz.underlying80
  a76:=Tryz.isAgg80
  z76:=Tryz.sizeOf80
  v76:=Tryz.zeroValue80
  t109:=Tryz.underlying131
  a109:=Tryz.isAgg131
  z109:=Tryz.sizeOf131
  v109:=Tryz.zeroValue131
  t127:=Tryz.underlying130
  a127:=Tryz.isAgg130
  z127:=Tryz.sizeOf130
  v127:=Tryz.zeroValue130
  t146:=Tryz.underlying177
  a146:=Tryz.isAgg177
  z146:=Tryz.sizeOf177
  v146:=Tryz.zeroValue177
  t148:=Tryz.underlying180
  a148:=Tryz.isAgg180
  z148:=Tryz.sizeOf180
  v148:=Tryz.zeroValue180
  t164:=Tryz.underlying171
  a164:=Tryz.isAgg171
  z164:=Tryz.sizeOf171
  v164:=Tryz.zeroValue171 }
theorem Tryz.Builder_Extra_105:Builder.Extra Tryz.prog Tryz.lays105_ren:={
  sizeBuilder:=by kernel_rfl
  liesBuilder:=by kernel_rfl
  t5:=Tryz.underlying5
  a5:=Tryz.isAgg5
  z5:=Tryz.sizeOf5
  v5:=Tryz.zeroValue5
  infoByte:=by kernel_rfl
  cellsByte:=by kernel_rfl
  sizeByte:=by kernel_rfl
  neB5:=by decide }
def Tryz.lays155_ren:Go.Shelf.Ren:=⟨fun | 138=>110 | 143=>48 | 154=>58 | 155=>26 | 165=>56 | 166=>22 | 169=>24 | 195=>161 | 197=>111 | 217=>133 | 218=>162 | 219=>90 | 224=>135 | 225=>134 | 240=>49 | 241=>109 | 260=>163 | 266=>200 | 267=>136 | 276=>100 | 277=>160 | 314=>201 | n=>n,fun | 0=>0 | 3=>3 | 4=>4 | 5=>5 | 9=>9 | 20=>20 | 21=>21 | 37=>74 | 46=>115 | 51=>176 | 70=>73 | 72=>76 | 75=>79 | 76=>80 | 105=>182 | 119=>298 | 127=>130 | 138=>300 | 139=>301 | 146=>177 | 164=>171 | 80=>83 | n=>n,fun | 1=>0 | 3=>4 | 4=>5 | n=>n⟩
theorem Tryz.lays155:Go.Proofs.Lays.n155 Tryz.prog Tryz.lays155_ren:={
  mixed:=by kernel_rfl
  f138:=Tryz.func110.trans (congrArg some (by kernel_rfl))
  f143:=Tryz.func48.trans (congrArg some (by kernel_rfl))
  f154:=Tryz.func58.trans (congrArg some (by kernel_rfl))
  f155:=Tryz.func26.trans (congrArg some (by kernel_rfl))
  f165:=Tryz.func56.trans (congrArg some (by kernel_rfl))
  f166:=Tryz.func22.trans (congrArg some (by kernel_rfl))
  f169:=Tryz.func24.trans (congrArg some (by kernel_rfl))
  f195:=Tryz.func161.trans (congrArg some (by kernel_rfl))
  f197:=Tryz.func111.trans (congrArg some (by kernel_rfl))
  f217:=Tryz.func133.trans (congrArg some (by kernel_rfl))
  f218:=Tryz.func162.trans (congrArg some (by kernel_rfl))
  f219:=Tryz.func90.trans (congrArg some (by kernel_rfl))
  f224:=Tryz.func135.trans (congrArg some (by kernel_rfl))
  f225:=Tryz.func134.trans (congrArg some (by kernel_rfl))
  f240:=Tryz.func49.trans (congrArg some (by kernel_rfl))
  f241:=Tryz.func109.trans (congrArg some (by kernel_rfl))
  f260:=Tryz.func163.trans (congrArg some (by kernel_rfl))
  f266:=Tryz.func200.trans (congrArg some (by kernel_rfl))
  f267:=Tryz.func136.trans (congrArg some (by kernel_rfl))
  f276:=Tryz.func100.trans (congrArg some (by kernel_rfl))
  f277:=Tryz.func160.trans (congrArg some (by kernel_rfl))
  f314:=Tryz.func201.trans (congrArg some (by kernel_rfl))
  t0:=Tryz.underlying0
  a0:=Tryz.isAgg0
  z0:=Tryz.sizeOf0
  v0:=Tryz.zeroValue0
  t3:=Tryz.underlying3
  a3:=Tryz.isAgg3
  z3:=Tryz.sizeOf3
  v3:=Tryz.zeroValue3
  t4:=Tryz.underlying4
  a4:=Tryz.isAgg4
  z4:=Tryz.sizeOf4
  v4:=Tryz.zeroValue4
  t5:=Tryz.underlying5
  a5:=Tryz.isAgg5
  z5:=Tryz.sizeOf5
  v5:=Tryz.zeroValue5
  t9:=Tryz.underlying9
  a9:=Tryz.isAgg9
  z9:=Tryz.sizeOf9
  v9:=Tryz.zeroValue9
  t20:=Tryz.underlying20
  a20:=Tryz.isAgg20
  z20:=Tryz.sizeOf20
  v20:=Tryz.zeroValue20
  t21:=Tryz.underlying21
  a21:=Tryz.isAgg21
  z21:=Tryz.sizeOf21
  v21:=Tryz.zeroValue21
  t37:=Tryz.underlying74
  a37:=Tryz.isAgg74
  z37:=Tryz.sizeOf74
  v37:=Tryz.zeroValue74
  t46:=Tryz.underlying115
  a46:=Tryz.isAgg115
  z46:=Tryz.sizeOf115
  v46:=Tryz.zeroValue115
  t51:=Tryz.underlying176
  a51:=Tryz.isAgg176
  z51:=Tryz.sizeOf176
  v51:=Tryz.zeroValue176
  t70:=Tryz.underlying73
  a70:=Tryz.isAgg73
  z70:=Tryz.sizeOf73
  v70:=Tryz.zeroValue73
  t72:=Tryz.underlying76
  a72:=Tryz.isAgg76
  z72:=Tryz.sizeOf76
  v72:=Tryz.zeroValue76
  t75:=Tryz.underlying79
  a75:=Tryz.isAgg79
  z75:=Tryz.sizeOf79
  v75:=Tryz.zeroValue79
  t76:=Tryz.underlying80
  a76:=Tryz.isAgg80
  z76:=Tryz.sizeOf80
  v76:=Tryz.zeroValue80
  t105:=Tryz.underlying182
  a105:=Tryz.isAgg182
  z105:=Tryz.sizeOf182
  v105:=Tryz.zeroValue182
  t119:=Tryz.underlying298
  a119:=Tryz.isAgg298
  z119:=Tryz.sizeOf298
  t127:=Tryz.underlying130
  a127:=Tryz.isAgg130
  z127:=Tryz.sizeOf130
  v127:=Tryz.zeroValue130
  t138:=Tryz.underlying300
  a138:=Tryz.isAgg300
  z138:=Tryz.sizeOf300
  v138:=Tryz.zeroValue300
  t139:=Tryz.underlying301
  a139:=Tryz.isAgg301
  z139:=Tryz.sizeOf301
  v139:=Tryz.zeroValue301
  t146:=Tryz.underlying177
  a146:=Tryz.isAgg177
  z146:=Tryz.sizeOf177
  v146:=Tryz.zeroValue177
  t164:=Tryz.underlying171
  a164:=Tryz.isAgg171
  z164:=Tryz.sizeOf171
  v164:=Tryz.zeroValue171
  g1:=by kernel_rfl
  g3:=by kernel_rfl
  g4:=by kernel_rfl }
theorem Tryz.Builder_Extra_155:Builder.Extra Tryz.prog Tryz.lays155_ren:={
  sizeBuilder:=by kernel_rfl
  liesBuilder:=by kernel_rfl
  t5:=Tryz.underlying5
  a5:=Tryz.isAgg5
  z5:=Tryz.sizeOf5
  v5:=Tryz.zeroValue5
  infoByte:=by kernel_rfl
  cellsByte:=by kernel_rfl
  sizeByte:=by kernel_rfl
  neB5:=by decide }

theorem Tryz.strings_Repeat (s:ByteArray) (c:Nat) (w:World) (hc:c≤9223372036854775807) (hlen:s.size * c≤140737488355328) :
    Calls Tryz.prog 25 #[.string s,.int .i64 c] w fun e w'=>e = .returned (.string ⟨(Lib.repeatL s.data.toList c).toArray⟩)∧Go.RowKit.Below w.heap.size w w':=Any.strings_Repeat Tryz.lays105 Tryz.Builder_Extra_105 s c w hc hlen
theorem Tryz.strings_ReplaceAll (s old new:ByteArray) (m:Int) (w:World) (hs:s.size < 4294967281) (hm:w.cell? ⟨0,0,none⟩=some (.int .i64 m)) (h1:1≤old.size) (hlen:s.size + Lib.countB s old * new.size≤140737488355328) :
    Calls Tryz.prog 26 #[.string s,.string old,.string new] w fun e w'=>e = .returned (.string ⟨(Lib.replaceAll s.data.toList old.data.toList new.data.toList).toArray⟩)∧Go.RowKit.Below w.heap.size w w':=Any.strings_ReplaceAll Tryz.lays155 Tryz.Builder_Extra_155 s old new m w hs hm h1 hlen
end Go.Proofs
namespace Go.Proofs.YtnmkdiagbkkmaabGreatDoor
open Go Go.Eng
theorem Dj6:Enters Tryz.prog 19:=Aa1 Tryz.func19 (by kernel_rfl) rfl
end Go.Proofs.YtnmkdiagbkkmaabGreatDoor
namespace Go.Proofs.YtnmkdiagbkkmaabGreatDoor
open Go Go.Eng
theorem CZ8:boolB Tryz.prog 4=true:=by kernel_rfl
theorem Dl6:tyB Tryz.prog 62=some (true,13):=by kernel_rfl
instance:Tyc Tryz.prog 62 true 13:=⟨Dl6⟩
end Go.Proofs.YtnmkdiagbkkmaabGreatDoor
namespace Go.Proofs.YtnmkdiagbkkmaabGreatDoor
open Go Go.Eng
theorem CN8:Enters Tryz.prog 11:=Aa1 Tryz.func11 (by kernel_rfl) rfl
theorem Dh2:Enters Tryz.prog 7:=Aa1 Tryz.func7 (by kernel_rfl) rfl
theorem Df6:Enters Tryz.prog 9:=Aa1 Tryz.func9 (by kernel_rfl) rfl
end Go.Proofs.YtnmkdiagbkkmaabGreatDoor
namespace Go.Dk
open Go Go.Eng Go.RowKit Go.Pw1 Go.Hp
theorem De2 (W:World):MOk W noDk.mx:=⟨Sl.emp,fun x hx=>(by cases hx),Sl.emp⟩
end Go.Dk
namespace Go.Proofs.YtnmkdiagbkkmaabGreatDoor
open Go Go.Eng Go.Dk Go.RowKit Go.Pw1 Go.Hp

abbrev zO:Obj:=.cells [.slice none 0 0,.slice none 0 0,.slice none 0 0,.int .i64 0,.int .i64 0,.int .i64 0,.int .i64 0,.int .i64 0,.int .i64 0,.int .i64 0,.slice none 0 0,.int .i64 0,.int .i64 0,.int .i64 0,.int .i64 0,.int .i64 0,.int .i64 0,.int .i64 0,.int .i64 0,.int .i64 0,.bool false].toArray 86 (0,0)
theorem Bd3 (p:Value) (s:Str) (W:World) (hp:p = .pointer none∨∃ zb,p=pV zb∧W.heap[zb]? = some zO):Calls Tryz.prog 12 #[p,.string (bs s)] W (Pure (.tuple #[.string (bs []),.int .i64 13]) W):=by
  have hund:Tryz.prog.underlying 33=some (.pointer 86):=by kernel_rfl
  rcases hp with rfl | ⟨zb,rfl,hz⟩
  · refine Aa0 Tryz.func12 rfl rfl ?_
    refine st ?_;refine zn (New.box rfl) (fun b2=>?_)
    refine zn (New.alloc AL1) (fun b4=>?_)
    refine zn (New.alloc At0) (fun b5=>?_)
    refine lu (Ak3 rfl hund) ?_;refine AJ5 rfl ?_;refine st ?_;refine Aa9 (Sto.store rfl rfl (.there .here) AE3 rfl rfl) rfl rfl ?_;refine Aa9 (Sto.store rfl rfl .here Ag0 rfl rfl) rfl rfl ?_;refine su ?_;exact Aa4 (.r2 rfl (.one rfl (.tail _ (.head _)) AE3 rfl) (.one rfl (.head _) Ag0 rfl)) (by first | rfl | simp)
  · refine Aa0 Tryz.func12 rfl rfl ?_
    refine st ?_;refine zn (New.box rfl) (fun b2=>?_)
    refine zn (New.alloc AL1) (fun b4=>?_)
    refine zn (New.alloc At0) (fun b5=>?_)
    refine lu (Ak3 rfl hund) ?_;refine lv (Aa2 rfl hz (by simp) BT1 rfl) ?_;refine RunC.cond rfl ?_ (fun h=>absurd h (by simp))
    intro c0;clear c0;refine st ?_;refine Aa9 (Sto.store rfl rfl (.there .here) AE3 rfl rfl) rfl rfl ?_;refine Aa9 (Sto.store rfl rfl .here Ag0 rfl rfl) rfl rfl ?_;refine su ?_;exact Aa4 (.r2 rfl (.one rfl (.tail _ (.head _)) AE3 rfl) (.one rfl (.head _) Ag0 rfl)) (by first | rfl | simp)
theorem AS9 (p:Value) (W:World) (hp:p = .pointer none∨∃ zb,p=pV zb∧W.heap[zb]? = some zO):Calls Tryz.prog 11 #[p] W (News (fun z:CloneOf noDk=>benV z.1) (fun z=>dkB z.1++[]) W):=by
  have hund:Tryz.prog.underlying 33=some (.pointer 86):=by kernel_rfl
  rcases hp with rfl | ⟨zb,rfl,hz⟩
  · exact Af3 (Cw6 W) (by rintro e w' ⟨rfl,hm⟩;exact ⟨⟨noDk,BF5,rfl⟩,rfl,hm⟩)
  · refine Aa0 Tryz.func11 rfl rfl ?_
    refine st ?_;refine zn (New.alloc AJ8) (fun b2=>?_)
    refine lv (Ak3 rfl hund) ?_;refine RunC.cond rfl (fun h=>absurd h (by simp)) ?_;intro c0;clear c0;refine su ?_;refine lv (Ag9 rfl hz (by simp) Cd1 rfl) ?_;refine Ah9 (zF rfl CN3) rfl rfl rfl (fun w hm=>AN5 noDk BF5 w Sl.emp (fun x hx=>(by cases hx)) (De2 w)) (fun z10=>?_)
    skip
    refine Aa9 (Sto.store (cs:=[.slice none 0 0,.slice none 0 0,.slice none 0 0]) (cs':=[ownV z10.1.v z10.1.vs.length,ownV z10.1.b z10.1.bs.length,ownV z10.1.c z10.1.cs.length]) rfl rfl .here Bl9 rfl (by have h:=AC4 (ownV z10.1.v z10.1.vs.length) (ownV z10.1.b z10.1.bs.length) (ownV z10.1.c z10.1.cs.length) (Ae3 _ _) (Ae3 _ _) (Ae3 _ _);exact h)) rfl rfl ?_;refine su ?_;exact RunE.ret (chg:=[]) (.r1 rfl (.agg rfl (.head _) Bl9 rfl)) (fun _ hm=>⟨z10,rfl,hm.pick (Pick.skip (Pick.refl _))⟩)
theorem Bj1 (z:CloneOf noDk):z.1.vs.length=0∧z.1.bs.length=0∧z.1.cs.length=0:=by
  obtain ⟨h1,h2,h3⟩:=CL5 z.2.2;exact ⟨h1,h2,by rw [h3];rfl⟩
end Go.Proofs.YtnmkdiagbkkmaabGreatDoor
namespace Go.Lib
theorem replaceK_len (old:List UInt8):∀ (k:Nat) (s:List UInt8),(replaceK old [] k s).length≤s.length
  | 0,s=>Nat.le_refl _
  | k + 1,s=>by
    unfold replaceK
    split
    · exact Nat.le_refl _
    · have ih:=replaceK_len old k (s.drop ((index s old).toNat + old.length))
      simp only [List.length_append,List.length_take,List.length_drop,List.length_nil] at ih ⊢;omega
end Go.Lib
namespace Go.Dk
open Go Go.Eng Go.RowKit Go.Pw1 Go.Hp
def wWaysL:Str:=[119,97,121,115,10]
theorem CR0 {c:Cd} {r:Str} (h:r.length≤1000):runX c (wWaysL++r++[63])=([],8):=by
  unfold runX;have hl:(wWaysL++r++[63]).length=r.length + 6:=by simp only [List.length_append,List.length_singleton];rw [show wWaysL.length=5 from rfl];omega
  rw [if_neg (by omega),if_pos ⟨by simp,by simp⟩]
theorem Cg6 (c:Cd):runX c []=([],if cardIs c=true then 0 else 1):=by
  unfold runX;rw [if_neg (by simp),if_neg (by simp)]
  by_cases h:cardIs c=true
  · rw [if_pos (by exact h),if_pos h];rfl
  · rw [if_neg (by exact h),if_neg h]
theorem CC3 {c:Cd} {t:Str} (h:131072 < t.length):runX c t=([],3):=by unfold runX;rw [if_pos h]
end Go.Dk
namespace Go.Proofs.YtnmkdiagbkkmaabGreatDoor
open Go Go.Eng Go.Dk Go.RowKit Go.Pw1 Go.Hp

theorem BW9 (W:World):∃ t:Str,131072 < t.length∧∀ w,Calls Tryz.prog 25 #[.string (bs [10]),.int .i64 131073] w (Pure (.string (bs t)) w) :=
  ⟨Lib.repeatL [10] 131073,by rw [Lib.repeatL_length];decide,fun w=>Af3 (Tryz.strings_Repeat (bs [10]) 131073 w (by decide) (by decide)) (by rintro e w' ⟨rfl,h⟩;exact ⟨rfl,Mem.of_below h⟩)⟩
theorem BG0 (s:Str) (hs:s.length≤400):∃ r:Str,r.length≤400∧∀ w,Lw Tryz.prog w→Calls Tryz.prog 26 #[.string (bs s),.string (bs [10]),.string (bs [])] w (Pure (.string (bs r)) w):=by
  refine ⟨Lib.replaceAll s [10] [],?_,fun w hL=>?_⟩
  · unfold Lib.replaceAll Lib.replace
    rw [if_neg (by decide)];exact Nat.le_trans (Lib.replaceK_len _ _ _) hs
  · obtain ⟨m,hm⟩:=hL.mx
    exact Af3 (Tryz.strings_ReplaceAll (bs s) (bs [10]) (bs []) m w (by show s.length < 4294967281;omega) hm (by decide) (by show s.length + _ * 0≤_;omega)) (by rintro e w' ⟨rfl,h⟩;exact ⟨rfl,Mem.of_below h⟩)
section
variable (c:Cd) (q:Option Addr) (b o cap:Nat)
theorem BF7 (t:Str) (W:World) (hS:Sl W q b o 9 (c.p.things.map Th.cells)) (hq:q=none→cap=0) (hl:c.p.things.length≤1000) (hL:Lw Tryz.prog W) (ht:131072 < t.length):Calls Tryz.prog 23 #[c.v q cap,.string (bs t)] W (Pure (.tuple #[.string (bs []),.int .i64 3]) W):=by
  have h:=AO1 c q b o cap t W hS hq hl hL (.inr ht);rw [CC3 ht] at h;exact h
theorem BF9 (r:Str) (W:World) (hS:Sl W q b o 9 (c.p.things.map Th.cells)) (hq:q=none→cap=0) (hl:c.p.things.length≤1000) (hL:Lw Tryz.prog W) (hr:r.length≤400):Calls Tryz.prog 23 #[c.v q cap,.string (bs (wWaysL++r++[63]))] W (Pure (.tuple #[.string (bs []),.int .i64 8]) W):=by
  have h:=AO1 c q b o cap (wWaysL++r++[63]) W hS hq hl hL (.inl (by simp only [List.length_append,List.length_singleton];rw [show wWaysL.length=5 from rfl];omega));rw [CR0 (by omega)] at h;exact h
theorem BF8 (W:World) (hS:Sl W q b o 9 (c.p.things.map Th.cells)) (hq:q=none→cap=0) (hl:c.p.things.length≤1000) (hL:Lw Tryz.prog W):Calls Tryz.prog 23 #[c.v q cap,.string (bs [])] W (Pure (.tuple #[.string (bs []),.int .i64 (if cardIs c=true then 0 else 1)]) W):=by
  have h:=AO1 c q b o cap [] W hS hq hl hL (.inl (by decide));rw [Cg6] at h;exact h
end
end Go.Proofs.YtnmkdiagbkkmaabGreatDoor
namespace Go.Dk
open Go Go.Eng Go.Pw1 Go.Hp
structure VwRight (c:Cd) (v:Vw):Prop where
  pw:(powerX v.p).2=0
  s1:v.p.focal=c.p.focal
  s2:v.p.base=c.p.base
  s3:v.p.tilt=c.p.tilt
  s4:v.p.near=c.p.near
  s5:v.p.far=c.p.far
  n:v.p.things.length≤12
  up:v.up=true→(hurtsX (cardV c v) v.cuts).2.2=0
  dn:v.up=false→v.cuts=noTr
structure Right (c:Cd) (b:Bn):Prop where
  v:∀ v∈b.views,VwRight c v
  nv:b.views.length≤4
  nb:b.heap.boxes.length≤4
  nc:b.heap.cards.length≤8
  w:(WhyX b.heap).2=0
variable {c:Cd} {b:Bn}
theorem Right.put (h:Right c b) {i:Nat} {v:Vw} (hv:VwRight c v):Right c (putV b i v) :=
  ⟨fun x hx=>by
    rcases List.mem_or_eq_of_mem_set hx with hx | rfl
    · exact h.v x hx
    · exact hv,by show (b.views.set i v).length≤4;rw [List.length_set];exact h.nv,h.nb,h.nc,h.w⟩
theorem Right.at (h:Right c b) {i:Nat} (hi:i < b.views.length):VwRight c (b.views.getD i noVw):=by
  rw [List.getD_eq_getElem?_getD,List.getElem?_eq_getElem hi];exact h.v _ (List.getElem_mem hi)
end Go.Dk
namespace Go.Proofs.YtnmkdiagbkkmaabGreatDoor
open Go Go.Eng Go.Pw1

theorem AL8 (n lo hi:Int) (W:World):Calls Tryz.prog 98 #[.int .i64 n,.int .i64 lo,.int .i64 hi] W (Pure (.bool (within n lo hi)) W):=by
  refine Aa0 Tryz.func98 rfl rfl ?_;refine st ?_
  refine Ab3 (dj:=10) (dp:=14) 4 rfl (fun g10=>by
    have g10':=g10;try simp only [nH] at g10'
    refine sv ?_;exact zs g10
  ) (fun g10=>by
    have g10':=g10;try simp only [nH] at g10'
    iterate 3 refine Ab8 rfl rfl rfl ?_
    refine sv ?_;exact zs g10
  ) ?_
  refine su ?_;exact Aa4 (.r1 rfl (.tmp rfl)) (by first | rfl | simp)
theorem AC3 (s:Sp) (lo hi:Int) (W:World):Calls Tryz.prog 99 #[.agg #[.int .i64 s.lo,.int .i64 s.hi],.int .i64 lo,.int .i64 hi] W (Pure (.bool (isSpan s lo hi)) W):=by
  refine Aa0 Tryz.func99 rfl rfl ?_;refine st ?_;refine zn (New.box rfl) (fun b3=>?_)
  refine Ab3 (dj:=11) (dp:=17) 6 rfl (fun g11=>by
    have g11':=g11;try simp only [nH] at g11'
    refine lv (Val.fieldAddr rfl Ay8) ?_;refine lv (Ab6 rfl (.head _) Ag4 rfl) ?_;refine lv (Val.fieldAddr rfl Am5) ?_;refine Ac7 (Ab6 rfl (.head _) Ag4 rfl) rfl rfl rfl ?_;refine sv ?_;exact zs g11
  ) (fun g11=>by
    have g11':=g11;try simp only [nH] at g11'
    iterate 5 refine Ab8 rfl rfl rfl ?_
    refine sv ?_;exact zs g11
  ) ?_
  refine st ?_
  refine Ab3 (dj:=18) (dp:=23) 5 rfl (fun g18=>by
    have g18':=g18;try simp only [nH] at g18'
    refine lv (Val.fieldAddr rfl Am5) ?_;refine Ac7 (Ab6 rfl (.head _) Ag4 rfl) rfl rfl rfl ?_;refine sv ?_;exact zs g18
  ) (fun g18=>by
    have g18':=g18;try simp only [nH] at g18'
    iterate 4 refine Ab8 rfl rfl rfl ?_
    refine sv ?_;exact zs g18
  ) ?_
  refine su ?_;exact Aa4 (.r1 rfl (.tmp rfl)) (by first | rfl | simp)
theorem AQ9 (x y:Sp) (W:World):Calls Tryz.prog 97 #[.agg #[.int .i64 x.lo,.int .i64 x.hi,.int .i64 y.lo,.int .i64 y.hi]] W (Pure (.bool (isPlace x y)) W):=by
  refine Aa0 Tryz.func97 rfl rfl ?_;refine st ?_;refine zn (New.box rfl) (fun b1=>?_)
  refine zc (zF rfl BQ2) (fun w hm=>AC3 ⟨_,_⟩ _ _ w) ?_
  refine Ab3 (dj:=6) (dp:=10) 4 rfl (fun g6=>by
    have g6':=g6;try simp only [nH] at g6'
    refine su ?_;refine Ab7 (zF rfl BQ2) rfl rfl rfl (fun w hm=>AC3 ⟨_,_⟩ _ _ w) ?_;refine sv ?_;exact zs g6
  ) (fun g6=>by
    have g6':=g6;try simp only [nH] at g6'
    iterate 3 refine Ab8 rfl rfl rfl ?_
    refine sv ?_;exact zs g6
  ) ?_
  refine su ?_;exact Aa4 (.r1 rfl (.tmp rfl)) (by first | rfl | simp)
theorem BE7 (p:Pr) (q:Option Addr) (b o cap:Nat) (W:World) (hS:Sl W q b o 9 (p.things.map Th.cells)) (hl:p.things.length≤100000000000) :
    Calls Tryz.prog 47 #[p.v q cap] W (Pure (.bool (isPair p)) W):=by
  refine Aa0 Tryz.func47 rfl rfl ?_;refine st ?_;refine zn (New.box rfl) (fun b1=>?_)
  refine Ae5 (p.things.length) (fun k q=>(3,.int .i64 (k:Int))::q) (fun _=>_) (fun _=>[]) (fun k=>(p.things.take k).any (bad p)=false) (by simp) rfl (zE 3 rfl rfl (zS 1 rfl (Sub.nil _))) (.cons .here rfl .nil) ?_;intro k kN kI;refine su ?_;refine cn rfl ?_ ?_
  ·intro c0'
   have hk:k < p.things.length:=by omega
   obtain ⟨t,ht⟩:∃ t,p.things[k]=t:=⟨_,rfl⟩;refine su ?_;refine lv (Aa8 rfl rfl AE5 (by omega) (by omega) (hS.ptrM hk)) ?_;refine lv (Ab0 rfl (fun w hm=>hS.loadX (by decide) hm (by simp) AA1 hk ht)) ?_;refine zn (New.alloc Aw1) (fun b4=>?_)
   refine Aa9 (Sto.store rfl rfl .here AA1 rfl rfl) rfl rfl ?_;refine su ?_;refine zc (zF rfl CM3) (fun w hm=>AQ9 ⟨_,_⟩ ⟨_,_⟩ w) ?_
   refine Ad4 (dj:=21) (dp:=26) 5 rfl (fun g21=>by
     have g21':=g21;try simp only [nH] at g21'
     refine su ?_;refine Ab7 (zF rfl CM3) rfl rfl rfl (fun w hm=>AQ9 ⟨_,_⟩ ⟨_,_⟩ w) ?_;refine sv ?_;exact zs g21
   ) (fun g21=>by
     have g21':=g21;try simp only [nH] at g21'
     iterate 4 refine Ab8 rfl rfl rfl ?_
     refine sv ?_;exact zs g21
   ) ?_
   refine st ?_
   refine Ad4 (dj:=27) (dp:=41) 14 rfl (fun g27=>by
     have g27':=g27;try simp only [nH] at g27'
     refine su ?_
     refine Ab3 (dj:=31) (dp:=40) 9 rfl (fun g31=>by
       have g31':=g31;try simp only [nH] at g31'
       refine su ?_;refine Ab7 (zF rfl BQ3) rfl rfl rfl (fun w hm=>AL8 _ _ _ w) ?_;refine sv ?_;exact zs g31
     ) (fun g31=>by
       have g31':=g31;try simp only [nH] at g31'
       iterate 8 refine Ab8 rfl rfl rfl ?_
       refine sv ?_;exact zs g31
     ) ?_
     refine sv ?_;exact zs g27
   ) (fun g27=>by
     have g27':=g27;try simp only [nH] at g27'
     iterate 13 refine Ab8 rfl rfl rfl ?_
     refine sv ?_;exact zs g27
   ) ?_
   refine st ?_;refine cn rfl ?_ ?_
   ·intro c1'
    refine su ?_;exact Aa4 (.r1 rfl (.tmp rfl)) (by have h:=Cv0 (f:=bad p) hk (by rw [ht];simpa [bad] using c1');simp [isPair,h])
   intro c1';refine st ?_;refine lv (Val.add rfl rfl (IntWalk.i64_in _ ⟨by omega,by omega⟩)) ?_;exact Ad0 (by omega) (Ay9 hk kI (by rw [ht];obtain ⟨⟨h1,h2⟩,h3⟩:=c1';simp only [bad,Bool.or_eq_false_iff,Bool.not_eq_false',Bool.and_eq_false_iff,decide_eq_true_eq];exact ⟨⟨h1,h2⟩,h3⟩)) rfl (zE 3 rfl rfl (zS 1 rfl (Sub.nil _))) (.cons (.there .here) rfl .nil)
  intro c0';obtain rfl:k=p.things.length:=by omega
  rw [List.take_length] at kI;refine RunC.exit ?_;refine su ?_;refine Ab1 ?_;refine su ?_
  refine Ab3 (dj:=46) (dp:=50) 4 rfl (fun g46=>by
    have g46':=g46;try simp only [nH] at g46'
    refine su ?_;refine Ab7 (zF rfl BQ2) rfl rfl rfl (fun w hm=>AC3 ⟨_,_⟩ _ _ w) ?_;refine sv ?_;exact zs g46
  ) (fun g46=>by
    have g46':=g46;try simp only [nH] at g46'
    iterate 3 refine Ab8 rfl rfl rfl ?_
    refine sv ?_;exact zs g46
  ) ?_
  refine st ?_
  refine Ab3 (dj:=51) (dp:=55) 4 rfl (fun g51=>by
    have g51':=g51;try simp only [nH] at g51'
    refine su ?_;refine Ab7 (zF rfl BQ2) rfl rfl rfl (fun w hm=>AC3 ⟨_,_⟩ _ _ w) ?_;refine sv ?_;exact zs g51
  ) (fun g51=>by
    have g51':=g51;try simp only [nH] at g51'
    iterate 3 refine Ab8 rfl rfl rfl ?_
    refine sv ?_;exact zs g51
  ) ?_
  refine st ?_
  refine Ab3 (dj:=56) (dp:=60) 4 rfl (fun g56=>by
    have g56':=g56;try simp only [nH] at g56'
    refine su ?_;refine Ab7 (zF rfl BQ3) rfl rfl rfl (fun w hm=>AL8 _ _ _ w) ?_;refine sv ?_;exact zs g56
  ) (fun g56=>by
    have g56':=g56;try simp only [nH] at g56'
    iterate 3 refine Ab8 rfl rfl rfl ?_
    refine sv ?_;exact zs g56
  ) ?_
  refine st ?_
  refine Ab3 (dj:=61) (dp:=65) 4 rfl (fun g61=>by
    have g61':=g61;try simp only [nH] at g61'
    refine su ?_;refine Ab7 (zF rfl BQ3) rfl rfl rfl (fun w hm=>AL8 _ _ _ w) ?_;refine sv ?_;exact zs g61
  ) (fun g61=>by
    have g61':=g61;try simp only [nH] at g61'
    iterate 3 refine Ab8 rfl rfl rfl ?_
    refine sv ?_;exact zs g61
  ) ?_
  refine st ?_
  refine Ab3 (dj:=66) (dp:=72) 6 rfl (fun g66=>by
    have g66':=g66;try simp only [nH] at g66'
    refine su ?_;refine Ab7 (zF rfl BQ3) rfl rfl rfl (fun w hm=>AL8 _ _ _ w) ?_;refine sv ?_;exact zs g66
  ) (fun g66=>by
    have g66':=g66;try simp only [nH] at g66'
    iterate 5 refine Ab8 rfl rfl rfl ?_
    refine sv ?_;exact zs g66
  ) ?_
  refine su ?_;exact Aa4 (.r1 rfl (.tmp rfl)) (by simp only [isPair,kI,Bool.not_false,Bool.and_true];congr 1;cases isSpan p.focal 1 50000 <;> cases isSpan p.base 1 10000 <;> cases within p.tilt 0 1000 <;> cases within p.near 2000 1073741824 <;> cases within p.far p.near 1073741824 <;> simp)
end Go.Proofs.YtnmkdiagbkkmaabGreatDoor
namespace Go.Pw1
open Go Go.Eng
end Go.Pw1
namespace Go.Proofs.YtnmkdiagbkkmaabGreatDoor
open Go Go.Eng Go.Pw1

theorem Aq1 (n lo hi:Int) (W:World):Calls Tryz.prog 46 #[.int .i64 n,.int .i64 lo,.int .i64 hi] W (Pure (.bool (within n lo hi)) W):=by
  refine Aa0 Tryz.func46 rfl rfl ?_;refine st ?_
  refine Ab3 (dj:=10) (dp:=14) 4 rfl (fun g10=>by
    have g10':=g10;try simp only [nH] at g10'
    refine sv ?_;exact zs g10
  ) (fun g10=>by
    have g10':=g10;try simp only [nH] at g10'
    iterate 3 refine Ab8 rfl rfl rfl ?_
    refine sv ?_;exact zs g10
  ) ?_
  refine su ?_;exact Aa4 (.r1 rfl (.tmp rfl)) (by first | rfl | simp)
theorem Bv3 (c:Cd) (q:Option Addr) (b o cap:Nat) (W:World) (hS:Sl W q b o 9 (c.p.things.map Th.cells)) (hl:c.p.things.length≤100000000000) :
    Calls Tryz.prog 19 #[c.v q cap] W (Pure (.bool (cardR c)) W):=by
  refine Aa0 Tryz.func19 rfl rfl ?_;refine st ?_;refine zn (New.box rfl) (fun b1=>?_)
  refine zc (zF rfl Ba5) (fun w hm=>Aq1 _ _ _ w) ?_
  refine Ab3 (dj:=7) (dp:=11) 4 rfl (fun g7=>by
    have g7':=g7;try simp only [nH] at g7'
    refine su ?_;refine Ab7 (zF rfl Ba5) rfl rfl rfl (fun w hm=>Aq1 _ _ _ w) ?_;refine sv ?_;exact zs g7
  ) (fun g7=>by
    have g7':=g7;try simp only [nH] at g7'
    iterate 3 refine Ab8 rfl rfl rfl ?_
    refine sv ?_;exact zs g7
  ) ?_
  refine st ?_
  refine Ab3 (dj:=12) (dp:=16) 4 rfl (fun g12=>by
    have g12':=g12;try simp only [nH] at g12'
    refine su ?_;refine Ab7 (zF rfl Ba5) rfl rfl rfl (fun w hm=>Aq1 _ _ _ w) ?_;refine sv ?_;exact zs g12
  ) (fun g12=>by
    have g12':=g12;try simp only [nH] at g12'
    iterate 3 refine Ab8 rfl rfl rfl ?_
    refine sv ?_;exact zs g12
  ) ?_
  refine st ?_
  refine Ab3 (dj:=17) (dp:=22) 5 rfl (fun g17=>by
    have g17':=g17;try simp only [nH] at g17'
    refine lv (Val.fieldAddr rfl Ay7) ?_;refine lv (Val.fieldAddr rfl Ay8) ?_;refine Ac7 (Ab6 rfl (.head _) Ag4 rfl) rfl rfl rfl ?_;refine sv ?_;exact zs g17
  ) (fun g17=>by
    have g17':=g17;try simp only [nH] at g17'
    iterate 4 refine Ab8 rfl rfl rfl ?_
    refine sv ?_;exact zs g17
  ) ?_
  refine st ?_
  refine Ab3 (dj:=23) (dp:=31) 8 rfl (fun g23=>by
    have g23':=g23;try simp only [nH] at g23'
    refine lv (Val.fieldAddr rfl Ay7) ?_;refine lv (Val.fieldAddr rfl Ay8) ?_;refine lv (Ab6 rfl (.head _) Ag4 rfl) ?_;refine lv (Val.fieldAddr rfl Ay7) ?_;refine lv (Val.fieldAddr rfl Am5) ?_;refine Ac7 (Ab6 rfl (.head _) Ag4 rfl) rfl rfl rfl ?_;refine sv ?_;exact zs g23
  ) (fun g23=>by
    have g23':=g23;try simp only [nH] at g23'
    iterate 7 refine Ab8 rfl rfl rfl ?_
    refine sv ?_;exact zs g23
  ) ?_
  refine st ?_
  refine Ab3 (dj:=32) (dp:=37) 5 rfl (fun g32=>by
    have g32':=g32;try simp only [nH] at g32'
    refine lv (Val.fieldAddr rfl Ay7) ?_;refine lv (Val.fieldAddr rfl Am5) ?_;refine Ac7 (Ab6 rfl (.head _) Ag4 rfl) rfl rfl rfl ?_;refine sv ?_;exact zs g32
  ) (fun g32=>by
    have g32':=g32;try simp only [nH] at g32'
    iterate 4 refine Ab8 rfl rfl rfl ?_
    refine sv ?_;exact zs g32
  ) ?_
  refine st ?_
  refine Ab3 (dj:=39) (dp:=43) 4 rfl (fun g39=>by
    have g39':=g39;try simp only [nH] at g39'
    refine su ?_;refine Ab7 (zF rfl Ba5) rfl rfl rfl (fun w hm=>Aq1 _ _ _ w) ?_;refine sv ?_;exact zs g39
  ) (fun g39=>by
    have g39':=g39;try simp only [nH] at g39'
    iterate 3 refine Ab8 rfl rfl rfl ?_
    refine sv ?_;exact zs g39
  ) ?_
  refine st ?_
  refine Ab3 (dj:=44) (dp:=48) 4 rfl (fun g44=>by
    have g44':=g44;try simp only [nH] at g44'
    refine su ?_;refine Ab7 (zF rfl Ba5) rfl rfl rfl (fun w hm=>Aq1 _ _ _ w) ?_;refine sv ?_;exact zs g44
  ) (fun g44=>by
    have g44':=g44;try simp only [nH] at g44'
    iterate 3 refine Ab8 rfl rfl rfl ?_
    refine sv ?_;exact zs g44
  ) ?_
  refine st ?_
  refine Ab3 (dj:=49) (dp:=53) 4 rfl (fun g49=>by
    have g49':=g49;try simp only [nH] at g49'
    refine su ?_;refine Ab7 (zF rfl Ba5) rfl rfl rfl (fun w hm=>Aq1 _ _ _ w) ?_;refine sv ?_;exact zs g49
  ) (fun g49=>by
    have g49':=g49;try simp only [nH] at g49'
    iterate 3 refine Ab8 rfl rfl rfl ?_
    refine sv ?_;exact zs g49
  ) ?_
  refine st ?_
  refine Ab3 (dj:=54) (dp:=58) 4 rfl (fun g54=>by
    have g54':=g54;try simp only [nH] at g54'
    refine su ?_;refine Ab7 (zF rfl Ba5) rfl rfl rfl (fun w hm=>Aq1 _ _ _ w) ?_;refine sv ?_;exact zs g54
  ) (fun g54=>by
    have g54':=g54;try simp only [nH] at g54'
    iterate 3 refine Ab8 rfl rfl rfl ?_
    refine sv ?_;exact zs g54
  ) ?_
  refine st ?_
  refine Ab3 (dj:=59) (dp:=63) 4 rfl (fun g59=>by
    have g59':=g59;try simp only [nH] at g59'
    refine su ?_;refine Ab7 (zF rfl Di4) rfl rfl rfl (fun w hm=>BE7 c.p q b o cap w (hS.mono (by decide) hm (by simp)) hl) ?_;refine sv ?_;exact zs g59
  ) (fun g59=>by
    have g59':=g59;try simp only [nH] at g59'
    iterate 3 refine Ab8 rfl rfl rfl ?_
    refine sv ?_;exact zs g59
  ) ?_
  refine su ?_;exact Aa4 (.r1 rfl (.tmp rfl)) (by simp [cardR,Bool.and_assoc])
end Go.Proofs.YtnmkdiagbkkmaabGreatDoor
namespace Go.Dk
open Go Go.Eng Go.RowKit Go.Pw1 Go.Hp
def farL (c:Cd) (l:List Str):Bool:=decide (40 < c.p.things.length) || decide (60 < l.length) || l.any fun s=>decide (400 < s.length)
theorem CT2 {c:Cd} {l:List Str} (h:farL c l=false):c.p.things.length≤40∧l.length≤60∧∀ s∈l,s.length≤400:=by
  unfold farL at h;simp only [Bool.or_eq_false_iff,decide_eq_false_iff_not,List.any_eq_false,decide_eq_true_eq] at h;exact ⟨by omega,by omega,fun s hs=>by have:=h.2 s hs;omega⟩
theorem Df2 {c:Cd} {l:List Str} (h:40 < (c.p.things.length:Int)∨60 < (l.length:Int)):farL c l=true:=by
  unfold farL
  rcases h with h | h
  · rw [decide_eq_true (show 40 < c.p.things.length by omega)];rfl
  · rw [decide_eq_true (show 60 < l.length by omega),Bool.or_true];rfl
theorem Df1 {c:Cd} {l:List Str} {v:Str} (hv:v∈l) (h:400 < (v.length:Int)):farL c l=true:=by
  unfold farL;rw [show (l.any fun s=>decide (400 < s.length))=true from List.any_eq_true.2 ⟨v,hv,decide_eq_true (by omega)⟩,Bool.or_true]
theorem Df0 {c:Cd} {l:List Str} (h:(c.p.things.length:Int)≤40∧(l.length:Int)≤60) (hl:∀ s∈l,s.length≤400):farL c l=false:=by
  unfold farL;rw [decide_eq_false (show ¬ 40 < c.p.things.length by omega),decide_eq_false (show ¬ 60 < l.length by omega),show (l.any fun s=>decide (400 < s.length))=false from List.any_eq_false.2 fun s hs=>by have:=hl s hs;simp;omega];rfl
end Go.Dk
namespace Go.Proofs.YtnmkdiagbkkmaabGreatDoor
open Go Go.Eng Go.Dk Go.RowKit Go.Pw1 Go.Hp

theorem Bh6 (c:Cd) (q:Option Addr) (cap:Nat) (l:List Str) (ql:Option Addr) (bl ol cl:Nat) (W:World) (hls:Sl W ql bl ol 1 (l.map strC)) :
    Calls Tryz.prog 7 #[c.v q cap,.slice ql l.length cl] W (Pure (.bool (farL c l)) W):=by
  refine Aa0 Tryz.func7 rfl rfl ?_;refine st ?_;refine zn (New.box rfl) (fun b2=>?_)
  refine Ad4 (dj:=11) (dp:=15) 4 rfl (fun g11=>by
    have g11':=g11;try simp only [nH] at g11'
    refine st ?_;refine Ac7 (Al1 rfl Au5) rfl rfl rfl ?_;refine sv ?_;exact zs g11
  ) (fun g11=>by
    have g11':=g11;try simp only [nH] at g11'
    iterate 3 refine Ab8 rfl rfl rfl ?_
    refine sv ?_;exact zs g11
  ) ?_
  refine st ?_;refine cn rfl ?_ ?_
  ·intro c0'
   refine su ?_;exact Aa4 (.r1 rfl (.tmp rfl)) (by rw [Df2 c0'])
  intro c0';refine st ?_;refine Ae5 (l.length) (fun k q=>(5,.int .i64 (k:Int))::q) (fun _=>_) (fun _=>[]) (fun k=>∀ s∈l.take k,s.length≤400) (by simp) rfl (zE 5 rfl rfl (zS 1 rfl (Sub.nil _))) .nil ?_;intro k kN kI;refine su ?_;refine cn rfl ?_ ?_
  ·intro c1'
   have hk:k < l.length:=by omega
   obtain ⟨v,hv⟩:∃ v,l[k]=v:=⟨_,rfl⟩;refine st ?_;refine lv (Aa8 rfl rfl Au5 (by omega) (by omega) (hls.ptrM (i:=k) hk)) ?_;refine lv (Ab0 rfl (fun w hm=>Sl.loadM1 hls (by decide) hm (by simp) AE3 hk (v:=.string (bs v)) (by simp [strC,hv]))) ?_;refine lv (Ah0 rfl An7) ?_;refine cn rfl ?_ ?_
   ·intro c2'
    refine su ?_;exact Aa4 (.r1 rfl (.tmp rfl)) (by rw [Df1 (hv ▸ List.getElem_mem hk) c2'])
   intro c2';refine st ?_;refine lv (Val.add rfl rfl (IntWalk.i64_in _ ⟨by omega,by omega⟩)) ?_;exact Ad0 (by omega) (fun s hs=>by rw [List.take_succ_eq_append_getElem hk,hv] at hs;rcases List.mem_append.1 hs with hs | hs;exact kI s hs;rw [List.mem_singleton] at hs;subst hs;omega) rfl (zE 5 rfl rfl (zS 1 rfl (Sub.nil _))) .nil
  intro c1';have hk:k=l.length:=by omega
  rw [hk,List.take_length] at kI;refine RunC.exit ?_;refine su ?_;refine Ab1 ?_;refine su ?_;exact Aa4 (.r1 rfl (.tmp rfl)) (by rw [Df0 c0' kI])
end Go.Proofs.YtnmkdiagbkkmaabGreatDoor
namespace Go.Proofs.YtnmkdiagbkkmaabGreatDoor
open Go Go.Eng
theorem Dl8:slB Tryz.prog 58=some (43,3):=by kernel_rfl
instance:Slc Tryz.prog 58 43 3:=⟨Dl8⟩
end Go.Proofs.YtnmkdiagbkkmaabGreatDoor
namespace Go.Proofs.YtnmkdiagbkkmaabGreatDoor
open Go Go.Eng
theorem Dj4:Enters Tryz.prog 25:=Aa1 Tryz.func25 (by kernel_rfl) rfl
theorem Dj3:Enters Tryz.prog 26:=Aa1 Tryz.func26 (by kernel_rfl) rfl
theorem CB4:slB Tryz.prog 87=some (33,1):=by kernel_rfl
instance:Slc Tryz.prog 87 33 1:=⟨CB4⟩
end Go.Proofs.YtnmkdiagbkkmaabGreatDoor
namespace Go.Proofs.YtnmkdiagbkkmaabGreatDoor
open Go Go.Eng Go.Dk Go.RowKit Go.Pw1 Go.Hp

theorem Cl3 (c:Cd) (q:Option Addr) (b o cap:Nat) (hq:q=none→cap=0) (l:Str) (W:World) (hL:Lw Tryz.prog W) (hS:Sl W q b o 9 (c.p.things.map Th.cells)) (h1:farL c [l]=true):Calls Tryz.prog 6 #[c.v q cap,.string (bs l)] W (Pure (.bool true) W):=by
  refine Aa0 Tryz.func6 rfl rfl ?_;refine st ?_;refine zn (New.box rfl) (fun b2=>?_)
  refine zn (New.buildSlice (parts:=[(0,.tmp 20)]) rfl Au5 AL1 rfl rfl rfl rfl) (fun b21=>?_)
  refine zc (zF rfl Dh2) (fun w hm=>Bh6 c q cap [l] (some ⟨b21,0,none⟩) b21 0 1 w (Sl.one (hm.at (.head _)) rfl)) ?_;refine RunC.cond rfl ?_ (fun h=>absurd h (by simp [h1]))
  intro c0;clear c0;refine st ?_;refine zc (zF rfl Df6) (fun w hm=>AS0 w (hL.mono hm)) ?_;exact Aa4 (.r1 rfl (.tmp rfl)) (by first | rfl | simp)
set_option maxHeartbeats 4000000 in
theorem CE9 (c:Cd) (q:Option Addr) (b o cap:Nat) (hq:q=none→cap=0) (l:Str) (W:World) (hL:Lw Tryz.prog W) (hS:Sl W q b o 9 (c.p.things.map Th.cells)) (h1:farL c [l]=false):Calls Tryz.prog 6 #[c.v q cap,.string (bs l)] W (Pure (.bool true) W):=by
  obtain ⟨hl3,-,hl5⟩:=CT2 h1;have hll:l.length≤400:=hl5 l (by simp);obtain ⟨t,ht,hrep⟩:=BW9 W;obtain ⟨r,hr,hrpl⟩:=BG0 l hll;have hcR:=AV6 c;have hrn:runX c []=([],if cardIs c=true then 0 else 1):=Cg6 c;refine Aa0 Tryz.func6 rfl rfl ?_;refine st ?_;refine zn (New.box rfl) (fun b2=>?_)
  refine zn (New.buildSlice (parts:=[(0,.tmp 20)]) rfl Au5 AL1 rfl rfl rfl rfl) (fun b21=>?_)
  refine zc (zF rfl Dh2) (fun w hm=>Bh6 c q cap [l] (some ⟨b21,0,none⟩) b21 0 1 w (Sl.one (hm.at (.head _)) rfl)) ?_;refine RunC.cond rfl (fun h=>absurd h (by simp [h1])) ?_;intro c0;clear c0;refine st ?_;refine zn (New.alloc Cb3) (fun b24=>?_)
  refine zn (New.buildSlice (parts:=[(0,.tmp 25),(1,.tmp 26)]) rfl CB4 BC7 rfl rfl rfl rfl) (fun b27=>?_)
  refine AE1 2 ?_;refine st ?_;refine RunC.cond rfl ?_ (fun h=>absurd h (by decide))
  intro c1;clear c1;refine st ?_;refine lu (Ab4 rfl rfl CB4 (by omega) (by omega)) ?_;refine Ah9 (zF rfl CN8) rfl rfl rfl (fun w hm=>AS9 _ w (.inl rfl)) (fun z34=>?_)
  have hz0:=Bj1 z34;refine zn (New.alloc AJ8) (fun b9=>?_)
  refine Aa9 (Sto.store (cs:=[.slice none 0 0,.slice none 0 0,.slice none 0 0]) (cs':=[ownV z34.1.v z34.1.vs.length,ownV z34.1.b z34.1.bs.length,ownV z34.1.c z34.1.cs.length]) rfl rfl .here Bl9 rfl (by have h:=AC4 (ownV z34.1.v z34.1.vs.length) (ownV z34.1.b z34.1.bs.length) (ownV z34.1.c z34.1.cs.length) (Ae3 _ _) (Ae3 _ _) (Ae3 _ _);exact h)) rfl rfl ?_;refine st ?_;refine zc (zF rfl Cs0) (fun w hm=>Bd3 _ l w (.inl rfl)) ?_;refine lv (Av6 rfl rfl) ?_;refine Af9 (dj:=43) false rfl (by simp) ?_;refine st ?_;refine Af9 (dj:=47) false rfl (by simp) ?_;refine su ?_;refine lv (Ag6 rfl AE4 z34.2.1.v) ?_;refine Af9 (dj:=53) false rfl (by simp [hz0]) ?_;refine su ?_;refine lv (Ag6 rfl Bd6 z34.2.1.b) ?_;refine Af9 (dj:=60) false rfl (by simp [hz0]) ?_;refine su ?_;refine lv (Ag6 rfl AT1 z34.2.1.c) ?_;refine RunC.cond rfl (fun h=>absurd h (by simp [hz0])) ?_;intro c2;clear c2;refine st ?_;refine Ac7 (Val.add rfl rfl (IntWalk.i64_in _ ⟨by decide,by decide⟩)) rfl rfl rfl ?_;refine vp rfl rfl rfl rfl ?_;refine RunL.nil ?_;refine Aj8 (zS 1 rfl (zS 2 rfl (zS 6 rfl (zS 27 rfl (zS 28 rfl (zS 29 rfl (Sub.nil _))))))) (.cons (.there .here) rfl (.cons (.there .here) rfl (.cons (.there (.there .here)) rfl (Pick.skip (Pick.skip (Pick.refl _)))))) ?_;refine Ai7 ?_;refine st ?_;refine RunC.cond rfl ?_ (fun h=>absurd h (by decide))
  intro c1;clear c1;refine st ?_;refine lu (Ab4 rfl rfl CB4 (by omega) (by omega)) ?_;refine Aq5 [(b27,_),(b24,_),(b2,_)] _ rfl (zF rfl CN8) rfl rfl rfl (fun w hm=>AS9 _ w (.inr ⟨b24,rfl,hm.at (.tail _ (.head _))⟩)) (fun z34=>?_)
  have hz0:=Bj1 z34;refine zn (New.alloc AJ8) (fun b9=>?_)
  refine Aa9 (Sto.store (cs:=[.slice none 0 0,.slice none 0 0,.slice none 0 0]) (cs':=[ownV z34.1.v z34.1.vs.length,ownV z34.1.b z34.1.bs.length,ownV z34.1.c z34.1.cs.length]) rfl rfl .here Bl9 rfl (by have h:=AC4 (ownV z34.1.v z34.1.vs.length) (ownV z34.1.b z34.1.bs.length) (ownV z34.1.c z34.1.cs.length) (Ae3 _ _) (Ae3 _ _) (Ae3 _ _);exact h)) rfl rfl ?_;refine st ?_;refine zc (zF rfl Cs0) (fun w hm=>Bd3 _ l w (.inr ⟨b24,rfl,hm.at (.tail _ (.tail _ (.head _)))⟩)) ?_;refine lv (Av6 rfl rfl) ?_;refine Af9 (dj:=43) false rfl (by simp) ?_;refine st ?_;refine Af9 (dj:=47) false rfl (by simp) ?_;refine su ?_;refine lv (Ag6 rfl AE4 z34.2.1.v) ?_;refine Af9 (dj:=53) false rfl (by simp [hz0]) ?_;refine su ?_;refine lv (Ag6 rfl Bd6 z34.2.1.b) ?_;refine Af9 (dj:=60) false rfl (by simp [hz0]) ?_;refine su ?_;refine lv (Ag6 rfl AT1 z34.2.1.c) ?_;refine RunC.cond rfl (fun h=>absurd h (by simp [hz0])) ?_;intro c2;clear c2;refine st ?_;refine Ac7 (Val.add rfl rfl (IntWalk.i64_in _ ⟨by decide,by decide⟩)) rfl rfl rfl ?_;refine vp rfl rfl rfl rfl ?_;refine RunL.nil ?_;refine Aj8 (zS 1 rfl (zS 2 rfl (zS 6 rfl (zS 27 rfl (zS 28 rfl (zS 29 rfl (Sub.nil _))))))) (.cons (.there .here) rfl (.cons (.there .here) rfl (.cons (.there .here) rfl (Pick.skip (Pick.refl _))))) ?_;refine Ai7 ?_;refine st ?_;refine RunC.cond rfl (fun h=>absurd h (by decide)) ?_;intro c1;clear c1;refine RunC.exit ?_;refine su ?_;refine Ab1 ?_;refine st ?_;refine Ac4 7 Aj3 (.cons .here rfl (.cons .here rfl (.cons .here rfl .nil))) ?_;refine zw 0 ?_;refine zA 1 ?_;refine Ab5 rfl (zF rfl Dj4) rfl rfl rfl (fun w hm=>hrep w) (Aa7 (.cons .here rfl (.cons .here rfl (.cons .here rfl .nil))) (.cons .here rfl (.cons .here rfl (.cons .here rfl .nil))) rfl ?_)
  refine zA 2 ?_;refine Ab5 rfl (zF rfl BQ5) rfl rfl rfl (fun w hm=>BF7 c q b o cap t w (hS.mono (by decide) hm (by simp)) hq (by omega) (hL.mono hm) ht) (Aa7 (.cons .here rfl (.cons .here rfl (.cons .here rfl .nil))) (.cons .here rfl (.cons .here rfl (.cons .here rfl .nil))) rfl ?_)
  refine zw 3 ?_;refine zw 4 ?_;refine zw 5 ?_;refine zw 6 ?_;refine zt ?_;refine zp 7 ?_;refine zd ?_;refine st ?_;refine Ac4 10 Aj3 (.cons .here rfl (.cons .here rfl (.cons .here rfl .nil))) ?_;refine zw 0 ?_;refine zw 1 ?_;refine zA 2 ?_;refine Ab5 rfl (zF rfl Dj3) rfl rfl rfl (fun w hm=>hrpl w (hL.mono hm)) (Aa7 (.cons .here rfl (.cons .here rfl (.cons .here rfl .nil))) (.cons .here rfl (.cons .here rfl (.cons .here rfl .nil))) rfl ?_)
  refine zv 3 rfl (AI6 rfl rfl (by simp;omega)) ?_;refine zv 4 rfl (AI6 rfl rfl (by simp;omega)) ?_;refine zA 5 ?_;refine Ab5 rfl (zF rfl BQ5) rfl rfl rfl (fun w hm=>BF9 c q b o cap r w (hS.mono (by decide) hm (by simp)) hq (by omega) (hL.mono hm) hr) (Aa7 (.cons .here rfl (.cons .here rfl (.cons .here rfl .nil))) (.cons .here rfl (.cons .here rfl (.cons .here rfl .nil))) rfl ?_)
  refine zw 6 ?_;refine zw 7 ?_;refine zw 8 ?_;refine zw 9 ?_;refine zt ?_;refine zp 10 ?_;refine zd ?_;refine su ?_;refine zc (zF rfl BQ5) (fun w hm=>BF8 c q b o cap w (hS.mono (by decide) hm (by simp)) hq (by omega) (hL.mono hm)) ?_;refine zc (zF rfl Dj6) (fun w hm=>Bv3 c q b o cap w (hS.mono (by decide) hm (by simp)) (by omega)) ?_;refine lv (Av7 rfl rfl) ?_;refine Af9 (dj:=92) true rfl (by simp) ?_;refine st ?_;refine Af9 (dj:=96) true rfl (by simp) ?_;refine st ?_;refine lv (Av7 rfl rfl) ?_;refine Af9 (dj:=100) true rfl (by simp) ?_;refine st ?_;refine Af9 (dj:=104) true rfl (by simp) ?_;refine st ?_;refine lv (Av7 rfl rfl) ?_;refine Af9 (dj:=108) true rfl (by simp) ?_;refine st ?_;refine lv (BB5 rfl rfl CZ8) ?_;refine Af9 (dj:=114) true rfl (by rw [hcR];cases cardIs c <;> rfl) ?_;refine st ?_
  refine Ad4 (dj:=117) (dp:=120) 3 rfl (fun g117=>by
    have g117':=g117;try simp only [nH] at g117'
    refine sv ?_;exact zs g117
  ) (fun g117=>by
    have g117':=g117;try simp only [nH] at g117'
    refine Ab8 rfl rfl rfl ?_;refine Ab8 rfl rfl rfl ?_;refine sv ?_;exact zs g117
  ) ?_
  refine st ?_;refine Af9 (dj:=122) true rfl (by cases cardIs c <;> rfl) ?_;refine zc (zF rfl Df6) (fun w hm=>AS0 w (hL.mono hm)) ?_;exact Aa4 (.r1 rfl (.tmp rfl)) (by first | rfl | simp)
end Go.Proofs.YtnmkdiagbkkmaabGreatDoor
namespace Go.Proofs.YtnmkdiagbkkmaabGreatDoor
open Go Go.Eng Go.Pw1

abbrev spSh:Sh:=.st [.int .i64,.int .i64]
abbrev plSh:Sh:=.st [spSh,spSh]
abbrev thSh:Sh:=.st [plSh,plSh,.int .i64]
abbrev prSh:Sh:=.st [spSh,spSh,.int .i64,.int .i64,.int .i64,.sl thSh]
theorem Ch1 {w:World} {cs:List Value} (h:Rd w spSh cs):∃ s:Sp,cs=[.int .i64 s.lo,.int .i64 s.hi]:=by
  cases h with
  | recS h1 h2 =>
    cases h1
    cases h2 with
    | recS h3 h4 =>
      cases h3
      cases h4
      exact ⟨⟨_,_⟩,rfl⟩
theorem Dd3 {w:World} {cs:List Value} (h:Rd w plSh cs):∃ s t:Sp,cs=[.int .i64 s.lo,.int .i64 s.hi,.int .i64 t.lo,.int .i64 t.hi]:=by
  cases h with
  | recS h1 h2 =>
    obtain ⟨s,rfl⟩:=Ch1 h1
    cases h2 with
    | recS h3 h4 =>
      obtain ⟨t,rfl⟩:=Ch1 h3
      cases h4
      exact ⟨s,t,rfl⟩
theorem Dl9 {w:World} {cs:List Value} (h:Rd w thSh cs):∃ t:Th,cs=t.cells:=by
  cases h with
  | recS h1 h2 =>
    obtain ⟨a,b,rfl⟩:=Dd3 h1
    cases h2 with
    | recS h3 h4 =>
      obtain ⟨c,d,rfl⟩:=Dd3 h3
      cases h4 with
      | recS h5 h6 =>
        cases h5
        cases h6
        exact ⟨⟨a,b,c,d,_⟩,rfl⟩
theorem Cg9 {α:Type} {f:α→List Value}:∀ {xs:List (List Value)},(∀ x∈xs,∃ a,x=f a)→∃ l:List α,xs=l.map f
  | [],_=>⟨[],rfl⟩
  | x::xs,h=>by
    obtain ⟨a,rfl⟩:=h x (by simp);obtain ⟨l,rfl⟩:=Cg9 (xs:=xs) (fun y hy=>h y (List.mem_cons_of_mem _ hy));exact ⟨a::l,rfl⟩
structure In (w:World) (p:Pr) (q:Option Addr) (b o cap:Nat):Prop where
  s:Sl w q b o 9 (p.things.map Th.cells)
  n:q=none→p.things.length=0∧cap=0
theorem Dm0 {w:World} {cs:List Value} (h:Rd w prSh cs):∃ (p:Pr) (q:Option Addr) (b o cap:Nat),cs=p.cells q cap∧In w p q b o cap:=by
  cases h with
  | recS h1 h2 =>
  obtain ⟨f,rfl⟩:=Ch1 h1
  cases h2 with
  | recS h1 h2 =>
  obtain ⟨g,rfl⟩:=Ch1 h1
  cases h2 with
  | recS h1 h2 =>
  cases h1
  cases h2 with
  | recS h1 h2 =>
  cases h1
  cases h2 with
  | recS h1 h2 =>
  cases h1
  cases h2 with
  | recS h1 h2 =>
  cases h2
  cases h1 with
  | slNil=>exact ⟨⟨f,g,_,_,_,[]⟩,none,0,0,0,rfl,⟨Sl.emp,fun _=>⟨rfl,rfl⟩⟩⟩
  | sl hs hl hc hx =>
    obtain ⟨ts,rfl⟩:=Cg9 (f:=Th.cells) (fun x hx'=>Dl9 (hx x hx'));exact ⟨⟨f,g,_,_,_,ts⟩,some _,_,_,_,by rw [List.length_map];rfl,⟨hs,fun h=>by cases h⟩⟩
abbrev cdSh:Sh:=.st [prSh,.int .i64,.int .i64,.int .i64,spSh,.int .i64,.int .i64,.int .i64,.int .i64]
theorem Dm2 {w:World} {cs:List Value} (h:Rd w cdSh cs):∃ (c:Cd) (q:Option Addr) (b o cap:Nat),cs=c.cells q cap∧In w c.p q b o cap:=by
  cases h with
  | recS h1 h2 =>
  obtain ⟨p,q,b,o,cap,rfl,hp⟩:=Dm0 h1
  cases h2 with
  | recS h1 h2 =>
  cases h1
  cases h2 with
  | recS h1 h2 =>
  cases h1
  cases h2 with
  | recS h1 h2 =>
  cases h1
  cases h2 with
  | recS h1 h2 =>
  obtain ⟨e,rfl⟩:=Ch1 h1
  cases h2 with
  | recS h1 h2 =>
  cases h1
  cases h2 with
  | recS h1 h2 =>
  cases h1
  cases h2 with
  | recS h1 h2 =>
  cases h1
  cases h2 with
  | recS h1 h2 =>
  cases h1
  cases h2
  exact ⟨⟨p,_,_,_,e,_,_,_,_⟩,q,b,o,cap,rfl,hp⟩
end Go.Proofs.YtnmkdiagbkkmaabGreatDoor
namespace Go.Eng
open Go Go.RowKit Go.ChangeShapes Go.WideShapes Go.ChangeAt
theorem AP8 {H:Type} {enc:TypeId×Value→H} {a:Assume} {C:Checked} {os:Os} {f:FuncId} {fn:Func} {s:ChangeSpec} {conds:List PathCond} {apart fresh handsOn again:Bool} {X:World→Array Value→Prop}
    (hX:∀ (w w':World) (args:Array Value),w.heap=w'.heap→X w args→X w' args)
    (own:ownKnob C.prog.godebug=none) (started:os.Started) (noInit:C.prog.inits.idxOf? f=none) (hfn:C.prog.funcs[f]? = some fn)
    (witness:∃ (w:World) (tape:Tape) (i:Input),w.os=os∧(w.forCall tape i).Shaped C.prog∧i.vars=[]∧Input.okWide C.prog (w.forCall tape i) .any w.heap.size f i ∧
      ((s.pre enc C.prog fn conds apart (w.forCall tape i).memory i.args∧X (w.forCall tape i).memory i.args)∧sizedMet enc C.prog fn (OpenSpec.ofChange s) apart (w.forCall tape i).memory i.args)∧a.holds C.prog (lone (Frame.enter C.prog f i.args .normal) [] (w.forCall tape i)))
    (contract:∀ (W:World) (base:Nat) (args:Array Value) (ds gs:List (DataW H)) (before:List MemPlace),
      (∀ (j:Nat) t v,fn.params[j]? = some t→args[j]? = some v→Value.okWide C.prog W .any base t v) →
      DataW.Whole enc C.prog fn.params.toList s.vars apart W args.toList ds gs before→W.ShapedOpen C.prog→X W args →
      Calls C.prog f args W fun e W'=>∃ v,e = .returned v∧s.post enc C.prog fn apart fresh handsOn again W args v W') :
    ReturnsInHanded a C os f .any (fun w args=>(s.pre enc C.prog fn conds apart w args∧X w args)∧sizedMet enc C.prog fn (OpenSpec.ofChange s) apart w args) (s.post enc C.prog fn apart fresh handsOn again):=by
  refine returnsInHanded_of_calls own started noInit witness ?_;intro w tape i _ hsh _ hok hpre hholds;obtain ⟨_,_,_,fn',hfn',_,_,_,_,hval⟩:=hok;have e:fn'=fn:=Option.some.inj (hfn'.symm.trans hfn);subst e;obtain ⟨⟨⟨ds,gs,before,hw,hc⟩,hx⟩,hz⟩:=hpre;have hw':=DataW.Whole.of_heap (w':=w.forCall tape i) (by rfl) hw;refine (contract (w.forCall tape i) w.heap.size i.args ds gs before hval hw' hsh (hX _ _ _ (by rfl) hx)).mono fun e W' ⟨v,he,hp⟩=>?_
  subst he;exact ChangeSpec.post_blind hp
theorem Bn7 {H:Type} {enc:TypeId×Value→H} {P:Program} {f:Func} {s:ChangeSpec} {n:Nat} {shs:List Sh} {tb:TypeId} {F:FuncId} (hl:laidOutB P=true) (hsh:f.params.toList.mapM (shapeB P n)=some shs)
    (hp:f.params.toList.all (fun t=>P.readableRec t && decide (t < P.types.size))=true) (hr:f.resultTypes = #[tb]) (hb:P.underlying tb=some .bool) (hvars:s.vars=[])
    (hfn:∀ ds:List (DataW H),ds.length=f.params.toList.length→s.fn H (ds++[])={ results:=[.lit (.bool true)],args:=ds })
    {W:World} (walk:∀ vs:List Value,RdAll W shs vs→Calls P F vs.toArray W (Pure (.bool true) W)) {base:Nat} {args:Array Value} {ds gs:List (DataW H)} {before:List MemPlace} (hval:∀ (j:Nat) t v,f.params[j]? = some t→args[j]? = some v→Value.okWide P W .any base t v)
    (hW:DataW.Whole enc P f.params.toList s.vars false W args.toList ds gs before) :
    Calls P F args W fun e W'=>∃ v,e = .returned v∧s.post enc P f false true false false W args v W':=by
  have hW':=hW;obtain ⟨p,q,hA,hV,rfl,hfz,hnd⟩:=hW;rw [hvars] at hV;obtain ⟨rfl,rfl⟩:=trodVars_none hV;have hrd:RdAll W shs args.toList:=BO1 hsh (fun j t v hj hv=>hval j t v (by simpa using hj) (by simpa using hv)) hA
  have hlen:ds.length=f.params.toList.length:=by
    clear hW' hval hrd hfn hp hsh hfz hnd hV
    generalize f.params.toList=ts at hA
    generalize args.toList=vs at hA
    induction ts generalizing vs ds p with
    | nil=>obtain ⟨_,rfl,_⟩:=trodAll_nil hA;rfl
    | cons t ts ih =>
      obtain ⟨v,vs',d,ds',p,q,rfl,rfl,rfl,h0,hr⟩:=trodAll_cons hA;simp [ih _ _ hr]
  refine (walk args.toList hrd).mono fun e W' ⟨he,hm⟩=>?_
  subst he;have bel:=hm.below;refine ⟨_,rfl,ds,[],p++[],[],p,[],hW',?_,?_,?_,bel.frame _,fun h=>by cases h⟩
  · rw [hfn ds hlen,hr]
    exact trodAll_mk1 (shut_bool hb _)
  · rw [hfn ds hlen]
    exact AL4 hl bel hp hA
  · rw [hvars,hfn ds hlen]
    rfl
theorem Bh7 {P:Program} {n nm:String} {d:DataW Unit} {r:List (String×DataW Unit)} {W:World} {g:Nat} {ti:TypeId} {ms:Array (String×TypeId)}
    (h:laidMet P ((n,.iface nm d)::r) W) (hg:P.globalNamed n=some g) (ht:(P.globals[g]?).map (·.type)=some ti) (hi:P.underlying ti=some (.interface ms)):∃ te pe,W.cell? ⟨g,0,none⟩=some (.iface te pe):=by
  obtain ⟨ps,⟨g0,t0,cs0,f0,p0,q0,hg0,ht0,hv0,hd0,_,e0⟩,_,hrows⟩:=h;obtain rfl:=Option.some.inj (hg.symm.trans hg0);obtain rfl:=Option.some.inj (ht.symm.trans ht0);obtain ⟨f',u,v,hcs,_,_⟩:=iface_of_trod hi hd0;have h1:=World.var?_cell hg0 hv0 0
  have e:cs0 = #[.iface u v]:=by
    obtain ⟨l⟩:=cs0;simp only at hcs
    rw [hcs]
  rw [e] at h1;exact ⟨u,v,by simpa using h1⟩
end Go.Eng
namespace Go.Proofs.YtnmkdiagbkkmaabGreatDoor
open Go Go.Eng Go.Dk Go.RowKit Go.Pw1 Go.Hp

abbrev laidL:List (String×DataW Unit):=[("math/bits.deBruijn32tab",Rows.laid_math_bits_deBruijn32tab),("math/bits.deBruijn64tab",Rows.laid_math_bits_deBruijn64tab),("internal/strconv.uint64pow10",Rows.laid_internal_strconv_uint64pow10),("unicode/utf8.acceptRanges",Rows.laid_unicode_utf8_acceptRanges),("strconv.ErrRange",Rows.laid_strconv_ErrRange),("strconv.ErrSyntax",Rows.laid_strconv_ErrSyntax),("unicode/utf8.first",Rows.laid_unicode_utf8_first)]
theorem Dn6:((begin Tryz.prog (fun _ _=>0) default).world.heap[0]?).bind Obj.row? = some (#[.int .i64 0],3):=by kernel_rfl
theorem Dm4 {W:World} (hsh:W.ShapedOpen Tryz.prog) (hL:laidMetH Tryz.prog laidL W):Lw Tryz.prog W:=by
  rw [MakeChecks.laidMetH_plain _ _ _ (by kernel_rfl)] at hL;have h3:=hL.tail.tail;have h5:=h3.tail.tail;obtain ⟨te,pe,h1⟩:=Bh7 h5 (g:=3) (by kernel_rfl) (by kernel_rfl) Tryz.underlying79;obtain ⟨te2,pe2,h2⟩:=Bh7 h5.tail (g:=2) (by kernel_rfl) (by kernel_rfl) Tryz.underlying79
  exact ⟨cell_of_shapedOpen_int hsh (by decide) Dn6 rfl (by kernel_rfl) (by kernel_rfl) Tryz.underlying3,
    Lib.tabIs_of_head (g:=1) (t:=283) (n:=20) (e:=179) (by kernel_rfl) (by kernel_rfl) (by kernel_rfl) (by kernel_rfl) (by kernel_rfl) (by kernel_rfl) h3,
    ⟨_,h2,.inr ⟨_,_,rfl⟩⟩,⟨_,h1,.inr ⟨_,_,rfl⟩⟩⟩
theorem Cm3 (os:Os):(World.holding Tryz.prog os ⟨#[],#[],[]⟩).layFits Tryz.prog laidL []=true:=by kernel_rfl
theorem BG5 (os:Os):(World.holding Tryz.prog os ⟨#[],#[],[]⟩).layIfaces Tryz.prog laidL (World.laidAll Tryz.prog os laidL)=true:=by kernel_rfl
theorem Dd2 {w:World} {cs:List Value} (h:Rd w .str cs):∃ s:Str,cs=strC s:=by
  cases h with
  | @str v=>exact ⟨v.data.toList,rfl⟩
end Go.Proofs.YtnmkdiagbkkmaabGreatDoor
namespace Go.Proofs.YtnmkdiagbkkmaabGreatDoor
open Go Go.Eng Go.Dk Go.RowKit Go.Pw1 Go.Hp

theorem Bq0 (W:World) (vs:List Value) (hL:Lw Tryz.prog W) (h:RdAll W [cdSh,.str] vs):Calls Tryz.prog 6 vs.toArray W (Pure (.bool true) W):=by
  cases h with
  | cons h1 h =>
  cases h with
  | cons h2 h =>
  cases h
  obtain ⟨c,q,b,o,cap,rfl,hp⟩:=Dm2 h1;obtain ⟨l,rfl⟩:=Dd2 h2;have hq:q=none→cap=0:=fun h=>(hp.n h).2
  cases hf:farL c [l] with
  | true=>exact Cl3 c q b o cap hq l W hL hp.s hf
  | false=>exact CE9 c q b o cap hq l W hL hp.s hf
end Go.Proofs.YtnmkdiagbkkmaabGreatDoor
