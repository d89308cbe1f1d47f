/- Walks of package desk: a script. Printed by mk_tc.py. -/
import Derived.Test.YtnmkdiagbkkmaaaGreatDoorS05
import Derived.Test.YtnmkdiagbkkmaaaGreatDoorProg
import Derived.Test.YtnmkdiagbkkmaaaGreatDoorRows
import Derived.Lib.LaidTab
import Derived.Stop.LaidErr
import Derived.MakeChecks
import Derived.Shelf.Vars
import Derived.Handed
import Derived.HandedShaped
import Derived.Lay
set_option linter.unusedSimpArgs false
set_option linter.unusedVariables false
set_option linter.unusedSectionVars false
namespace Go.Dk
open Go Go.Eng Go.RowKit Go.Pw1 Go.Hp
section
variable {c:Cd} {s:Str}
theorem CG9 (h:131072 < s.length):runX c s=([],3):=by unfold runX;rw [if_pos h]
variable (hl:¬ 131072 < s.length)
include hl
theorem CH0 (h1:s ≠ []) (h:Lib.hasSuffix s [10]=false):runX c s=([],8):=by
  unfold runX;rw [if_neg hl,if_pos ⟨h1,fun h2=>by rw [(Ar5 s).2 h2] at h;cases h⟩]
theorem CV5 (h:s=[]∨s.getLast? = some 10) (hc:cardIs c=false):runX c s=([],1):=by
  unfold runX;rw [if_neg hl,if_neg (fun h2=>h.elim h2.1 h2.2),if_neg (by show ¬ cardIs c=true;rw [hc];decide)]
theorem Dj4 (h:s=[]∨s.getLast? = some 10) (hc:cardIs c=true):runX c s=((runL (bareC c) noBn ((linesL s).map trimL)).2,0):=by
  unfold runX;rw [if_neg hl,if_neg (fun h2=>h.elim h2.1 h2.2),if_pos (by exact hc),Co1 h]
end
theorem Cw6 {s:Str} (h:¬ (s ≠ []∧Lib.hasSuffix s [10]=false)):s=[]∨s.getLast? = some 10:=by
  by_cases h0:s=[]
  · exact .inl h0
  · exact .inr ((Ar5 s).1 (by cases e:Lib.hasSuffix s [10] with
      | true=>rfl
      | false=>exact absurd ⟨h0,e⟩ h))
abbrev RuX:=DkX×Value×Eng.Own×Str
structure RuOk (c:Cd) (b7:Nat) (pre:List Str) (x:RuX):Prop where
  d:DkOk x.1
  p:BuP b7 x.2.1
  o:OwnOk 1 x.2.2.1 x.2.2.2.length (byc x.2.2.2)
  e:x.2.2.1=none∨x.2.2.2 ≠ []
  r:runL (bareC c) noBn (pre.map trimL)=(x.1.pl,x.2.2.2)
  n:x.2.2.2.length≤4001 * pre.length
theorem Dk1 {x:Eng.Own} {l:Str} {xs:List Value} (ho:OwnOk 1 x l.length xs) (h:x=none∨l ≠ []):ownQ x=none∨ownC x ≠ 0:=by
  match x,h,ho with
  | none,_,_=>exact .inl rfl
  | some (b,c,r),h,ho =>
    refine .inr ?_;have h1:=List.length_pos_iff.2 (h.resolve_left (by simp));have h2:=(ho.cap b c r rfl).1
    show c ≠ 0
    omega
theorem CV4 (c:Cd) {d d':DkX} {l:List Str} {v:Str} {t r:Str} {e:Int} (h:runL c noBn l=(d.pl,t)) (hz:(d'.pl,r,e)=stepX c d.pl v):runL c noBn (l++[v])=(d'.pl,t++(echoX r e++[10])):=by
  rw [Bw2,h];dsimp only;rw [← hz]
end Go.Dk
namespace Go.Proofs.YtnmkdiagbkkmaaaGreatDoor
open Go Go.Eng Go.Dk Go.RowKit Go.Pw1 Go.Hp

theorem BM9 (s:Str) (W:World):Calls Tryz.prog 41 #[.string (bs s)] W (News (fun b:Nat=>.func (.func 103) #[] #[pV b]) (fun b=>[(b,strO s)]) W):=by
  refine Aa0 Tryz.func41 rfl rfl ?_;refine st ?_;refine zn (New.box rfl) (fun b1=>?_)
  exact RunE.ret (chg:=[]) (.r1 rfl (.tmp rfl)) (fun _ hm=>⟨b1,rfl,hm.pick (.cons .here rfl .nil)⟩)
theorem CO6 (c:Cd) (q:Option Addr) (b o cap:Nat) (s:Str) (W:World) (h:131072 < s.length):Calls Tryz.prog 11 #[c.v q cap,.string (bs s)] W (Pure (.tuple #[.string (bs (runX c s).1),.int .i64 (runX c s).2]) W):=by
  rw [CG9 h];refine Aa0 Tryz.func11 rfl rfl ?_;refine st ?_;refine zn (New.box rfl) (fun b2=>?_)
  refine lv (Ah2 rfl Ao8) ?_;refine RunC.cond rfl ?_ (fun h=>absurd h (by simp;omega))
  intro c0;clear c0;refine su ?_;exact Aa4 (.r2 rfl (.tmp rfl) (.tmp rfl)) (by first | rfl | simp)
theorem CO7 (c:Cd) (q:Option Addr) (b o cap:Nat) (s:Str) (W:World) (hl:¬ 131072 < s.length) (h1:s ≠ []) (hf:Lib.hasSuffix s [10]=false):Calls Tryz.prog 11 #[c.v q cap,.string (bs s)] W (Pure (.tuple #[.string (bs (runX c s).1),.int .i64 (runX c s).2]) W):=by
  rw [CH0 hl h1 hf];refine Aa0 Tryz.func11 rfl rfl ?_;refine st ?_;refine zn (New.box rfl) (fun b2=>?_)
  refine lv (Ah2 rfl Ao8) ?_;refine RunC.cond rfl (fun h=>absurd h (by simp;omega)) ?_;intro c0;clear c0;refine st ?_;refine lv (Ai5 rfl rfl) ?_
  refine Ab3 (dj:=18) (dp:=22) 4 rfl (fun g18=>by
    have g18':=g18;try simp only [nH] at g18'
    refine st ?_;refine Ab7 (zF rfl Cu1) rfl rfl rfl (fun w hm=>(Ax6 s [10] (by omega) w)) ?_;refine sv ?_;exact zs g18
  ) (fun g18=>by
    have g18':=g18;try simp only [nH] at g18'
    iterate 3 refine Ac0 rfl rfl rfl ?_
    refine sv ?_;exact zs g18
  ) ?_
  refine st ?_;refine RunC.cond rfl ?_ (fun h=>absurd h (by simp [hf,h1]))
  intro c1;clear c1;refine su ?_;exact Aa4 (.r2 rfl (.tmp rfl) (.tmp rfl)) (by first | rfl | simp)
theorem Dg5 (c:Cd) (q:Option Addr) (b o cap:Nat) (s:Str) (W:World) (hS:Sl W q b o 9 (c.p.things.map Th.cells)) (hq:q=none→cap=0) (hl:c.p.things.length≤1000) (hL:Lw Tryz.prog W) (hs0:¬ 131072 < s.length) (h:s=[]∨s.getLast? = some 10) (hc:cardIs c=false):Calls Tryz.prog 11 #[c.v q cap,.string (bs s)] W (Pure (.tuple #[.string (bs (runX c s).1),.int .i64 (runX c s).2]) W):=by
  rw [CV5 hs0 h hc];have hsx:s ≠ []→Lib.hasSuffix s [10]=true:=fun h1=>(Ar5 s).2 (h.resolve_left h1)
  refine Aa0 Tryz.func11 rfl rfl ?_;refine st ?_;refine zn (New.box rfl) (fun b2=>?_)
  refine lv (Ah2 rfl Ao8) ?_;refine RunC.cond rfl (fun h=>absurd h (by simp;omega)) ?_;intro c0;clear c0;refine st ?_;refine lv (Ai5 rfl rfl) ?_
  refine Ab3 (dj:=18) (dp:=22) 4 rfl (fun g18=>by
    have g18':=g18;try simp only [nH] at g18'
    refine st ?_;refine Ab7 (zF rfl Cu1) rfl rfl rfl (fun w hm=>(Ax6 s [10] (by omega) w)) ?_;refine sv ?_;exact zs g18
  ) (fun g18=>by
    have g18':=g18;try simp only [nH] at g18'
    iterate 3 refine Ac0 rfl rfl rfl ?_
    refine sv ?_;exact zs g18
  ) ?_
  refine st ?_;refine RunC.cond rfl (fun h=>absurd h (by simp;exact hsx)) ?_;intro c1;clear c1;refine su ?_;refine zc (zF rfl BS2) (fun w hm=>(CS7 c q b o cap w (hS.mono (by decide) hm (by simp)) hq hl hc)) ?_;refine zn (New.alloc Ce0) (fun b6=>?_)
  refine Ab0 (Sto.store rfl rfl .here BV2 rfl rfl) rfl rfl ?_;refine st ?_;refine RunC.cond rfl ?_ (fun h=>absurd h (by simp))
  intro c2;clear c2;refine su ?_;exact Aa4 (.r2 rfl (.tmp rfl) (.tmp rfl)) (by first | rfl | simp)
set_option maxHeartbeats 2000000 in
theorem Dq3 (c:Cd) (q:Option Addr) (b o cap:Nat) (s:Str) (W:World) (hS:Sl W q b o 9 (c.p.things.map Th.cells)) (hq:q=none→cap=0) (hl:c.p.things.length≤1000) (hL:Lw Tryz.prog W) (hsl:s.length≤100000) (h:s=[]∨s.getLast? = some 10) (hc:cardIs c=true):Calls Tryz.prog 11 #[c.v q cap,.string (bs s)] W (Pure (.tuple #[.string (bs (runX c s).1),.int .i64 (runX c s).2]) W):=by
  rw [Dj4 (by omega) h hc];have hsx:s ≠ []→Lib.hasSuffix s [10]=true:=fun h1=>(Ar5 s).2 (h.resolve_left h1)
  have hll:=Bk1 s;refine AE4 (Mem.refl W) Tryz.func11 rfl rfl ?_;refine RunCF.seq ?_;refine Ak9 ?_;refine st ?_;refine zn (New.box rfl) (fun b2=>?_)
  refine RunEF.next ?_;refine RunCF.seq ?_;refine RunCF.block ?_;refine RunCF.seq ?_;refine Ak9 ?_;refine st ?_;refine lv (Ah2 rfl Ao8) ?_;refine RunEF.next ?_;refine Ak9 ?_;refine RunC.cond rfl (fun h=>absurd h (by simp;omega)) ?_;intro c0;clear c0;refine st ?_;refine lv (Ai5 rfl rfl) ?_
  refine Ab3 (dj:=18) (dp:=22) 4 rfl (fun g18=>by
    have g18':=g18;try simp only [nH] at g18'
    refine st ?_;refine Ab7 (zF rfl Cu1) rfl rfl rfl (fun w hm=>(Ax6 s [10] (by omega) w)) ?_;refine sv ?_;exact zs g18
  ) (fun g18=>by
    have g18':=g18;try simp only [nH] at g18'
    iterate 3 refine Ac0 rfl rfl rfl ?_
    refine sv ?_;exact zs g18
  ) ?_
  refine st ?_;refine RunC.cond rfl (fun h=>absurd h (by simp;exact hsx)) ?_;intro c1;clear c1;refine st ?_;refine RunEF.next ?_;refine RunCF.seq ?_;refine Ak9 ?_;refine su ?_;refine Af9 (zF rfl BS2) rfl rfl rfl (fun w hm=>(CS6 c q b o cap w (hS.mono (by decide) hm (by simp)) hq hl hc)) (fun b25=>?_)
  refine st ?_;refine zn (New.alloc Ce0) (fun b6=>?_)
  refine Ab0 (Sto.store rfl rfl .here BV2 rfl rfl) rfl rfl ?_;refine st ?_;refine RunEF.next ?_;refine RunCF.seq ?_;refine RunCF.seq ?_;refine Ak9 ?_;refine st ?_;refine RunEF.next ?_;refine Ak9 ?_;refine RunC.cond rfl (fun h=>absurd h (by simp)) ?_;intro c2;clear c2;refine st ?_;refine RunEF.next ?_;refine RunCF.seq ?_;refine Ak9 ?_;refine st ?_;refine zn (New.alloc CS8) (fun b7=>?_)
  refine RunEF.next ?_;refine RunCF.seq ?_;refine RunCF.seq ?_;refine Ak9 ?_;refine st ?_;refine Af9 (zF rfl Do0) rfl rfl rfl (fun w hm=>(BM9 s w)) (fun b32=>?_)
  refine st ?_;refine RunEF.next ?_;refine RunCF.block ?_;refine RunCF.range Tryz.func11 (α:=Str) (X:=RuX) (enc:=fun x=>.string (bs x)) (eb:=fun _=>[]) (itb:=[(b32,strO s)]) (mis:=dmis) (S:=fun xs=>xs=linesL s) (Sp:=fun xs=>xs <+: linesL s) (Sq:=fun _ _=>False) (N:=s.length + 1) (fun x=>(b6,.cells (cellsL (pV b25)).toArray 38 (0,0))::(b25,dkO x.1 c)::(b7,buO x.2.1 x.2.2.1 x.2.2.2.length)::(dkB x.1++ownB 5 x.2.2.1 (byc x.2.2.2))) (fun pre x=>RuOk c b7 pre x) (fun _ _=>False) (fun _ _=>False) (noDk,.pointer none,none,[]) ⟨Cm3,.inl rfl,OwnOk.start,.inl rfl,rfl,Nat.zero_le _⟩ ([]) (.cons (.there (.there .here)) rfl (.cons (.there (.there .here)) rfl (.cons (.there .here) rfl (.cons .here rfl .nil)))) rfl Df4 (CX3 s hsl b32 W) rfl rfl (fun _=>rfl) rfl rfl rfl ?_ ?_ ?_ ?_ ?_
  ·intro l D ob pre v x tl hI hsp hlen
   obtain ⟨xd,xp,xo,xl⟩:=x;obtain ⟨hxd,hxp,hxo,hxe,hxr,hxn⟩:=hI;dsimp only at hxd hxp hxo hxe hxr hxn ⊢;have hvl:v.length≤s.length:=AS9 s v (hsp.subset (by simp));have hpl:pre.length≤s.length:=by (have:=hsp.length_le;simp only [List.length_append,List.length_singleton] at this;omega)
   refine Bn0 (Ac1 _) (news':=(l,ob)::(D,dfrO)::(b6,.cells (cellsL (pV b25)).toArray 38 (0,0))::(b25,dkO xd c)::(b7,buO xp xo xl.length)::(dkB xd++(ownB 5 xo (byc xl)++(tl++[])))) (Pick.cnt fun x=>by simp only [nC,List.length_append,List.length_singleton,List.map_cons,List.map_nil,buB,dfrO,markB,dkM];omega) ?_;refine RunCR.block ?_;refine RunCR.seq ?_;refine Cd6 8 Aj2 (.cons .here rfl (.cons .here rfl (.cons .here rfl (.cons (.there .here) rfl .nil)))) ?_;refine zw 0 ?_;refine zw 1 ?_;refine zA 2 ?_;refine Ab4 rfl (zF rfl Dn9) rfl rfl rfl (fun w hm=>(AU7 v [10] (by omega) w)) (Aa5 (.cons .here rfl (.cons .here rfl (.cons .here rfl (.cons (.there .here) rfl .nil)))) (.cons .here rfl (.cons .here rfl (.cons .here rfl (.cons .here rfl .nil)))) rfl ?_)
   refine zA 3 ?_;refine Cd3 rfl (zF rfl CR9) rfl rfl rfl (fun w hm=>(AX6 (nw':=fun z:DkX×Str×Int=>(l,ob)::(D,dfrO)::(b6,.cells (cellsL (pV b25)).toArray 38 (0,0))::(b25,dkO z.1 c)::(b7,buO xp xo xl.length)::(dkB z.1++(ownB 5 xo (byc xl)++(tl++[])))) (Bn5 (trimL v) (by have:=CE4 v;unfold trimL;omega) b25 xd c ((l,ob)::(D,dfrO)::(b6,.cells (cellsL (pV b25)).toArray 38 (0,0))::(b7,buO xp xo xl.length)::(ownB 5 xo (byc xl)++tl)) W w hL hxd (hm.pick (Pick.cnt fun x=>by simp only [nC,List.length_append,List.length_singleton,List.map_cons,List.map_nil,buB,dfrO,markB,dkM];omega))) (fun _=>(Pick.cnt fun x=>by simp only [nC,List.length_append,List.length_singleton,List.map_cons,List.map_nil,buB,dfrO,markB,dkM];omega)))) (fun z38 hz38=>(Aa5 (.cons .here rfl (.cons .here rfl (.cons .here rfl (.cons (.there .here) rfl .nil)))) (.cons .here rfl (.cons .here rfl (.cons .here rfl (.cons .here rfl .nil)))) rfl ?_))
   obtain ⟨hzd,hzs⟩:=hz38;have hrn:=CV4 (bareC c) hxr hzs;have hcod:Cod z38.2.2:=(by have h2:=CF4 hxd.sm (bareC c) (trimL v);rw [← hzs] at h2;exact h2);have he38:(echoX z38.2.1 z38.2.2).length≤4000:=(by have h1:=CF3 hxd.sm (bareC c) (trimL v);rw [← hzs] at h1;exact CM5 h1 hcod);refine zw 4 ?_;refine zw 5 ?_;refine zw 6 ?_;refine zw 7 ?_;refine zt ?_;refine zp 8 ?_;refine zd ?_;refine RunER.next ?_;refine RunCR.seq ?_;refine RunCR.seq ?_;refine Ac5 ?_;refine st ?_;refine RunER.next ?_;refine RunCR.cond rfl ?_ ?_
   ·intro c3
    have c3':=c3;clear c3;try simp only [nH] at c3'
    have hec:echoX z38.2.1 z38.2.2=sayX wError [z38.2.2]:=by (unfold echoX;rw [if_neg (by simpa using c3')])
    rw [hec] at he38 hrn;refine Ac5 ?_;refine lv (Val.makeInterface rfl Aq3) ?_;refine lv (Val.makeInterface rfl Av3) ?_;refine zn (New.buildSlice (parts:=[(0,.tmp 43),(1,.tmp 45)]) rfl Aq0 Am4 rfl rfl rfl rfl) (fun b46=>?_)
    refine zc (zF rfl Av4) (fun w hm=>Ag6 [.s wError,.n z38.2.2] _ (An5 wError [_]) b46 w (hL.mono hm) (hm.at (.head _)) (by simp) (by intro p hp;simp only [List.mem_cons,List.not_mem_nil,or_false] at hp;rcases hp with rfl | rfl;exact (show wError.length≤40 by decide);exact hcod.in64) (by simp [Prt.words])) ?_;refine RunER.next ?_;refine Ac5 ?_;refine st ?_;refine lv (AJ7 rfl rfl (by simp;omega)) ?_;refine As0 (zF rfl CR5) rfl rfl rfl (fun w hm=>(AX6 (nw':=fun y:Eng.Own=>(l,ob)::(D,dfrO)::(b6,.cells (cellsL (pV b25)).toArray 38 (0,0))::(b25,dkO z38.1 c)::(b7,buO (buS b7) y (xl++(sayX wError [z38.2.2]++[10])).length)::(dkB z38.1++(ownB 5 y (byc (xl++(sayX wError [z38.2.2]++[10])))++(tl++[])))) (AU0 b7 xp xo xl (sayX wError [z38.2.2]++[10]) ((l,ob)::(D,dfrO)::(b6,.cells (cellsL (pV b25)).toArray 38 (0,0))::(b25,dkO z38.1 c)::(dkB z38.1++tl)) W w (hm.pick (Pick.cnt fun x=>by simp only [nC,List.length_append,List.length_singleton,List.map_cons,List.map_nil,buB,dfrO,markB,dkM];omega)) hxp hxo (by simp only [List.length_append,List.length_singleton];omega)) (fun _=>(Pick.cnt fun x=>by simp only [nC,List.length_append,List.length_singleton,List.map_cons,List.map_nil,buB,dfrO,markB,dkM];omega)))) (fun z50 hz50=>?_)
    skip
    refine st ?_;exact AS4 (z38.1,buS b7,z50,xl++(sayX wError [z38.2.2]++[10])) ⟨hzd,.inr rfl,hz50,.inr (by simp),by rw [List.map_append];exact hrn,by simp only [List.length_append,List.length_singleton];omega⟩ (Pick.cnt fun x=>by simp only [nC,List.length_append,List.length_singleton,List.map_cons,List.map_nil,buB,dfrO,markB,dkM];omega)
   intro c3;have c3':=c3;clear c3;try simp only [nH] at c3'
   have hec:echoX z38.2.1 z38.2.2=z38.2.1:=by (unfold echoX;rw [if_pos (by simpa using c3')])
   rw [hec] at he38 hrn;refine RunCR.skip ?_;refine RunER.next ?_;refine Ac5 ?_;refine st ?_;refine lv (AJ7 rfl rfl (by simp;omega)) ?_;refine As0 (zF rfl CR5) rfl rfl rfl (fun w hm=>(AX6 (nw':=fun y:Eng.Own=>(l,ob)::(D,dfrO)::(b6,.cells (cellsL (pV b25)).toArray 38 (0,0))::(b25,dkO z38.1 c)::(b7,buO (buS b7) y (xl++(z38.2.1++[10])).length)::(dkB z38.1++(ownB 5 y (byc (xl++(z38.2.1++[10])))++(tl++[])))) (AU0 b7 xp xo xl (z38.2.1++[10]) ((l,ob)::(D,dfrO)::(b6,.cells (cellsL (pV b25)).toArray 38 (0,0))::(b25,dkO z38.1 c)::(dkB z38.1++tl)) W w (hm.pick (Pick.cnt fun x=>by simp only [nC,List.length_append,List.length_singleton,List.map_cons,List.map_nil,buB,dfrO,markB,dkM];omega)) hxp hxo (by simp only [List.length_append,List.length_singleton];omega)) (fun _=>(Pick.cnt fun x=>by simp only [nC,List.length_append,List.length_singleton,List.map_cons,List.map_nil,buB,dfrO,markB,dkM];omega)))) (fun z50 hz50=>?_)
   skip
   refine st ?_;exact AS4 (z38.1,buS b7,z50,xl++(z38.2.1++[10])) ⟨hzd,.inr rfl,hz50,.inr (by simp),by rw [List.map_append];exact hrn,by simp only [List.length_append,List.length_singleton];omega⟩ (Pick.cnt fun x=>by simp only [nC,List.length_append,List.length_singleton,List.map_cons,List.map_nil,buB,dfrO,markB,dkM];omega)
  ·intro D xs x hS hI
   obtain ⟨xd,xp,xo,xl⟩:=x;obtain ⟨hxd,hxp,hxo,hxe,hxr,hxn⟩:=hI;dsimp only at hxd hxp hxo hxe hxr hxn ⊢;subst hS;refine An3 (Ac1 _) (news':=(D,dfrO)::(b6,.cells (cellsL (pV b25)).toArray 38 (0,0))::(b25,dkO xd c)::(b7,buO xp xo xl.length)::(dkB xd++(ownB 5 xo (byc xl)++[]))) (Pick.cnt fun x=>by simp only [nC,List.length_append,List.length_singleton,List.map_cons,List.map_nil,buB,dfrO,markB,dkM];omega) ?_;refine st ?_;refine RunEF.next ?_;refine RunCF.seq ?_;refine Ak9 ?_;refine st ?_;refine As0 (zF rfl Dn8) rfl rfl rfl (fun w hm=>(Cc5 b7 xp xo xl ((D,dfrO)::[]) W w (hm.pick (Pick.cnt fun x=>by simp only [nC,List.length_append,List.length_singleton,List.map_cons,List.map_nil,buB,dfrO,markB,dkM];omega)) hxo (Dk1 hxo hxe))) (fun z51 hz51=>?_)
   skip
   refine st ?_;refine RunEF.next ?_;refine Ak9 ?_;refine RunC.ret ?_;exact Aq8 (news2:=[]) [D] (Pick.cnt fun x=>by simp only [nC,List.length_append,List.length_singleton,List.map_cons,List.map_nil,buB,dfrO,markB,dkM];omega) (.r2 rfl (.tmp rfl) (.tmp rfl)) (fun w hm=>⟨by rw [hxr],hm⟩)
  ·intro D c x hst
   exact hst.elim
  ·intro D c x hp
   exact hp.elim
  intro D k xs x hq hI;exact hq.elim
end Go.Proofs.YtnmkdiagbkkmaaaGreatDoor
namespace Go.Dk
open Go Go.Eng Go.Pw1 Go.Hp
def cE:Cd:=⟨⟨⟨9000,9000⟩,⟨65,66⟩,5,2000,100000,[]⟩,3200,50,20,⟨6000,6500⟩,300,900,100,200⟩
theorem Co7 {c:Cd} {b:Bn} {s:Str} {ws:List Str} (hl:s.length≤200) (h:wordsX s=some (wDeep::ws)) (hn:numsX ws=some [0]) (hr:0 < b.views.length):lineX c b s=deepD c b 0 :=
  AG2 hl h (by decide) (by decide) (show verbX wDeep=some ⟨1,true,fun c b n=>deepD c b (N n 0)⟩ from rfl) hn rfl (fun _=>hr)
theorem Ah9 {c:Cd} {b b' b2:Bn} {s r t:Str} {e:Int} {l:List Str} (h:stepX c b s=(b',r,e)) (h2:runL c b' l=(b2,t)):runL c b (s::l)=(b2,echoX r e++10::t):=by
  unfold runL;rw [h];dsimp only;rw [h2]
def eB0:Bn:=⟨[],⟨[],[]⟩⟩
def eB1:Bn:=⟨[⟨⟨⟨9000,9000⟩,⟨65,66⟩,5,2000,100000,[]⟩,⟨0,0,0,0⟩,false⟩],⟨[],[]⟩⟩
def eB2:Bn:=⟨[⟨⟨⟨9000,9000⟩,⟨65,66⟩,5,2000,100000,[⟨⟨1100,1101⟩,⟨0,0⟩,⟨904,905⟩,⟨0,0⟩,0⟩]⟩,⟨0,0,0,0⟩,false⟩],⟨[],[]⟩⟩
def eB3:Bn:=⟨[⟨⟨⟨9000,9000⟩,⟨65,66⟩,5,2000,100000,[⟨⟨1100,1101⟩,⟨0,0⟩,⟨904,905⟩,⟨0,0⟩,3000⟩]⟩,⟨0,0,0,0⟩,false⟩],⟨[],[]⟩⟩
def eB4:Bn:=⟨[⟨⟨⟨9000,9000⟩,⟨65,66⟩,5,2000,100000,[⟨⟨1100,1101⟩,⟨0,0⟩,⟨904,905⟩,⟨0,0⟩,3000⟩,⟨⟨1050,1050⟩,⟨0,0⟩,⟨990,992⟩,⟨0,0⟩,0⟩]⟩,⟨0,0,0,0⟩,false⟩],⟨[],[]⟩⟩
def eB5:Bn:=⟨[⟨⟨⟨9000,9000⟩,⟨65,66⟩,5,2000,100000,[⟨⟨1100,1101⟩,⟨0,0⟩,⟨904,905⟩,⟨0,0⟩,3000⟩,⟨⟨1050,1050⟩,⟨0,0⟩,⟨990,992⟩,⟨0,0⟩,0⟩]⟩,⟨0,0,0,0⟩,false⟩],⟨[],[]⟩⟩
def eB6:Bn:=⟨[⟨⟨⟨9000,9000⟩,⟨65,66⟩,5,2000,100000,[⟨⟨1100,1101⟩,⟨0,0⟩,⟨904,905⟩,⟨0,0⟩,3000⟩,⟨⟨1050,1050⟩,⟨0,0⟩,⟨990,992⟩,⟨0,0⟩,0⟩,⟨⟨1000,1002⟩,⟨0,0⟩,⟨1005,1006⟩,⟨0,0⟩,0⟩]⟩,⟨0,0,0,0⟩,false⟩],⟨[],[]⟩⟩
def eB7:Bn:=⟨[⟨⟨⟨9000,9000⟩,⟨65,66⟩,5,2000,100000,[⟨⟨1100,1101⟩,⟨0,0⟩,⟨904,905⟩,⟨0,0⟩,3000⟩,⟨⟨1050,1050⟩,⟨0,0⟩,⟨990,992⟩,⟨0,0⟩,0⟩,⟨⟨1000,1002⟩,⟨0,0⟩,⟨1005,1006⟩,⟨0,0⟩,0⟩]⟩,⟨0,0,0,0⟩,false⟩],⟨[],[]⟩⟩
def eB8:Bn:=⟨[⟨⟨⟨9000,9000⟩,⟨65,66⟩,5,2000,100000,[⟨⟨1100,1101⟩,⟨0,0⟩,⟨904,905⟩,⟨0,0⟩,3000⟩,⟨⟨1050,1050⟩,⟨0,0⟩,⟨990,992⟩,⟨0,0⟩,0⟩,⟨⟨1000,1002⟩,⟨0,0⟩,⟨1005,1006⟩,⟨0,0⟩,0⟩]⟩,⟨0,0,0,0⟩,false⟩],⟨[],[]⟩⟩
def eB9:Bn:=⟨[⟨⟨⟨9000,9000⟩,⟨65,66⟩,5,2000,100000,[⟨⟨1100,1101⟩,⟨0,0⟩,⟨904,905⟩,⟨0,0⟩,3000⟩,⟨⟨1050,1050⟩,⟨0,0⟩,⟨990,992⟩,⟨0,0⟩,0⟩,⟨⟨1000,1002⟩,⟨0,0⟩,⟨1005,1006⟩,⟨0,0⟩,0⟩]⟩,⟨2,1,0,3⟩,true⟩],⟨[],[]⟩⟩
def eB10:Bn:=⟨[⟨⟨⟨9000,9000⟩,⟨65,66⟩,5,2000,100000,[⟨⟨1100,1101⟩,⟨0,0⟩,⟨904,905⟩,⟨0,0⟩,3000⟩,⟨⟨1050,1050⟩,⟨0,0⟩,⟨990,992⟩,⟨0,0⟩,0⟩,⟨⟨1000,1002⟩,⟨0,0⟩,⟨1005,1006⟩,⟨0,0⟩,0⟩]⟩,⟨2,1,0,3⟩,true⟩],⟨[],[]⟩⟩
def eB11:Bn:=⟨[⟨⟨⟨9000,9000⟩,⟨65,66⟩,5,2000,100000,[⟨⟨1100,1101⟩,⟨0,0⟩,⟨904,905⟩,⟨0,0⟩,3000⟩,⟨⟨1050,1050⟩,⟨0,0⟩,⟨990,992⟩,⟨0,0⟩,0⟩,⟨⟨1000,1002⟩,⟨0,0⟩,⟨1005,1006⟩,⟨0,0⟩,0⟩]⟩,⟨2,1,0,3⟩,true⟩],⟨[],[]⟩⟩
def eB12:Bn:=⟨[⟨⟨⟨9000,9000⟩,⟨65,66⟩,5,2000,100000,[⟨⟨1100,1101⟩,⟨0,0⟩,⟨904,905⟩,⟨0,0⟩,3000⟩,⟨⟨1050,1050⟩,⟨0,0⟩,⟨990,992⟩,⟨0,0⟩,0⟩,⟨⟨1000,1002⟩,⟨0,0⟩,⟨1005,1006⟩,⟨0,0⟩,0⟩]⟩,⟨2,1,0,3⟩,true⟩],⟨[⟨1,[[102,97,108,108,115],[109,105,108,108],[112,97,115,115]]⟩],[]⟩⟩
def eB13:Bn:=⟨[⟨⟨⟨9000,9000⟩,⟨65,66⟩,5,2000,100000,[⟨⟨1100,1101⟩,⟨0,0⟩,⟨904,905⟩,⟨0,0⟩,3000⟩,⟨⟨1050,1050⟩,⟨0,0⟩,⟨990,992⟩,⟨0,0⟩,0⟩,⟨⟨1000,1002⟩,⟨0,0⟩,⟨1005,1006⟩,⟨0,0⟩,0⟩]⟩,⟨2,1,0,3⟩,true⟩],⟨[⟨1,[[102,97,108,108,115],[109,105,108,108],[112,97,115,115]]⟩,⟨2,[[109,105,108,108],[108,97,107,101]]⟩],[]⟩⟩
def eB14:Bn:=⟨[⟨⟨⟨9000,9000⟩,⟨65,66⟩,5,2000,100000,[⟨⟨1100,1101⟩,⟨0,0⟩,⟨904,905⟩,⟨0,0⟩,3000⟩,⟨⟨1050,1050⟩,⟨0,0⟩,⟨990,992⟩,⟨0,0⟩,0⟩,⟨⟨1000,1002⟩,⟨0,0⟩,⟨1005,1006⟩,⟨0,0⟩,0⟩]⟩,⟨2,1,0,3⟩,true⟩],⟨[⟨1,[[102,97,108,108,115],[109,105,108,108],[112,97,115,115]]⟩,⟨2,[[109,105,108,108],[108,97,107,101]]⟩],[⟨0,[63],[109,105,42]⟩]⟩⟩
def eB15:Bn:=⟨[⟨⟨⟨9000,9000⟩,⟨65,66⟩,5,2000,100000,[⟨⟨1100,1101⟩,⟨0,0⟩,⟨904,905⟩,⟨0,0⟩,3000⟩,⟨⟨1050,1050⟩,⟨0,0⟩,⟨990,992⟩,⟨0,0⟩,0⟩,⟨⟨1000,1002⟩,⟨0,0⟩,⟨1005,1006⟩,⟨0,0⟩,0⟩]⟩,⟨2,1,0,3⟩,true⟩],⟨[⟨1,[[102,97,108,108,115],[109,105,108,108],[112,97,115,115]]⟩,⟨2,[[109,105,108,108],[108,97,107,101]]⟩],[⟨0,[63],[109,105,42]⟩,⟨2,[42],[109,105,108,108]⟩]⟩⟩
def eB16:Bn:=⟨[⟨⟨⟨9000,9000⟩,⟨65,66⟩,5,2000,100000,[⟨⟨1100,1101⟩,⟨0,0⟩,⟨904,905⟩,⟨0,0⟩,3000⟩,⟨⟨1050,1050⟩,⟨0,0⟩,⟨990,992⟩,⟨0,0⟩,0⟩,⟨⟨1000,1002⟩,⟨0,0⟩,⟨1005,1006⟩,⟨0,0⟩,0⟩]⟩,⟨2,1,0,3⟩,true⟩],⟨[⟨1,[[102,97,108,108,115],[109,105,108,108],[112,97,115,115]]⟩,⟨2,[[109,105,108,108],[108,97,107,101]]⟩],[⟨0,[63],[109,105,42]⟩,⟨2,[42],[109,105,108,108]⟩]⟩⟩
theorem eS0:stepX cE eB0 [118,105,101,119]=(eB1,[118,105,101,119,32,48],0):=by kernel_rfl
theorem eS1:stepX cE eB1 [116,104,105,110,103,32,48,32,49,49,48,48,32,49,49,48,49,32,57,48,52,32,57,48,53]=(eB2,[116,104,105,110,103,32,48,32,48],0):=by kernel_rfl
theorem eS2:stepX cE eB2 [109,97,114,107,32,48,32,48,32,51,48,48,48]=(eB3,[109,97,114,107,32,53,56,53,48,48,48,32,53,57,51,57,57,57],0):=by kernel_rfl
theorem eS3:stepX cE eB3 [116,104,105,110,103,32,48,32,49,48,53,48,32,49,48,53,48,32,57,57,48,32,57,57,50]=(eB4,[116,104,105,110,103,32,49,32,48],0):=by kernel_rfl
theorem eS4:stepX cE eB4 [102,97,114,32,48,32,49]=(eB5,[102,97,114,32,57,53,57,49,32,49,48,50,52,49],0):=by kernel_rfl
theorem eS5:stepX cE eB5 [116,104,105,110,103,32,48,32,49,48,48,48,32,49,48,48,50,32,49,48,48,53,32,49,48,48,54]=(eB6,[116,104,105,110,103,32,50,32,50],0):=by kernel_rfl
theorem eS6:stepX cE eB6 [109,111,118,101,100,32,48]=(eB7,[109,111,118,101,100,32,52],0):=by kernel_rfl
theorem eS7:stepX cE eB7 [109,97,114,107,32,48,32,49,32,52,48,48,48]=(eB8,[],4):=by kernel_rfl
theorem eS8:stepX cE eB8 [116,114,105,109,32,48]=(eB9,[116,114,105,109,32,50,32,49,32,48,32,51],0):=by kernel_rfl
theorem eS9:stepX cE eB9 [116,104,105,110,103,32,48,32,48,32,48,32,48,32,48]=(eB10,[],6):=by kernel_rfl
theorem eDl:lineX cE eB10 [100,101,101,112,32,48]=deepD cE eB10 0:=Co7 (by decide) (show wordsX [100,101,101,112,32,48]=some (wDeep::[[48]]) by kernel_rfl) (show numsX [[48]]=some [0] by kernel_rfl) (by decide)
theorem CN0 {c:Cd} {b:Bn} {i:Nat} {v:Vw} {x y:Int} (hv:b.views.getD i noVw=v) (hu:v.up=true) (h:depthsX (cardV c v) v.cuts=((x,y),0)):deepD c b i = .ok (b,sayX wDeep [x,y]):=by
  unfold deepD;dsimp only;rw [hv,if_neg (by rw [hu];decide),h];rfl
def eV:Vw:=⟨⟨⟨9000,9000⟩,⟨65,66⟩,5,2000,100000,[⟨⟨1100,1101⟩,⟨0,0⟩,⟨904,905⟩,⟨0,0⟩,3000⟩,⟨⟨1050,1050⟩,⟨0,0⟩,⟨990,992⟩,⟨0,0⟩,0⟩,⟨⟨1000,1002⟩,⟨0,0⟩,⟨1005,1006⟩,⟨0,0⟩,0⟩]⟩,⟨2,1,0,3⟩,true⟩
theorem eD4:depthsX (cardV cE eV) eV.cuts=((2956,11700),0):=by rw [BK8];kernel_rfl
theorem eD5:deepD cE eB10 0 = .ok (eB10,sayX wDeep [2956,11700]):=CN0 (v:=eV) rfl rfl eD4
theorem eD6:sayX wDeep [2956,11700]=[100,101,101,112,32,50,57,53,54,32,49,49,55,48,48]:=by kernel_rfl
theorem CU5 {c:Cd} {b b':Bn} {s r:Str} (h:lineX c b s = .ok (b',r)):stepX c b s=(b',r,0):=by unfold stepX;rw [h]
theorem Ds6:stepX cE eB10 [100,101,101,112,32,48]=(eB11,[100,101,101,112,32,50,57,53,54,32,49,49,55,48,48],0):=CU5 (by rw [eDl,eD5,eD6];rfl)
theorem Ds5:stepX cE eB11 [98,111,120,32,49,32,102,97,108,108,115,32,109,105,108,108,32,112,97,115,115]=(eB12,[98,111,120,32,48],0):=by kernel_rfl
theorem Ds4:stepX cE eB12 [98,111,120,32,50,32,109,105,108,108,32,108,97,107,101]=(eB13,[98,111,120,32,49],0):=by kernel_rfl
theorem Ds3:stepX cE eB13 [99,97,114,100,32,48,32,63,32,109,105,42]=(eB14,[99,97,114,100,32,48],0):=by kernel_rfl
theorem Ds2:stepX cE eB14 [99,97,114,100,32,50,32,42,32,109,105,108,108]=(eB15,[99,97,114,100,32,49,32,105,115,32,48,32,49,32,105,115,32,49,32,51],0):=by kernel_rfl
theorem Ds1:stepX cE eB15 [119,104,105,99,104,32,48]=(eB16,[119,104,105,99,104,32,49],0):=by kernel_rfl
def eScript:Str:=[118,105,101,119,10,116,104,105,110,103,32,48,32,49,49,48,48,32,49,49,48,49,32,57,48,52,32,57,48,53,10,109,97,114,107,32,48,32,48,32,51,48,48,48,10,116,104,105,110,103,32,48,32,49,48,53,48,32,49,48,53,48,32,57,57,48,32,57,57,50,10,102,97,114,32,48,32,49,10,116,104,105,110,103,32,48,32,49,48,48,48,32,49,48,48,50,32,49,48,48,53,32,49,48,48,54,10,109,111,118,101,100,32,48,10,109,97,114,107,32,48,32,49,32,52,48,48,48,10,116,114,105,109,32,48,10,116,104,105,110,103,32,48,32,48,32,48,32,48,32,48,10,100,101,101,112,32,48,10,98,111,120,32,49,32,102,97,108,108,115,32,109,105,108,108,32,112,97,115,115,10,98,111,120,32,50,32,109,105,108,108,32,108,97,107,101,10,99,97,114,100,32,48,32,63,32,109,105,42,10,99,97,114,100,32,50,32,42,32,109,105,108,108,10,119,104,105,99,104,32,48,10]
def eSays:Str:=[118,105,101,119,32,48,10,116,104,105,110,103,32,48,32,48,10,109,97,114,107,32,53,56,53,48,48,48,32,53,57,51,57,57,57,10,116,104,105,110,103,32,49,32,48,10,102,97,114,32,57,53,57,49,32,49,48,50,52,49,10,116,104,105,110,103,32,50,32,50,10,109,111,118,101,100,32,52,10,101,114,114,111,114,32,52,10,116,114,105,109,32,50,32,49,32,48,32,51,10,101,114,114,111,114,32,54,10,100,101,101,112,32,50,57,53,54,32,49,49,55,48,48,10,98,111,120,32,48,10,98,111,120,32,49,10,99,97,114,100,32,48,10,99,97,114,100,32,49,32,105,115,32,48,32,49,32,105,115,32,49,32,51,10,119,104,105,99,104,32,49,10]
theorem Do8:linesX eScript []=[[118,105,101,119],[116,104,105,110,103,32,48,32,49,49,48,48,32,49,49,48,49,32,57,48,52,32,57,48,53],[109,97,114,107,32,48,32,48,32,51,48,48,48],[116,104,105,110,103,32,48,32,49,48,53,48,32,49,48,53,48,32,57,57,48,32,57,57,50],[102,97,114,32,48,32,49],[116,104,105,110,103,32,48,32,49,48,48,48,32,49,48,48,50,32,49,48,48,53,32,49,48,48,54],[109,111,118,101,100,32,48],[109,97,114,107,32,48,32,49,32,52,48,48,48],[116,114,105,109,32,48],[116,104,105,110,103,32,48,32,48,32,48,32,48,32,48],[100,101,101,112,32,48],[98,111,120,32,49,32,102,97,108,108,115,32,109,105,108,108,32,112,97,115,115],[98,111,120,32,50,32,109,105,108,108,32,108,97,107,101],[99,97,114,100,32,48,32,63,32,109,105,42],[99,97,114,100,32,50,32,42,32,109,105,108,108],[119,104,105,99,104,32,48]]:=by kernel_rfl
theorem Ds7:(runL cE noBn (linesX eScript [])).2=eSays:=by
  rw [Do8];have h:=(Ah9 eS0 (Ah9 eS1 (Ah9 eS2 (Ah9 eS3 (Ah9 eS4 (Ah9 eS5 (Ah9 eS6 (Ah9 eS7 (Ah9 eS8 (Ah9 eS9 (Ah9 Ds6 (Ah9 Ds5 (Ah9 Ds4 (Ah9 Ds3 (Ah9 Ds2 (Ah9 Ds1 (show runL cE eB16 []=(eB16,[]) from rfl)))))))))))))))));rw [show noBn=eB0 from rfl];refine (congrArg Prod.snd h).trans ?_;exact (show _=eSays by kernel_rfl)
theorem Dr4:runX cE eScript=(eSays,0):=by
  unfold runX;rw [if_neg (by decide +kernel),if_neg (fun h=>h.2 (by decide +kernel)),if_pos (by decide +kernel),show bareC cE=cE from rfl,Ds7]
end Go.Dk
namespace Go.Proofs.YtnmkdiagbkkmaaaGreatDoor
open Go Go.Eng
theorem BK0:Enters Tryz.prog 101:=Aa1 Tryz.func101 (by kernel_rfl) rfl
theorem Do5:Enters Tryz.prog 11:=Aa1 Tryz.func11 (by kernel_rfl) rfl
theorem Do1:Enters Tryz.prog 39:=Aa1 Tryz.func39 (by kernel_rfl) rfl
theorem Ck2:placesB Tryz.prog 26=some [(0,2),(2,2),(4,1),(5,1),(6,1),(7,1)]:=by kernel_rfl
theorem Ck1:placesB Tryz.prog 28=some [(0,8),(8,1),(9,1),(10,1),(11,2),(13,1),(14,1),(15,1),(16,1)]:=by kernel_rfl
theorem Ce1:zeroB Tryz.prog 26=some [.int .i64 0,.int .i64 0,.int .i64 0,.int .i64 0,.int .i64 0,.int .i64 0,.int .i64 0,.slice none 0 0]:=by kernel_rfl
end Go.Proofs.YtnmkdiagbkkmaaaGreatDoor
namespace Go.Proofs.YtnmkdiagbkkmaaaGreatDoor
open Go Go.Eng Go.Dk Go.RowKit Go.Pw1 Go.Hp

theorem CA2 (c:Cd) (q:Option Addr) (b o cap:Nat) (s:Str) (W:World) (hS:Sl W q b o 9 (c.p.things.map Th.cells)) (hq:q=none→cap=0) (hl:c.p.things.length≤1000) (hL:Lw Tryz.prog W) (hs:s.length≤100000∨131072 < s.length) :
    Calls Tryz.prog 11 #[c.v q cap,.string (bs s)] W (Pure (.tuple #[.string (bs (runX c s).1),.int .i64 (runX c s).2]) W):=by
  by_cases h1:131072 < s.length
  · exact CO6 c q b o cap s W h1
  · have hs2:s.length≤100000:=by omega
    by_cases h2:s ≠ []∧Lib.hasSuffix s [10]=false
    · exact CO7 c q b o cap s W h1 h2.1 h2.2
    · cases hc:cardIs c with
      | false=>exact Dg5 c q b o cap s W hS hq hl hL h1 (Cw6 h2) hc
      | true=>exact Dq3 c q b o cap s W hS hq hl hL hs2 (Cw6 h2) hc
theorem AM2 (lo hi:Int) (W:World):Calls Tryz.prog 101 #[.int .i64 lo,.int .i64 hi] W (Pure (.agg #[.int .i64 lo,.int .i64 hi]) W):=by
  refine Aa0 Tryz.func101 rfl rfl ?_;refine st ?_;refine zn (New.alloc Ad7) (fun b4=>?_)
  refine lv (Val.build (parts:=[(0,.tmp 5),(1,.tmp 6)]) rfl Ad7 Am6 rfl) ?_;refine Ab0 (Sto.store rfl rfl .here Ag0 rfl rfl) rfl rfl ?_;refine su ?_;exact Aa4 (.r1 rfl (.agg rfl (.head _) Ag0 rfl)) (by first | rfl | simp)
theorem BL0 (W:World):Calls Tryz.prog 39 #[] W (Pure (cE.v none 0) W):=by
  refine Aa0 Tryz.func39 rfl rfl ?_;refine st ?_;refine zn (New.alloc AY0) (fun b0=>?_)
  refine zc (zF rfl BK0) (fun w hm=>AM2 _ _ w) ?_;refine zc (zF rfl BK0) (fun w hm=>AM2 _ _ w) ?_;refine lv (Val.build (parts:=[(0,.tmp 2),(1,.tmp 3),(2,.const (.int .i64 5)),(3,.const (.int .i64 2000)),(4,.const (.int .i64 100000))]) rfl Ce1 Ck2 rfl) ?_;refine zn (New.alloc Ce1) (fun b1=>?_)
  refine Ab0 (Sto.store rfl rfl .here AY7 rfl rfl) rfl rfl ?_;refine st ?_;refine Ac6 2 Aj2 (.cons .here rfl (.cons .here rfl .nil)) ?_;refine zw 0 ?_;refine zA 1 ?_;refine Ab4 rfl (zF rfl BK0) rfl rfl rfl (fun w hm=>AM2 _ _ w) (Aa5 (.cons .here rfl (.cons .here rfl .nil)) (.cons .here rfl (.cons .here rfl .nil)) rfl ?_)
  refine zt ?_;refine zo 2 rfl (Val.build (parts:=[(0,.tmp 5),(1,.const (.int .i64 3200)),(2,.const (.int .i64 50)),(3,.const (.int .i64 20)),(4,.tmp 6),(5,.const (.int .i64 300)),(6,.const (.int .i64 900)),(7,.const (.int .i64 100)),(8,.const (.int .i64 200))]) rfl AY0 Ck1 rfl) ?_;refine zB 3 ?_;refine Ab9 rfl (Sto.store rfl rfl (.there .here) Bg0 rfl rfl) rfl rfl (Ab8 ?_)
  refine zd ?_;refine su ?_;exact Aa4 (.r1 rfl (.agg rfl (.tail _ (.head _)) Bg0 rfl)) (by first | rfl | simp)
theorem Cb2 (W:World) (hL:Lw Tryz.prog W):Calls Tryz.prog 11 #[cE.v none 0,.string (bs eScript)] W (Pure (.tuple #[.string (bs eSays),.int .i64 0]) W):=by
  have h:=CA2 cE none 0 0 0 eScript W ⟨fun h=>absurd rfl h,fun x hx=>(by cases hx),fun i h=>(by cases h)⟩ (fun _=>rfl) (by decide) hL (.inl (by decide +kernel));rw [Dr4] at h;exact h
theorem BK2 (t:Str) (ht:t=eSays) (W:World) (hL:Lw Tryz.prog W):Calls Tryz.prog 11 #[cE.v none 0,.string (bs eScript)] W (Pure (.tuple #[.string (bs t),.int .i64 0]) W):=by
  rw [ht];exact Cb2 W hL
set_option maxRecDepth 100000 in
theorem Az7 (W:World) (hL:Lw Tryz.prog W):Calls Tryz.prog 10 #[] W (Pure (.bool true) W):=by
  obtain ⟨t,ht⟩:∃ t,t=eSays:=⟨_,rfl⟩;refine Aa0 Tryz.func10 rfl rfl ?_;refine st ?_;refine zc (zF rfl Do1) (fun w hm=>BL0 w) ?_;refine zc (zF rfl Do5) (fun w hm=>BK2 t ht w (hL.mono hm)) ?_;refine lv (Ak2 (a:=t) (b:=eSays) rfl rfl) ?_;refine Al2 (dj:=10) true rfl (by simp [ht]) ?_;refine su ?_;exact Aa4 (.r1 rfl (.tmp rfl)) (by first | rfl | simp)
end Go.Proofs.YtnmkdiagbkkmaaaGreatDoor
namespace Go.Dk
open Go Go.Eng Go.Pw1 Go.Hp
structure VwRight (c:Cd) (v:Vw):Prop where
  pw:(powerX v.p).2=0
  s1:v.p.focal=c.p.focal
  s2:v.p.base=c.p.base
  s3:v.p.tilt=c.p.tilt
  s4:v.p.near=c.p.near
  s5:v.p.far=c.p.far
  n:v.p.things.length≤12
  up:v.up=true→(hurtsX (cardV c v) v.cuts).2.2=0
  dn:v.up=false→v.cuts=noTr
structure Right (c:Cd) (b:Bn):Prop where
  v:∀ v∈b.views,VwRight c v
  nv:b.views.length≤4
  nb:b.heap.boxes.length≤4
  nc:b.heap.cards.length≤8
  w:(WhyX b.heap).2=0
variable {c:Cd} {b:Bn}
theorem Right.put (h:Right c b) {i:Nat} {v:Vw} (hv:VwRight c v):Right c (putV b i v) :=
  ⟨fun x hx=>by
    rcases List.mem_or_eq_of_mem_set hx with hx | rfl
    · exact h.v x hx
    · exact hv,by show (b.views.set i v).length≤4;rw [List.length_set];exact h.nv,h.nb,h.nc,h.w⟩
theorem Right.at (h:Right c b) {i:Nat} (hi:i < b.views.length):VwRight c (b.views.getD i noVw):=by
  rw [List.getD_eq_getElem?_getD,List.getElem?_eq_getElem hi];exact h.v _ (List.getElem_mem hi)
end Go.Dk
namespace Go.Proofs.YtnmkdiagbkkmaaaGreatDoor
open Go Go.Eng Go.Pw1

theorem AN4 (n lo hi:Int) (W:World):Calls Tryz.prog 143 #[.int .i64 n,.int .i64 lo,.int .i64 hi] W (Pure (.bool (within n lo hi)) W):=by
  refine Aa0 Tryz.func143 rfl rfl ?_;refine st ?_
  refine Ab3 (dj:=10) (dp:=14) 4 rfl (fun g10=>by
    have g10':=g10;try simp only [nH] at g10'
    refine sv ?_;exact zs g10
  ) (fun g10=>by
    have g10':=g10;try simp only [nH] at g10'
    iterate 3 refine Ac0 rfl rfl rfl ?_
    refine sv ?_;exact zs g10
  ) ?_
  refine su ?_;exact Aa4 (.r1 rfl (.tmp rfl)) (by first | rfl | simp)
theorem AD3 (s:Sp) (lo hi:Int) (W:World):Calls Tryz.prog 144 #[.agg #[.int .i64 s.lo,.int .i64 s.hi],.int .i64 lo,.int .i64 hi] W (Pure (.bool (isSpan s lo hi)) W):=by
  refine Aa0 Tryz.func144 rfl rfl ?_;refine st ?_;refine zn (New.box rfl) (fun b3=>?_)
  refine Ab3 (dj:=11) (dp:=17) 6 rfl (fun g11=>by
    have g11':=g11;try simp only [nH] at g11'
    refine lv (Val.fieldAddr rfl Az6) ?_;refine lv (Ab6 rfl (.head _) Ag4 rfl) ?_;refine lv (Val.fieldAddr rfl An6) ?_;refine Ad0 (Ab6 rfl (.head _) Ag4 rfl) rfl rfl rfl ?_;refine sv ?_;exact zs g11
  ) (fun g11=>by
    have g11':=g11;try simp only [nH] at g11'
    iterate 5 refine Ac0 rfl rfl rfl ?_
    refine sv ?_;exact zs g11
  ) ?_
  refine st ?_
  refine Ab3 (dj:=18) (dp:=23) 5 rfl (fun g18=>by
    have g18':=g18;try simp only [nH] at g18'
    refine lv (Val.fieldAddr rfl An6) ?_;refine Ad0 (Ab6 rfl (.head _) Ag4 rfl) rfl rfl rfl ?_;refine sv ?_;exact zs g18
  ) (fun g18=>by
    have g18':=g18;try simp only [nH] at g18'
    iterate 4 refine Ac0 rfl rfl rfl ?_
    refine sv ?_;exact zs g18
  ) ?_
  refine su ?_;exact Aa4 (.r1 rfl (.tmp rfl)) (by first | rfl | simp)
theorem AS6 (x y:Sp) (W:World):Calls Tryz.prog 142 #[.agg #[.int .i64 x.lo,.int .i64 x.hi,.int .i64 y.lo,.int .i64 y.hi]] W (Pure (.bool (isPlace x y)) W):=by
  refine Aa0 Tryz.func142 rfl rfl ?_;refine st ?_;refine zn (New.box rfl) (fun b1=>?_)
  refine zc (zF rfl Br4) (fun w hm=>AD3 ⟨_,_⟩ _ _ w) ?_
  refine Ab3 (dj:=6) (dp:=10) 4 rfl (fun g6=>by
    have g6':=g6;try simp only [nH] at g6'
    refine su ?_;refine Ab7 (zF rfl Br4) rfl rfl rfl (fun w hm=>AD3 ⟨_,_⟩ _ _ w) ?_;refine sv ?_;exact zs g6
  ) (fun g6=>by
    have g6':=g6;try simp only [nH] at g6'
    iterate 3 refine Ac0 rfl rfl rfl ?_
    refine sv ?_;exact zs g6
  ) ?_
  refine su ?_;exact Aa4 (.r1 rfl (.tmp rfl)) (by first | rfl | simp)
theorem BG3 (p:Pr) (q:Option Addr) (b o cap:Nat) (W:World) (hS:Sl W q b o 9 (p.things.map Th.cells)) (hl:p.things.length≤100000000000) :
    Calls Tryz.prog 59 #[p.v q cap] W (Pure (.bool (isPair p)) W):=by
  refine Aa0 Tryz.func59 rfl rfl ?_;refine st ?_;refine zn (New.box rfl) (fun b1=>?_)
  refine Ae4 (p.things.length) (fun k q=>(3,.int .i64 (k:Int))::q) (fun _=>_) (fun _=>[]) (fun k=>(p.things.take k).any (bad p)=false) (by simp) rfl (zE 3 rfl rfl (zS 1 rfl (Sub.nil _))) (.cons .here rfl .nil) ?_;intro k kN kI;refine su ?_;refine cn rfl ?_ ?_
  ·intro c0'
   have hk:k < p.things.length:=by omega
   obtain ⟨t,ht⟩:∃ t,p.things[k]=t:=⟨_,rfl⟩;refine su ?_;refine lv (Aa7 rfl rfl AF2 (by omega) (by omega) (hS.ptrM hk)) ?_;refine lv (Aa9 rfl (fun w hm=>hS.loadX (by decide) hm (by simp) Ap4 hk ht)) ?_;refine zn (New.alloc Ap8) (fun b4=>?_)
   refine Ab0 (Sto.store rfl rfl .here Ap4 rfl rfl) rfl rfl ?_;refine su ?_;refine zc (zF rfl Cw3) (fun w hm=>AS6 ⟨_,_⟩ ⟨_,_⟩ w) ?_
   refine Ae0 (dj:=21) (dp:=26) 5 rfl (fun g21=>by
     have g21':=g21;try simp only [nH] at g21'
     refine su ?_;refine Ab7 (zF rfl Cw3) rfl rfl rfl (fun w hm=>AS6 ⟨_,_⟩ ⟨_,_⟩ w) ?_;refine sv ?_;exact zs g21
   ) (fun g21=>by
     have g21':=g21;try simp only [nH] at g21'
     iterate 4 refine Ac0 rfl rfl rfl ?_
     refine sv ?_;exact zs g21
   ) ?_
   refine st ?_
   refine Ae0 (dj:=27) (dp:=41) 14 rfl (fun g27=>by
     have g27':=g27;try simp only [nH] at g27'
     refine su ?_
     refine Ab3 (dj:=31) (dp:=40) 9 rfl (fun g31=>by
       have g31':=g31;try simp only [nH] at g31'
       refine su ?_;refine Ab7 (zF rfl Br5) rfl rfl rfl (fun w hm=>AN4 _ _ _ w) ?_;refine sv ?_;exact zs g31
     ) (fun g31=>by
       have g31':=g31;try simp only [nH] at g31'
       iterate 8 refine Ac0 rfl rfl rfl ?_
       refine sv ?_;exact zs g31
     ) ?_
     refine sv ?_;exact zs g27
   ) (fun g27=>by
     have g27':=g27;try simp only [nH] at g27'
     iterate 13 refine Ac0 rfl rfl rfl ?_
     refine sv ?_;exact zs g27
   ) ?_
   refine st ?_;refine cn rfl ?_ ?_
   ·intro c1'
    refine su ?_;exact Aa4 (.r1 rfl (.tmp rfl)) (by have h:=Cz4 (f:=bad p) hk (by rw [ht];simpa [bad] using c1');simp [isPair,h])
   intro c1';refine st ?_;refine lv (Val.add rfl rfl (IntWalk.i64_in _ ⟨by omega,by omega⟩)) ?_;exact Ad2 (by omega) (Az8 hk kI (by rw [ht];obtain ⟨⟨h1,h2⟩,h3⟩:=c1';simp only [bad,Bool.or_eq_false_iff,Bool.not_eq_false',Bool.and_eq_false_iff,decide_eq_true_eq];exact ⟨⟨h1,h2⟩,h3⟩)) rfl (zE 3 rfl rfl (zS 1 rfl (Sub.nil _))) (.cons (.there .here) rfl .nil)
  intro c0';obtain rfl:k=p.things.length:=by omega
  rw [List.take_length] at kI;refine RunC.exit ?_;refine su ?_;refine Ab1 ?_;refine su ?_
  refine Ab3 (dj:=46) (dp:=50) 4 rfl (fun g46=>by
    have g46':=g46;try simp only [nH] at g46'
    refine su ?_;refine Ab7 (zF rfl Br4) rfl rfl rfl (fun w hm=>AD3 ⟨_,_⟩ _ _ w) ?_;refine sv ?_;exact zs g46
  ) (fun g46=>by
    have g46':=g46;try simp only [nH] at g46'
    iterate 3 refine Ac0 rfl rfl rfl ?_
    refine sv ?_;exact zs g46
  ) ?_
  refine st ?_
  refine Ab3 (dj:=51) (dp:=55) 4 rfl (fun g51=>by
    have g51':=g51;try simp only [nH] at g51'
    refine su ?_;refine Ab7 (zF rfl Br4) rfl rfl rfl (fun w hm=>AD3 ⟨_,_⟩ _ _ w) ?_;refine sv ?_;exact zs g51
  ) (fun g51=>by
    have g51':=g51;try simp only [nH] at g51'
    iterate 3 refine Ac0 rfl rfl rfl ?_
    refine sv ?_;exact zs g51
  ) ?_
  refine st ?_
  refine Ab3 (dj:=56) (dp:=60) 4 rfl (fun g56=>by
    have g56':=g56;try simp only [nH] at g56'
    refine su ?_;refine Ab7 (zF rfl Br5) rfl rfl rfl (fun w hm=>AN4 _ _ _ w) ?_;refine sv ?_;exact zs g56
  ) (fun g56=>by
    have g56':=g56;try simp only [nH] at g56'
    iterate 3 refine Ac0 rfl rfl rfl ?_
    refine sv ?_;exact zs g56
  ) ?_
  refine st ?_
  refine Ab3 (dj:=61) (dp:=65) 4 rfl (fun g61=>by
    have g61':=g61;try simp only [nH] at g61'
    refine su ?_;refine Ab7 (zF rfl Br5) rfl rfl rfl (fun w hm=>AN4 _ _ _ w) ?_;refine sv ?_;exact zs g61
  ) (fun g61=>by
    have g61':=g61;try simp only [nH] at g61'
    iterate 3 refine Ac0 rfl rfl rfl ?_
    refine sv ?_;exact zs g61
  ) ?_
  refine st ?_
  refine Ab3 (dj:=66) (dp:=72) 6 rfl (fun g66=>by
    have g66':=g66;try simp only [nH] at g66'
    refine su ?_;refine Ab7 (zF rfl Br5) rfl rfl rfl (fun w hm=>AN4 _ _ _ w) ?_;refine sv ?_;exact zs g66
  ) (fun g66=>by
    have g66':=g66;try simp only [nH] at g66'
    iterate 5 refine Ac0 rfl rfl rfl ?_
    refine sv ?_;exact zs g66
  ) ?_
  refine su ?_;exact Aa4 (.r1 rfl (.tmp rfl)) (by simp only [isPair,kI,Bool.not_false,Bool.and_true];congr 1;cases isSpan p.focal 1 50000 <;> cases isSpan p.base 1 10000 <;> cases within p.tilt 0 1000 <;> cases within p.near 2000 1073741824 <;> cases within p.far p.near 1073741824 <;> simp)
end Go.Proofs.YtnmkdiagbkkmaaaGreatDoor
namespace Go.Pw1
open Go Go.Eng
end Go.Pw1
namespace Go.Proofs.YtnmkdiagbkkmaaaGreatDoor
open Go Go.Eng Go.Pw1

theorem Ar7 (n lo hi:Int) (W:World):Calls Tryz.prog 58 #[.int .i64 n,.int .i64 lo,.int .i64 hi] W (Pure (.bool (within n lo hi)) W):=by
  refine Aa0 Tryz.func58 rfl rfl ?_;refine st ?_
  refine Ab3 (dj:=10) (dp:=14) 4 rfl (fun g10=>by
    have g10':=g10;try simp only [nH] at g10'
    refine sv ?_;exact zs g10
  ) (fun g10=>by
    have g10':=g10;try simp only [nH] at g10'
    iterate 3 refine Ac0 rfl rfl rfl ?_
    refine sv ?_;exact zs g10
  ) ?_
  refine su ?_;exact Aa4 (.r1 rfl (.tmp rfl)) (by first | rfl | simp)
theorem Bx4 (c:Cd) (q:Option Addr) (b o cap:Nat) (W:World) (hS:Sl W q b o 9 (c.p.things.map Th.cells)) (hl:c.p.things.length≤100000000000) :
    Calls Tryz.prog 20 #[c.v q cap] W (Pure (.bool (cardR c)) W):=by
  refine Aa0 Tryz.func20 rfl rfl ?_;refine st ?_;refine zn (New.box rfl) (fun b1=>?_)
  refine zc (zF rfl Bd0) (fun w hm=>Ar7 _ _ _ w) ?_
  refine Ab3 (dj:=7) (dp:=11) 4 rfl (fun g7=>by
    have g7':=g7;try simp only [nH] at g7'
    refine su ?_;refine Ab7 (zF rfl Bd0) rfl rfl rfl (fun w hm=>Ar7 _ _ _ w) ?_;refine sv ?_;exact zs g7
  ) (fun g7=>by
    have g7':=g7;try simp only [nH] at g7'
    iterate 3 refine Ac0 rfl rfl rfl ?_
    refine sv ?_;exact zs g7
  ) ?_
  refine st ?_
  refine Ab3 (dj:=12) (dp:=16) 4 rfl (fun g12=>by
    have g12':=g12;try simp only [nH] at g12'
    refine su ?_;refine Ab7 (zF rfl Bd0) rfl rfl rfl (fun w hm=>Ar7 _ _ _ w) ?_;refine sv ?_;exact zs g12
  ) (fun g12=>by
    have g12':=g12;try simp only [nH] at g12'
    iterate 3 refine Ac0 rfl rfl rfl ?_
    refine sv ?_;exact zs g12
  ) ?_
  refine st ?_
  refine Ab3 (dj:=17) (dp:=22) 5 rfl (fun g17=>by
    have g17':=g17;try simp only [nH] at g17'
    refine lv (Val.fieldAddr rfl Az5) ?_;refine lv (Val.fieldAddr rfl Az6) ?_;refine Ad0 (Ab6 rfl (.head _) Ag4 rfl) rfl rfl rfl ?_;refine sv ?_;exact zs g17
  ) (fun g17=>by
    have g17':=g17;try simp only [nH] at g17'
    iterate 4 refine Ac0 rfl rfl rfl ?_
    refine sv ?_;exact zs g17
  ) ?_
  refine st ?_
  refine Ab3 (dj:=23) (dp:=31) 8 rfl (fun g23=>by
    have g23':=g23;try simp only [nH] at g23'
    refine lv (Val.fieldAddr rfl Az5) ?_;refine lv (Val.fieldAddr rfl Az6) ?_;refine lv (Ab6 rfl (.head _) Ag4 rfl) ?_;refine lv (Val.fieldAddr rfl Az5) ?_;refine lv (Val.fieldAddr rfl An6) ?_;refine Ad0 (Ab6 rfl (.head _) Ag4 rfl) rfl rfl rfl ?_;refine sv ?_;exact zs g23
  ) (fun g23=>by
    have g23':=g23;try simp only [nH] at g23'
    iterate 7 refine Ac0 rfl rfl rfl ?_
    refine sv ?_;exact zs g23
  ) ?_
  refine st ?_
  refine Ab3 (dj:=32) (dp:=37) 5 rfl (fun g32=>by
    have g32':=g32;try simp only [nH] at g32'
    refine lv (Val.fieldAddr rfl Az5) ?_;refine lv (Val.fieldAddr rfl An6) ?_;refine Ad0 (Ab6 rfl (.head _) Ag4 rfl) rfl rfl rfl ?_;refine sv ?_;exact zs g32
  ) (fun g32=>by
    have g32':=g32;try simp only [nH] at g32'
    iterate 4 refine Ac0 rfl rfl rfl ?_
    refine sv ?_;exact zs g32
  ) ?_
  refine st ?_
  refine Ab3 (dj:=39) (dp:=43) 4 rfl (fun g39=>by
    have g39':=g39;try simp only [nH] at g39'
    refine su ?_;refine Ab7 (zF rfl Bd0) rfl rfl rfl (fun w hm=>Ar7 _ _ _ w) ?_;refine sv ?_;exact zs g39
  ) (fun g39=>by
    have g39':=g39;try simp only [nH] at g39'
    iterate 3 refine Ac0 rfl rfl rfl ?_
    refine sv ?_;exact zs g39
  ) ?_
  refine st ?_
  refine Ab3 (dj:=44) (dp:=48) 4 rfl (fun g44=>by
    have g44':=g44;try simp only [nH] at g44'
    refine su ?_;refine Ab7 (zF rfl Bd0) rfl rfl rfl (fun w hm=>Ar7 _ _ _ w) ?_;refine sv ?_;exact zs g44
  ) (fun g44=>by
    have g44':=g44;try simp only [nH] at g44'
    iterate 3 refine Ac0 rfl rfl rfl ?_
    refine sv ?_;exact zs g44
  ) ?_
  refine st ?_
  refine Ab3 (dj:=49) (dp:=53) 4 rfl (fun g49=>by
    have g49':=g49;try simp only [nH] at g49'
    refine su ?_;refine Ab7 (zF rfl Bd0) rfl rfl rfl (fun w hm=>Ar7 _ _ _ w) ?_;refine sv ?_;exact zs g49
  ) (fun g49=>by
    have g49':=g49;try simp only [nH] at g49'
    iterate 3 refine Ac0 rfl rfl rfl ?_
    refine sv ?_;exact zs g49
  ) ?_
  refine st ?_
  refine Ab3 (dj:=54) (dp:=58) 4 rfl (fun g54=>by
    have g54':=g54;try simp only [nH] at g54'
    refine su ?_;refine Ab7 (zF rfl Bd0) rfl rfl rfl (fun w hm=>Ar7 _ _ _ w) ?_;refine sv ?_;exact zs g54
  ) (fun g54=>by
    have g54':=g54;try simp only [nH] at g54'
    iterate 3 refine Ac0 rfl rfl rfl ?_
    refine sv ?_;exact zs g54
  ) ?_
  refine st ?_
  refine Ab3 (dj:=59) (dp:=63) 4 rfl (fun g59=>by
    have g59':=g59;try simp only [nH] at g59'
    refine su ?_;refine Ab7 (zF rfl Dn4) rfl rfl rfl (fun w hm=>BG3 c.p q b o cap w (hS.mono (by decide) hm (by simp)) hl) ?_;refine sv ?_;exact zs g59
  ) (fun g59=>by
    have g59':=g59;try simp only [nH] at g59'
    iterate 3 refine Ac0 rfl rfl rfl ?_
    refine sv ?_;exact zs g59
  ) ?_
  refine su ?_;exact Aa4 (.r1 rfl (.tmp rfl)) (by simp [cardR,Bool.and_assoc])
end Go.Proofs.YtnmkdiagbkkmaaaGreatDoor
namespace Go.Proofs.YtnmkdiagbkkmaaaGreatDoor
open Go Go.Eng
theorem Do3:Enters Tryz.prog 20:=Aa1 Tryz.func20 (by kernel_rfl) rfl
end Go.Proofs.YtnmkdiagbkkmaaaGreatDoor
namespace Go.Dk
open Go Go.Eng Go.RowKit Go.Pw1 Go.Hp
def farL (c:Cd) (l:List Str):Bool:=decide (40 < c.p.things.length) || decide (60 < l.length) || l.any fun s=>decide (400 < s.length)
def heavyC (c:Cd):Bool:=decide (20 < c.cuts) && cardR c
theorem BI9 {c:Cd} {l:List Str} (h:farL c l=false):c.p.things.length≤40∧l.length≤60∧∀ s∈l,s.length≤400:=by
  unfold farL at h;simp only [Bool.or_eq_false_iff,decide_eq_false_iff_not,List.any_eq_false,decide_eq_true_eq] at h;exact ⟨by omega,by omega,fun s hs=>by have:=h.2 s hs;omega⟩
theorem Dl5 {c:Cd} {l:List Str} (h:40 < (c.p.things.length:Int)∨60 < (l.length:Int)):farL c l=true:=by
  unfold farL
  rcases h with h | h
  · rw [decide_eq_true (show 40 < c.p.things.length by omega)];rfl
  · rw [decide_eq_true (show 60 < l.length by omega),Bool.or_true];rfl
theorem Dl4 {c:Cd} {l:List Str} {v:Str} (hv:v∈l) (h:400 < (v.length:Int)):farL c l=true:=by
  unfold farL;rw [show (l.any fun s=>decide (400 < s.length))=true from List.any_eq_true.2 ⟨v,hv,decide_eq_true (by omega)⟩,Bool.or_true]
theorem Dl3 {c:Cd} {l:List Str} (h:(c.p.things.length:Int)≤40∧(l.length:Int)≤60) (hl:∀ s∈l,s.length≤400):farL c l=false:=by
  unfold farL;rw [decide_eq_false (show ¬ 40 < c.p.things.length by omega),decide_eq_false (show ¬ 60 < l.length by omega),show (l.any fun s=>decide (400 < s.length))=false from List.any_eq_false.2 fun s hs=>by have:=hl s hs;simp;omega];rfl
end Go.Dk
namespace Go.Proofs.YtnmkdiagbkkmaaaGreatDoor
open Go Go.Eng Go.Dk Go.RowKit Go.Pw1 Go.Hp

theorem AJ1 (c:Cd) (q:Option Addr) (cap:Nat) (l:List Str) (ql:Option Addr) (bl ol cl:Nat) (W:World) (hls:Sl W ql bl ol 1 (l.map strC)) :
    Calls Tryz.prog 13 #[c.v q cap,.slice ql l.length cl] W (Pure (.bool (farL c l)) W):=by
  refine Aa0 Tryz.func13 rfl rfl ?_;refine st ?_;refine zn (New.box rfl) (fun b2=>?_)
  refine Ae0 (dj:=11) (dp:=15) 4 rfl (fun g11=>by
    have g11':=g11;try simp only [nH] at g11'
    refine st ?_;refine Ad0 (Al7 rfl Au4) rfl rfl rfl ?_;refine sv ?_;exact zs g11
  ) (fun g11=>by
    have g11':=g11;try simp only [nH] at g11'
    iterate 3 refine Ac0 rfl rfl rfl ?_
    refine sv ?_;exact zs g11
  ) ?_
  refine st ?_;refine cn rfl ?_ ?_
  ·intro c0'
   refine su ?_;exact Aa4 (.r1 rfl (.tmp rfl)) (by rw [Dl5 c0'])
  intro c0';refine st ?_;refine Ae4 (l.length) (fun k q=>(5,.int .i64 (k:Int))::q) (fun _=>_) (fun _=>[]) (fun k=>∀ s∈l.take k,s.length≤400) (by simp) rfl (zE 5 rfl rfl (zS 1 rfl (Sub.nil _))) .nil ?_;intro k kN kI;refine su ?_;refine cn rfl ?_ ?_
  ·intro c1'
   have hk:k < l.length:=by omega
   obtain ⟨v,hv⟩:∃ v,l[k]=v:=⟨_,rfl⟩;refine st ?_;refine lv (Aa7 rfl rfl Au4 (by omega) (by omega) (hls.ptrM (i:=k) hk)) ?_;refine lv (Aa9 rfl (fun w hm=>Sl.loadM1 hls (by decide) hm (by simp) AF5 hk (v:=.string (bs v)) (by simp [strC,hv]))) ?_;refine lv (Ah2 rfl Ao8) ?_;refine cn rfl ?_ ?_
   ·intro c2'
    refine su ?_;exact Aa4 (.r1 rfl (.tmp rfl)) (by rw [Dl4 (hv ▸ List.getElem_mem hk) c2'])
   intro c2';refine st ?_;refine lv (Val.add rfl rfl (IntWalk.i64_in _ ⟨by omega,by omega⟩)) ?_;exact Ad2 (by omega) (fun s hs=>by rw [List.take_succ_eq_append_getElem hk,hv] at hs;rcases List.mem_append.1 hs with hs | hs;exact kI s hs;rw [List.mem_singleton] at hs;subst hs;omega) rfl (zE 5 rfl rfl (zS 1 rfl (Sub.nil _))) .nil
  intro c1';have hk:k=l.length:=by omega
  rw [hk,List.take_length] at kI;refine RunC.exit ?_;refine su ?_;refine Ab1 ?_;refine su ?_;exact Aa4 (.r1 rfl (.tmp rfl)) (by rw [Dl3 c0' kI])
theorem AG8 (c:Cd) (q:Option Addr) (b o cap:Nat) (W:World) (hS:Sl W q b o 9 (c.p.things.map Th.cells)) (hl:c.p.things.length≤100000000000) :
    Calls Tryz.prog 9 #[c.v q cap] W (Pure (.bool (heavyC c)) W):=by
  refine Aa0 Tryz.func9 rfl rfl ?_;refine st ?_;refine zn (New.box rfl) (fun b1=>?_)
  refine Ab3 (dj:=6) (dp:=9) 3 rfl (fun g6=>by
    have g6':=g6;try simp only [nH] at g6'
    refine su ?_;refine Ab7 (zF rfl Do3) rfl rfl rfl (fun w hm=>Bx4 c q b o cap w (hS.mono (by decide) hm (by simp)) hl) ?_;refine sv ?_;exact zs g6
  ) (fun g6=>by
    have g6':=g6;try simp only [nH] at g6'
    refine Ac0 rfl rfl rfl ?_;refine Ac0 rfl rfl rfl ?_;refine sv ?_;exact zs g6
  ) ?_
  refine su ?_;exact Aa4 (.r1 rfl (.tmp rfl)) (by first | rfl | simp)
theorem AP1 (c:Cd) (q:Option Addr) (cap:Nat) (v:VwX) (W:World):Calls Tryz.prog 23 #[c.v q cap,.agg v.cellsS.toArray] W (Pure ((cardV c v.pl).v (ownQ v.t) (ownC v.t)) W):=by
  refine Aa0 Tryz.func23 rfl rfl ?_;refine st ?_;refine zn (New.box rfl) (fun b2=>?_)
  refine zn (New.box rfl) (fun b3=>?_)
  refine zn (New.alloc AY0) (fun b4=>?_)
  refine Ab0 (Sto.store rfl rfl (.there (.there .here)) AY7 rfl rfl) rfl rfl ?_;refine su ?_;refine Ab0 (Sto.store rfl rfl .here Bg0 rfl rfl) rfl rfl ?_;refine su ?_;exact Aa4 (.r1 rfl (.agg rfl (.head _) Bg0 rfl)) (by first | rfl | simp)
end Go.Proofs.YtnmkdiagbkkmaaaGreatDoor
namespace Go.Proofs.YtnmkdiagbkkmaaaGreatDoor
open Go Go.Eng
theorem BS4:Enters Tryz.prog 10:=Aa1 Tryz.func10 (by kernel_rfl) rfl
theorem BS3:Enters Tryz.prog 13:=Aa1 Tryz.func13 (by kernel_rfl) rfl
theorem CY1:Enters Tryz.prog 9:=Aa1 Tryz.func9 (by kernel_rfl) rfl
end Go.Proofs.YtnmkdiagbkkmaaaGreatDoor
namespace Go.Proofs.YtnmkdiagbkkmaaaGreatDoor
open Go Go.Eng
theorem Do4:Enters Tryz.prog 19:=Aa1 Tryz.func19 (by kernel_rfl) rfl
theorem BS1:Enters Tryz.prog 23:=Aa1 Tryz.func23 (by kernel_rfl) rfl
theorem Dl6:aggB Tryz.prog 58=true:=by kernel_rfl
theorem Dr1 (a0:Int) (a1:Int) (a2:Int) (a3:Int) (c0:Int) (c1:Int) (c2:Int) (c3:Int):eqF Tryz.prog 8 58 [.int .i64 a0,.int .i64 a1,.int .i64 a2,.int .i64 a3] [.int .i64 c0,.int .i64 c1,.int .i64 c2,.int .i64 c3]=some (decide (a0=c0) && (decide (a1=c1) && (decide (a2=c2) && (decide (a3=c3) && true)))):=by kernel_rfl
theorem CD9:tyB Tryz.prog 60=some (true,13):=by kernel_rfl
instance:Tyc Tryz.prog 60 true 13:=⟨CD9⟩
end Go.Proofs.YtnmkdiagbkkmaaaGreatDoor
namespace Go.Dk
open Go Go.Eng Go.RowKit Go.Pw1 Go.Hp
structure BenA (W:World) (d:DkX):Prop where
  v:Sl W (ownQ d.v) (ownK d.v) 0 13 (d.vs.map VwX.cellsS)
  t:∀ x∈d.vs,Sl W (ownQ x.t) (ownK x.t) 0 9 (x.p.things.map Th.cells)
  m:MOk W d.mx
  sm:MSm d.mx
end Go.Dk
namespace Go.Proofs.YtnmkdiagbkkmaaaGreatDoor
open Go Go.Eng Go.Dk Go.RowKit Go.Pw1 Go.Hp

theorem AH2 {W0 w:World} {d:DkX} {tl:Blks} (hd:DkOk d) (hm:Mem W0 [] (dkB d++tl) w):BenA w d:=by
  have hat:∀ b o,(b,o)∈dkB d→w.heap[b]? = some o:=fun b o hb=>(hm.newd b o (List.mem_append_left _ hb)).2
  have e1:d.vs.map VwX.cells=d.vs.map VwX.cellsS:=List.map_congr_left fun x hx=>VwX.cells_eq (hd.vs x hx)
  have e2:d.bs.map BoX.cells=(d.bs.map BoX.a).map BxA.cells:=by
    rw [List.map_map];exact List.map_congr_left fun x hx=>BoX.cells_eq (hd.bs x hx)
  refine ⟨?_,fun x hx=>?_,⟨?_,fun x hx=>?_,?_⟩,⟨?_,?_,fun x hx=>?_,fun t ht=>?_⟩⟩
  · rw [← e1]
    exact Ai9 (f:=VwX.cells) (e:=60) (fun _=>rfl) (by decide) hd.v (fun b o h=>hat b o (Dp0 h))
  · exact Ai9 (f:=Th.cells) (e:=107) (fun _=>rfl) (by decide) (hd.vs x hx) (fun b o h=>hat b o (Dp1 hx h))
  · show Sl w (ownQ d.b) (ownK d.b) 0 2 ((d.bs.map BoX.a).map BxA.cells)
    rw [← e2];exact Ai9 (f:=BoX.cells) (e:=126) (fun _=>rfl) (by decide) hd.b (fun b o h=>hat b o (Dp3 h))
  · obtain ⟨y,hy,rfl⟩:=List.mem_map.1 hx
    have h1:=hd.bs y hy;rw [Ap9] at h1;exact Ai9 (f:=strC) (e:=9) (fun _=>rfl) (by decide) h1 (fun b o h=>hat b o (CS0 hy (by rw [boB,Ap9];exact h)))
  · exact Ai9 (f:=Tn.cells) (e:=128) (fun _=>rfl) (by decide) hd.c (fun b o h=>hat b o (Dp2 h))
  · show (d.bs.map BoX.a).length≤1000
    rw [List.length_map]
    have:=hd.few
    omega
  · have:=hd.few
    show d.cs.length≤1000
    omega
  · obtain ⟨y,hy,rfl⟩:=List.mem_map.1 hx
    exact ⟨(hd.ti y hy).1,(hd.ti y hy).2⟩
  · exact hd.tx t ht
end Go.Proofs.YtnmkdiagbkkmaaaGreatDoor
namespace Go.Dk
open Go Go.Eng Go.RowKit Go.Pw1 Go.Hp
theorem BenA.b {W:World} {d:DkX} (h:BenA W d):Sl W (ownQ d.b) (ownK d.b) 0 2 (d.bs.map BoX.cellsS):=by
  have h:=h.m.bx;unfold DkX.mx at h;dsimp only at h;rw [List.map_map] at h;exact h
theorem BenA.c {W:World} {d:DkX} (h:BenA W d):Sl W (ownQ d.c) (ownK d.c) 0 3 (d.cs.map Tn.cells):=h.m.cd
end Go.Dk
namespace Go.Proofs.YtnmkdiagbkkmaaaGreatDoor
open Go Go.Eng Go.Dk Go.RowKit Go.Pw1 Go.Hp

end Go.Proofs.YtnmkdiagbkkmaaaGreatDoor
namespace Go.Dk
open Go Go.Eng Go.RowKit Go.Pw1 Go.Hp
def firstW (s:Str):Str:=(blanks s []).getD 0 []
theorem Ct3 (s:Str):(Lib.cut s [32]).1=firstW s:=by
  unfold Lib.cut firstW;rw [Lib.index_one];have hge:=Lib.indexByte_ge s 32
  by_cases h:Lib.indexByte s 32 < 0
  · rw [if_neg (by omega),AM4 h]
    rfl
  · obtain ⟨i,hi⟩:∃ i:Nat,Lib.indexByte s 32=i:=⟨(Lib.indexByte s 32).toNat,by omega⟩
    rw [if_pos (by omega),(AR9 hi).2,hi];rfl
def playX (c:Cd):Bn→List Str→Bn×List Str
  | b,[]=>(b,[])
  | b,s::l=>((playX c (stepX c b s).1 l).1,echoX (stepX c b s).2.1 (stepX c b s).2.2::(playX c (stepX c b s).1 l).2)
theorem BP8 (c:Cd):∀ (l:List Str) (b:Bn),(playX c b l).2.length=l.length
  | [],_=>rfl
  | s::l,b=>by simp only [playX,List.length_cons];rw [BP8 c l]
end Go.Dk
namespace Go.Proofs.YtnmkdiagbkkmaaaGreatDoor
open Go Go.Eng Go.Dk Go.RowKit Go.Pw1 Go.Hp

theorem Cm8 (w:World):∀ n,Mem w [] [] (w.drewN n):=fun k=>⟨rfl,rfl,rfl,Nat.le_refl _,fun _ _ _=>rfl,fun _ _ h=>(by cases h),fun _ _ h=>(by cases h),by simp⟩
theorem Ca1 (s:Str) (hs:s.length≤100000) (W:World) (hL:Lw Tryz.prog W):Calls Tryz.prog 30 #[.string (bs s),.string (bs [32])] W (Pure (.tuple #[.string (bs (Lib.cut s [32]).1),.string (bs (Lib.cut s [32]).2.1),.bool (Lib.cut s [32]).2.2]) W):=by
  obtain ⟨m,hm⟩:=hL.mx;refine Af3 (Tryz.strings_Cut (bs s) (bs [32]) m W (by show s.length < 4294967281;omega) hm) ?_
  rintro e w' ⟨rfl,n,rfl⟩
  exact ⟨rfl,Cm8 W n⟩
end Go.Proofs.YtnmkdiagbkkmaaaGreatDoor
namespace Go.Dk
open Go Go.Eng Go.Pw1 Go.Hp
theorem Az2 {c:Cd} {b b':Bn} {s r:Str} {v:Vb} (hv:verbX (firstW s)=some v) (h1:firstW s ≠ wBox) (h2:firstW s ≠ wCard) (e:lineX c b s = .ok (b',r)) :
    ∃ ns,numsX ((blanks s []).drop 1)=some ns∧ns.length=v.many∧(v.about=true→N ns 0 < b.views.length)∧v.does c b ns = .ok (b',r):=by
  unfold lineX at e
  split at e
  · cases e
  · split at e
    · cases e
    · rename_i w hw
      obtain ⟨rfl,-⟩:=AL2 hw;have hf:(blanks s []).getD 0 []=firstW s:=rfl;rw [hf,if_neg h1,if_neg h2,hv] at e;dsimp only at e
      split at e
      · cases e
      · rename_i ns hn
        split at e
        · cases e
        · rename_i hm
          split at e
          · cases e
          · rename_i hr
            exact ⟨ns,hn,Classical.not_not.1 hm,fun ha=>Classical.byContradiction fun h=>hr ⟨ha,h⟩,e⟩
variable {c:Cd} {b b':Bn} {i:Nat} {r:Str}
theorem Cj7 {b:Bn} {i:Nat} {v:Vw} (hi:i < b.views.length):(putV b i v).views.getD i noVw=v:=by
  unfold putV;dsimp only;rw [List.getD_eq_getElem?_getD,List.getElem?_set_self hi];rfl
theorem BV5 (hi:i < b.views.length) {x1 x2 y1 y2:Int} (e:thingD b i x1 x2 y1 y2 = .ok (b',r)) :
    0 < (b'.views.getD i noVw).p.things.length∧r=sayX wThing [((b'.views.getD i noVw).p.things.length:Int) - 1,(whyX (b'.views.getD i noVw).p (((b'.views.getD i noVw).p.things.length:Int) - 1)).1]:=by
  unfold thingD at e;dsimp only at e
  split at e
  · cases e
  · split at e
    · cases e
    · split at e
      · cases e
        rw [Cj7 hi];dsimp only;rw [List.length_append,List.length_singleton];refine ⟨by omega,?_⟩
        have h:((((b.views.getD i noVw).p.things.length + 1:Nat):Int) - 1)=((b.views.getD i noVw).p.things.length:Int):=by omega
        rw [h]
      · cases e
theorem Cn0 (hi:i < b.views.length) {k:Nat} {far:Int} (e:markD b i k far = .ok (b',r)):r=sayX wMark [(powerX (b'.views.getD i noVw).p).1.1,(powerX (b'.views.getD i noVw).p).1.2]:=by
  unfold markD at e;dsimp only at e
  split at e
  · cases e
  · split at e
    · cases e
    · split at e
      · cases e
        rw [Cj7 hi]
      · cases e
theorem CM0 {k:Nat} (e:farD b i k = .ok (b',r)):(distX (b'.views.getD i noVw).p k).2=0∧r=sayX wFar [(distX (b'.views.getD i noVw).p k).1.1,(distX (b'.views.getD i noVw).p k).1.2]:=by
  unfold farD at e;dsimp only at e
  split at e
  · cases e
  · split at e
    · rename_i h
      cases e
      exact ⟨h,rfl⟩
    · cases e
theorem BZ0 (e:movedD b i = .ok (b',r)):r=sayX wMoved [(fewestX (b'.views.getD i noVw).p).1]:=by
  unfold movedD at e;dsimp only at e
  split at e
  · cases e;rfl
  · cases e
theorem Ca4 {t:Tr} (e:hurtsD c b i t = .ok (b',r)):r=if (hurtsX (cardV c (b'.views.getD i noVw)) t).2.2=0 then wHurts++32::wNone else sayX wHurts [(hurtsX (cardV c (b'.views.getD i noVw)) t).1,(hurtsX (cardV c (b'.views.getD i noVw)) t).2.1]:=by
  unfold hurtsD at e;dsimp only at e
  split at e
  · rename_i h
    cases e
    rw [if_neg (by rw [h];decide)]
  · split at e
    · rename_i h
      cases e
      rw [if_pos h]
    · cases e
theorem Cg6 (hi:i < b.views.length) (e:trimD c b i = .ok (b',r)):trimX (cardV c (b'.views.getD i noVw))=((b'.views.getD i noVw).cuts,0)∧(b'.views.getD i noVw).up=true ∧
    r=sayX wTrim [(b'.views.getD i noVw).cuts.ll,(b'.views.getD i noVw).cuts.lr,(b'.views.getD i noVw).cuts.rl,(b'.views.getD i noVw).cuts.rr]:=by
  unfold trimD at e;dsimp only at e
  split at e
  · cases e
  · split at e
    · rename_i h
      cases e
      rw [Cj7 hi];refine ⟨?_,rfl,rfl⟩
      show trimX (cardV c (b.views.getD i noVw))=_
      rw [← h]
    · cases e
theorem Cx1 (e:deepD c b i = .ok (b',r)):r=sayX wDeep [(depthsX (cardV c (b'.views.getD i noVw)) (b'.views.getD i noVw).cuts).1.1,(depthsX (cardV c (b'.views.getD i noVw)) (b'.views.getD i noVw).cuts).1.2]:=by
  unfold deepD at e;dsimp only at e
  split at e
  · cases e
  · split at e
    · cases e;rfl
    · cases e
theorem CH7 (e:offD b i = .ok (b',r)):r=sayX wOff [(i:Int)]:=by
  unfold offD at e;dsimp only at e
  split at e
  · cases e
  · cases e;rfl
def atoiL:List Str→Option (List Int)
  | []=>some []
  | s::l=>match Lib.atoiAll s,atoiL l with
    | .ok n,some r=>some (n::r)
    | _,_=>none
def numL (s:Str):List Int:=(atoiL ((blanks s []).drop 1)).getD []
theorem CI1 {s:Str} {n:Int} (h:numX s=some n):Lib.atoiAll s = .ok n:=by
  unfold numX at h
  split at h
  · rename_i m hm
    split at h
    · cases h;exact hm
    · cases h
  · cases h
theorem Bx1:∀ {l:List Str} {ns:List Int},numsX l=some ns→atoiL l=some ns
  | [],ns,h=>h
  | s::l,ns,h=>by
    unfold numsX at h
    split at h
    · rename_i n r hn hr
      cases h
      unfold atoiL;rw [CI1 hn,Bx1 hr]
    · cases h
end Go.Dk
namespace Go.Eng
open Go Go.RowKit
end Go.Eng
namespace Go.Dk
open Go Go.Eng Go.RowKit Go.Pw1 Go.Hp
structure CutOk (c:Cd) (pre:List Str) (d:DkX) (ko ro:Eng.Own) (kl rl:List Str):Prop where
  dk:DkOk d
  o1:OwnOk 1 ko kl.length (kl.map strC).flatten
  o2:OwnOk 1 ro rl.length (rl.map strC).flatten
  pl:playX (bareC c) noBn kl=(d.pl,rl)
  n:kl.length≤pre.length
  s:∀ s∈kl,s∈pre
theorem CutOk.len {c:Cd} {pre:List Str} {d:DkX} {ko ro:Eng.Own} {kl rl:List Str} (h:CutOk c pre d ko ro kl rl):rl.length=kl.length:=by
  have:=BP8 (bareC c) kl noBn
  rw [h.pl] at this;exact this
end Go.Dk
namespace Go.Proofs.YtnmkdiagbkkmaaaGreatDoor
open Go Go.Eng Go.Dk Go.RowKit Go.Pw1 Go.Hp

end Go.Proofs.YtnmkdiagbkkmaaaGreatDoor
namespace Go.Eng
open Go Go.RowKit
theorem BD3 {P:Program} {r:Regs} {W:World} {chg news:Blks} {dst:Option Tmp} {gd:Option (Nat×Bool)} {ty:TypeId} {pos:String} {after:Array Edge} {x:Operand} {T yt:TypeId} {ms:Array (String×TypeId)} {v:Value} {b:Bool} (hx:rev r x=some v) (hT:P.underlying T=some (.interface ms))
    (hv:(b=false∧v = .nilIface)∨(b=true∧∃ t u,v = .iface t u)):Val P r W chg news { dst,op:=.binOp .neq T x (.const .nilIface) yt,type:=ty,pos,after,guard:=gd } (.bool b):=by
  rcases hv with ⟨rfl,rfl⟩ | ⟨rfl,t,u,rfl⟩
  · exact Aq7 hx hT
  · exact An7 hx hT
end Go.Eng
namespace Go.Dk
open Go Go.Eng Go.RowKit Go.Pw1 Go.Hp
abbrev AtZ (s:Str):={z:Int×Value×Bool // (z.2.2=false∧z.2.1 = .nilIface∧Lib.atoiAll s = .ok z.1)∨(z.2.2=true∧(∃ t u,z.2.1 = .iface t u)∧∀ v,Lib.atoiAll s ≠ .ok v)}
theorem AtZ.err {s:Str} (z:AtZ s):(z.1.2.2=false∧z.1.2.1 = .nilIface)∨(z.1.2.2=true∧∃ t u,z.1.2.1 = .iface t u):=by
  rcases z.2 with ⟨h1,h2,-⟩ | ⟨h1,h2,-⟩
  · exact .inl ⟨h1,h2⟩
  · exact .inr ⟨h1,h2⟩
theorem Dg2 {ws:List Str} {k:Nat} (hk:k < ws.length) {ns:List Int} (h:atoiL (ws.take k)=some ns) {s:Str} (hs:ws[k]=s) {n:Int} (hn:Lib.atoiAll s = .ok n):atoiL (ws.take (k + 1))=some (ns++[n]):=by
  have key:∀ (l:List Str) (ns:List Int),atoiL l=some ns→atoiL (l++[s])=some (ns++[n]):=by
    intro l
    induction l with
    | nil=>intro ns h;cases h;simp [atoiL,hn]
    | cons t l ih =>
      intro ns h;unfold atoiL at h
      split at h
      · rename_i m r hm hr
        cases h
        show atoiL (t::(l++[s]))=_
        unfold atoiL;rw [hm,ih r hr];rfl
      · cases h
  rw [List.take_succ_eq_append_getElem hk,hs];exact key _ _ h
theorem BT5 {s:Str} (hn:∀ v,Lib.atoiAll s ≠ .ok v):∀ {ws:List Str},s∈ws→atoiL ws=none
  | [],h=>by cases h
  | t::l,h=>by
    unfold atoiL
    split
    · rename_i m r hm hr
      rcases List.mem_cons.1 h with rfl | h
      · exact absurd hm (hn m)
      · rw [BT5 hn h] at hr;cases hr
    · rfl
end Go.Dk
namespace Go.Proofs.YtnmkdiagbkkmaaaGreatDoor
open Go Go.Eng Go.Dk Go.RowKit Go.Pw1 Go.Hp

theorem BH8 (s:Str) (h:s.length≤281474976710656) (W:World) (hL:Lw Tryz.prog W):Calls Tryz.prog 73 #[.string (bs s)] W (News (fun z:AtZ s=>.tuple #[.int .i64 z.1.1,z.1.2.1]) (fun _=>[]++[]) W):=by
  by_cases hv:∃ v,Lib.atoiAll s = .ok v
  · obtain ⟨v,hv⟩:=hv
    refine Af3 (AP4 s h v hv W) ?_
    rintro e w' ⟨rfl,hm⟩
    exact ⟨⟨(v,.nilIface,false),.inl ⟨rfl,rfl,hv⟩⟩,rfl,hm⟩
  · have hv2:∀ v,Lib.atoiAll s ≠ .ok v:=fun v h=>hv ⟨v,h⟩
    refine Af3 (AP5 s h hv2 W hL) ?_
    rintro e w' ⟨z,rfl,hm⟩
    exact ⟨⟨(z.1,_,true),.inr ⟨rfl,⟨_,_,rfl⟩,hv2⟩⟩,rfl,hm⟩
theorem Bg6 (s:Str) (hs:s.length≤100000) (W:World) (hL:Lw Tryz.prog W) :
    Calls Tryz.prog 29 #[.string (bs s)] W (News (fun z:{z:Eng.Own×List Int // OwnOk 1 z.1 z.2.length (z.2.map intC).flatten∧z.2=numL s}=>ownV z.1.1 z.1.2.length) (fun z=>ownB 3 z.1.1 (z.1.2.map intC).flatten++[]) W):=by
  have hbk:=Av7 _ s (Nat.le_refl _);have hbo:=AC1 s []
  obtain ⟨x,ws,hxw⟩:∃ x ws,blanks s []=x::ws:=by
    cases hb:blanks s [] with
    | nil=>rw [hb] at hbo;exact absurd hbo.2.1 (by simp)
    | cons x ws=>exact ⟨x,ws,rfl⟩
  rw [hxw] at hbk hbo;have hwl:ws.length≤100000:=by have:=hbo.1;simp only [List.length_cons] at this;omega
  have hsh:∀ u∈ws,u.length≤100000:=fun u hu=>by have:=hbo.2.2 u (List.mem_cons_of_mem _ hu);simp only [List.length_nil] at this;omega
  have hnl:numL s=(atoiL ws).getD []:=by unfold numL;rw [hxw];rfl
  have hsp:∀ w,Lw Tryz.prog w→Calls Tryz.prog 72 #[.string (bs s),.string (bs [32])] w (News (fun sb:Nat=>.slice (some ⟨sb,0,none⟩) (ws.length + 1) (ws.length + 1)) (fun sb=>[(sb,sbO (x::ws) [])]) w):=fun w hw=>by
    have h:=AT6 s (by omega) w hw;rw [hbk] at h;exact h
  refine Aa0 Tryz.func29 rfl rfl ?_;refine st ?_;refine Af9 (zF rfl CQ9) rfl rfl rfl (fun w hm=>hsp w (hL.mono hm)) (fun b9=>?_)
  refine st ?_;refine lu (AE7 (n:=ws.length + 1) (v:=.slice (some ⟨b9,if ws.length + 1=1 then 0 else 0 + 1,none⟩) ws.length ws.length) rfl Au4 (by omega) (by omega) rfl) ?_;refine Ag9 (X:=Eng.Own×List Int) (n0:=[(b9,_)]) (ws.length) (fun k y q=>(13,.int .i64 (k:Int))::(2,ownV y.1 y.2.length)::q) (fun _ _=>_) (fun k y=>[]) (fun k y=>ownB 3 y.1 (y.2.map intC).flatten++[]) (fun k y=>OwnOk 1 y.1 y.2.length (y.2.map intC).flatten∧y.2.length=k∧atoiL (ws.take k)=some y.2) (none,[]) ⟨OwnOk.start,rfl,rfl⟩ rfl (zE 13 rfl rfl (zE 2 rfl rfl (zS 11 rfl (zS 12 rfl (Sub.nil _))))) (.cons .here rfl (Pick.same rfl)) ?_;intro k y kN kI;obtain ⟨y1,yl⟩:=y;obtain ⟨kI1,kI2,kI3⟩:=kI;dsimp only at kI1 kI2 kI3 ⊢;refine st ?_;refine cn rfl ?_ ?_
  ·intro c0'
   have hk:k < ws.length:=by omega
   obtain ⟨u,hu⟩:∃ u,ws[k]=u:=⟨_,rfl⟩;have hul:=hsh u (hu ▸ List.getElem_mem hk);refine st ?_;refine lv (Aa7 rfl rfl Au4 (by omega) (by omega) (show (some (⟨b9,if ws.length + 1=1 then 0 else 0 + 1,none⟩:Addr))=some ⟨b9,1,none⟩ by rw [if_neg (by omega)])) ?_;refine lv (Aa9 rfl (fun w hm=>Sl.loadM1 (AL3 (q:=some ⟨b9,1,none⟩) (hm.at (.head _)) (fun _=>rfl)) (by decide) (Mem.refl w) (by simp) AF5 hk (v:=.string (bs u)) (by simp [strC,hu]))) ?_;refine Am9 [(b9,_)] _ rfl (zF rfl Ct7) rfl rfl rfl (fun w hm=>BH8 u (by omega) w (hL.mono hm)) (fun z19=>?_)
   skip
   refine st ?_;refine lv (BD3 rfl Tryz.underlying98 z19.err) ?_;refine cn rfl ?_ ?_
   ·intro c1'
    have hno:=(z19.2.resolve_left (fun h=>absurd (h.1.symm.trans c1') (by decide))).2.2;refine su ?_;exact RunE.ret (chg:=[]) (.r1 rfl (.tmp rfl)) (fun _ hm=>⟨⟨(none,[]),OwnOk.start,by rw [hnl,BT5 hno (hu ▸ List.getElem_mem hk)];rfl⟩,rfl,hm.pick (news':=[]) (Pick.cnt fun x=>by simp only [nC,List.map_append,List.flatten_append,List.map_cons,List.map_nil,List.flatten_cons,List.flatten_nil,List.append_nil];omega)⟩)
   intro c1';have hok:=(z19.2.resolve_right (fun h=>absurd (h.1.symm.trans c1') (by decide))).2.2;refine st ?_;refine zn (New.buildSlice (parts:=[(0,.tmp 25)]) rfl Af4 Am3 rfl rfl rfl rfl) (fun b26=>?_)
   refine RunL.append (A:=[(b26,_),(b9,_)]) (B:=_) (x:=y1) (ys:=intC z19.1.1) Cz1 rfl rfl rfl kI1 rfl (fun h=>by cases h) (fun w hm=>Am5 (hm.at (.head _))) (Ar2 rfl) (by simp only [maxLen];omega) (by omega) rfl (fun z27 hz27=>?_)
   refine st ?_;refine lv (Val.add rfl rfl (IntWalk.i64_in _ ⟨by omega,by omega⟩)) ?_;exact Ac7 (z27,yl++[z19.1.1]) (by omega) ⟨by have h:=hz27;simp only [List.map_append,List.flatten_append,List.length_append,List.length_singleton];simpa using h,by simp [kI2],Dg2 hk kI3 hu hok⟩ rfl (zE 13 rfl rfl (zE 2 rfl (by simp) (zS 11 rfl (zS 12 rfl (Sub.nil _))))) (Pick.cnt fun x=>by simp only [nC,List.map_append,List.flatten_append,List.map_cons,List.map_nil,List.flatten_cons,List.flatten_nil,List.append_nil];omega)
  intro c0';have hk:k=ws.length:=by omega
  rw [hk,List.take_length] at kI3;refine RunC.exit ?_;refine su ?_;refine Ab1 ?_;refine su ?_;exact RunE.ret (chg:=[]) (.r1 rfl (.tmp rfl)) (fun _ hm=>⟨⟨(y1,yl),kI1,by rw [hnl,kI3];rfl⟩,rfl,hm.pick (Pick.skip (Pick.refl _))⟩)
end Go.Proofs.YtnmkdiagbkkmaaaGreatDoor
namespace Go.Dk
open Go Go.Eng Go.RowKit Go.Pw1 Go.Hp
theorem CG8 (w:Str) (l:List Int) (n:Int):sayX w (l++[n])=sayX w l++([32]++Lib.itoa n):=by simp [sayX]
theorem Dj3 {w:Str}:∀ {l:List Int},(∀ n∈l,In64 n)→(sayX w l).length≤w.length + 21 * l.length:=by
  intro l;unfold sayX;rw [List.length_append]
  induction l with
  | nil=>intro _;simp
  | cons n l ih =>
    intro h;have h1:=Az3 (h n (by simp));have h2:=ih (fun x hx=>h x (by simp [hx]));simp only [List.map_cons,List.flatten_cons,List.length_append,List.length_cons] at h2 ⊢;omega
end Go.Dk
namespace Go.Proofs.YtnmkdiagbkkmaaaGreatDoor
open Go Go.Eng Go.Dk Go.RowKit Go.Pw1 Go.Hp

theorem BH2 (word:Str) (hw:word.length≤40) (l:List Int) (hl:l.length≤100) (hin:∀ n∈l,In64 n) (q:Option Addr) (b o cap:Nat) (W:World) (hL:Lw Tryz.prog W) (hS:Sl W q b o 1 (l.map intC)) :
    Calls Tryz.prog 27 #[.string (bs word),.slice q l.length cap] W (Pure (.string (bs (sayX word l))) W):=by
  refine Aa0 Tryz.func27 rfl rfl ?_;refine su ?_;refine Ae4 (l.length) (fun k q=>(9,.int .i64 (k:Int))::(0,.string (bs (sayX word (l.take k))))::q) (fun _=>_) (fun _=>[]) (fun _=>True) trivial rfl (zE 9 rfl rfl (zE 0 rfl (by simp [sayX]) (zS 7 rfl (zS 8 rfl (Sub.nil _))))) .nil ?_;intro k kN kI;clear kI;refine st ?_;refine cn rfl ?_ ?_
  ·intro c0'
   have hk:k < l.length:=by omega
   obtain ⟨u,hu⟩:∃ u,l[k]=u:=⟨_,rfl⟩;have hum:u∈l:=hu ▸ List.getElem_mem hk;have hit:=Az3 (hin u hum);have hsy:=Dj3 (w:=word) (l:=l.take k) (fun n hn=>hin n (List.mem_of_mem_take hn));rw [List.length_take] at hsy;refine st ?_;refine lv (Aa7 rfl rfl Af4 (by omega) (by omega) (hS.ptrM hk)) ?_;refine lv (Aa9 rfl (fun w hm=>Sl.loadM1 hS (by decide) hm (by simp) Ag4 hk (v:=.int .i64 u) (by simp [intC,hu]))) ?_;refine zc (zF rfl Bl2) (fun w hm=>Ax8 u (hin u hum) w (hL.mono hm)) ?_;refine lv (AJ7 rfl rfl (by simp;omega)) ?_;refine lv (AJ7 rfl rfl (by simp;omega)) ?_;refine lv (Val.add rfl rfl (IntWalk.i64_in _ ⟨by omega,by omega⟩)) ?_;exact Ad2 (by omega) trivial rfl (zE 9 rfl rfl (zE 0 rfl (by rw [List.take_succ_eq_append_getElem hk,hu,CG8]) (zS 7 rfl (zS 8 rfl (Sub.nil _))))) .nil
  intro c0';have hk:k=l.length:=by omega
  rw [hk,List.take_length];refine RunC.exit ?_;refine su ?_;refine Ab1 ?_;refine su ?_;exact Aa4 (.r1 rfl (.tmp rfl)) (by first | rfl | simp)
end Go.Proofs.YtnmkdiagbkkmaaaGreatDoor
namespace Go.Dk
open Go Go.Eng Go.Pw1 Go.Hp
def Ne0 (a:Ans):Prop:=∀ k,a = .error k→k ≠ 0
variable {c:Cd} {b:Bn}
theorem CD5:Ne0 (viewD c b):=by
  intro k hk;unfold viewD at hk
  repeat' split at hk
  all_goals cases hk
  all_goals first | decide | assumption
theorem Ch4 {i:Nat} {x1 x2 y1 y2:Int}:Ne0 (thingD b i x1 x2 y1 y2):=by
  intro k hk;unfold thingD at hk;dsimp only at hk
  repeat' split at hk
  all_goals cases hk
  all_goals first | decide | assumption
theorem CJ5 {i j:Nat} {far:Int}:Ne0 (markD b i j far):=by
  intro k hk;unfold markD at hk;dsimp only at hk
  repeat' split at hk
  all_goals cases hk
  all_goals first | decide | assumption
theorem CX9 {i j:Nat}:Ne0 (farD b i j):=by
  intro k hk;unfold farD at hk;dsimp only at hk
  repeat' split at hk
  all_goals cases hk
  all_goals first | decide | assumption
theorem Cm6 {i:Nat}:Ne0 (movedD b i):=by
  intro k hk;unfold movedD at hk;dsimp only at hk
  repeat' split at hk
  all_goals cases hk
  all_goals first | decide | assumption
theorem Cp3 {i:Nat} {t:Tr}:Ne0 (hurtsD c b i t):=by
  intro k hk;unfold hurtsD at hk;dsimp only at hk
  repeat' split at hk
  all_goals cases hk
  all_goals first | decide | assumption
theorem CE3 {i:Nat}:Ne0 (trimD c b i):=by
  intro k hk;unfold trimD at hk;dsimp only at hk
  repeat' split at hk
  all_goals cases hk
  all_goals first | decide | assumption
theorem CN1 {i:Nat}:Ne0 (deepD c b i):=by
  intro k hk;unfold deepD at hk;dsimp only at hk
  repeat' split at hk
  all_goals cases hk
  all_goals first | decide | assumption
theorem CW6 {i:Nat}:Ne0 (offD b i):=by
  intro k hk;unfold offD at hk;dsimp only at hk
  repeat' split at hk
  all_goals cases hk
  all_goals first | decide | assumption
theorem CD2:Ne0 (waysD b):=by
  intro k hk;unfold waysD at hk
  repeat' split at hk
  all_goals cases hk
  all_goals first | decide | assumption
theorem Ce6 {j:Nat}:Ne0 (whichD b j):=by
  intro k hk;unfold whichD at hk;dsimp only at hk
  repeat' split at hk
  all_goals cases hk
  all_goals first | decide | assumption
theorem Df8 {w:List Str}:Ne0 (boxD b w):=by
  intro k hk;unfold boxD at hk;dsimp only at hk
  repeat' split at hk
  all_goals cases hk
  all_goals first | decide | assumption
theorem CN6 {w:List Str}:Ne0 (cardD b w):=by
  intro k hk;unfold cardD at hk;dsimp only at hk
  repeat' split at hk
  all_goals cases hk
  all_goals first | decide | assumption
theorem CM7 {x:Str} {v:Vb} (hv:verbX x=some v) {n:List Int}:Ne0 (v.does c b n):=by
  obtain ⟨k,hk⟩:=Bu4 hv;simp only [verbsX,List.mem_cons,Prod.mk.injEq,List.not_mem_nil,or_false] at hk
  rcases hk with ⟨-,rfl⟩ | ⟨-,rfl⟩ | ⟨-,rfl⟩ | ⟨-,rfl⟩ | ⟨-,rfl⟩ | ⟨-,rfl⟩ | ⟨-,rfl⟩ | ⟨-,rfl⟩ | ⟨-,rfl⟩ | ⟨-,rfl⟩ | ⟨-,rfl⟩
  · exact CD5
  · exact Ch4
  · exact CJ5
  · exact CX9
  · exact Cm6
  · exact Cp3
  · exact CE3
  · exact CN1
  · exact CW6
  · exact CD2
  · exact Ce6
theorem CK0 {s:Str}:Ne0 (lineX c b s):=by
  intro k hk;unfold lineX at hk
  split at hk
  · cases hk;decide
  · split at hk
    · cases hk;decide
    · split at hk
      · exact Df8 k hk
      · split at hk
        · exact CN6 k hk
        · split at hk
          · cases hk;decide
          · rename_i hv
            split at hk
            · cases hk;decide
            · split at hk
              · cases hk;decide
              · split at hk
                · cases hk;decide
                · exact CM7 hv k hk
theorem Ch6 {s r:Str} {b':Bn} {e:Int} (h:(b',r,e)=stepX c b s) (he:e=0):lineX c b s = .ok (b',r):=by
  subst he;unfold stepX at h
  cases hl:lineX c b s with
  | ok y =>
    rw [hl] at h;dsimp only at h
    injection h with h1 h2
    injection h2 with h2 h3
    rw [h1,h2]
  | error k =>
    rw [hl] at h;dsimp only at h
    injection h with h1 h2
    injection h2 with h2 h3
    exact absurd h3.symm (CK0 k hl)
theorem Cy9 {s:Str} {n:Int} (hw:wordX s=true) (h:Lib.atoiAll s = .ok n):0≤n∧n≤9223372036854775807:=by
  unfold wordX at hw;simp only [Bool.and_eq_true] at hw
  cases s with
  | nil=>cases h
  | cons a r =>
    have ha:=List.all_eq_true.1 hw.2 a (by simp)
    have h45:¬ a.toNat=45:=fun e=>by
      unfold wordB at ha;rw [e] at ha;exact absurd ha (by decide)
    unfold Lib.atoiAll at h;dsimp only at h
    split at h
    · cases h
    · cases h
    · split at h
      · cases h
      · rename_i u hu hr
        rw [if_neg (fun e=>h45 e.1)] at h
        cases h
        have:¬ (9223372036854775808:Nat)≤u:=fun e=>hr ⟨h45,e⟩
        omega
theorem Bm1:∀ {l:List Str} {ns:List Int},(∀ w∈l,wordX w=true)→atoiL l=some ns→∀ n∈ns,0≤n∧n≤9223372036854775807
  | [],ns,_,h=>by cases h;intro n hn;cases hn
  | s::l,ns,hw,h=>by
    unfold atoiL at h
    split at h
    · rename_i m r hm hr
      cases h
      intro n hn
      rcases List.mem_cons.1 hn with rfl | hn
      · exact Cy9 (hw s (by simp)) hm
      · exact Bm1 (fun w hx=>hw w (by simp [hx])) hr n hn
    · cases h
theorem BZ6 {s:Str} {y:Bn×Str} (h:lineX c b s = .ok y):∀ w∈blanks s [],wordX w=true:=by
  unfold lineX at h
  split at h
  · cases h
  · split at h
    · cases h
    · rename_i w hw
      obtain ⟨rfl,h2⟩:=AL2 hw;exact h2
theorem Cm0 {s:Str} {y:Bn×Str} (h:lineX c b s = .ok y):∀ n∈numL s,0≤n∧n≤9223372036854775807:=by
  intro n hn;unfold numL at hn
  cases e:atoiL ((blanks s []).drop 1) with
  | none=>rw [e] at hn;cases hn
  | some ns =>
    rw [e] at hn;exact Bm1 (fun w hw=>BZ6 h w (List.mem_of_mem_drop hw)) e n hn
theorem AG0 {s:Str} {ns:List Int} (h:numsX ((blanks s []).drop 1)=some ns):numL s=ns:=by
  unfold numL;rw [Bx1 h];rfl
end Go.Dk
namespace Go.Proofs.YtnmkdiagbkkmaaaGreatDoor
open Go Go.Eng Go.Dk Go.RowKit Go.Pw1 Go.Hp

theorem Cn7 (c:Cd) (q:Option Addr) (b o cap:Nat) (hq:q=none→cap=0) (l:List Str) (ql:Option Addr) (bl ol cl:Nat) (W:World) (hL:Lw Tryz.prog W) (hS:Sl W q b o 9 (c.p.things.map Th.cells)) (hls:Sl W ql bl ol 1 (l.map strC)) (h1:farL c l=true):Calls Tryz.prog 7 #[c.v q cap,.slice ql l.length cl] W (Pure (.bool true) W):=by
  refine Aa0 Tryz.func7 rfl rfl ?_;refine st ?_;refine zn (New.box rfl) (fun b2=>?_)
  refine zc (zF rfl BS3) (fun w hm=>AJ1 c q cap l ql bl ol cl w (hls.mono (by decide) hm (by simp))) ?_;refine Al2 (dj:=39) true rfl h1 ?_;refine su ?_;refine RunC.cond rfl ?_ (fun h=>absurd h (by simp))
  intro c0;clear c0;refine st ?_;refine zc (zF rfl BS4) (fun w hm=>Az7 w (hL.mono hm)) ?_;exact Aa4 (.r1 rfl (.tmp rfl)) (by first | rfl | simp)
theorem BH3 (c:Cd) (q:Option Addr) (b o cap:Nat) (hq:q=none→cap=0) (l:List Str) (ql:Option Addr) (bl ol cl:Nat) (W:World) (hL:Lw Tryz.prog W) (hS:Sl W q b o 9 (c.p.things.map Th.cells)) (hls:Sl W ql bl ol 1 (l.map strC)) (h1:farL c l=false) (h2:heavyC c=true):Calls Tryz.prog 7 #[c.v q cap,.slice ql l.length cl] W (Pure (.bool true) W):=by
  have hl3:=(BI9 h1).1;refine Aa0 Tryz.func7 rfl rfl ?_;refine st ?_;refine zn (New.box rfl) (fun b2=>?_)
  refine zc (zF rfl BS3) (fun w hm=>AJ1 c q cap l ql bl ol cl w (hls.mono (by decide) hm (by simp))) ?_;refine Al2 (dj:=39) false rfl h1 ?_;refine su ?_;refine zc (zF rfl CY1) (fun w hm=>AG8 c q b o cap w (hS.mono (by decide) hm (by simp)) (by omega)) ?_;refine RunC.cond rfl ?_ (fun h=>absurd h (by simp [h2]))
  intro c0;clear c0;refine st ?_;refine zc (zF rfl BS4) (fun w hm=>Az7 w (hL.mono hm)) ?_;exact Aa4 (.r1 rfl (.tmp rfl)) (by first | rfl | simp)
theorem CJ9 (c:Cd) (q:Option Addr) (b o cap:Nat) (hq:q=none→cap=0) (l:List Str) (ql:Option Addr) (bl ol cl:Nat) (W:World) (hL:Lw Tryz.prog W) (hS:Sl W q b o 9 (c.p.things.map Th.cells)) (hls:Sl W ql bl ol 1 (l.map strC)) (h1:farL c l=false) (h2:heavyC c=false) (hc:cardIs c=false):Calls Tryz.prog 7 #[c.v q cap,.slice ql l.length cl] W (Pure (.bool true) W):=by
  have hl3:=(BI9 h1).1;have hund:Tryz.prog.underlying 38=some (.pointer 111):=by kernel_rfl
  refine Aa0 Tryz.func7 rfl rfl ?_;refine st ?_;refine zn (New.box rfl) (fun b2=>?_)
  refine zc (zF rfl BS3) (fun w hm=>AJ1 c q cap l ql bl ol cl w (hls.mono (by decide) hm (by simp))) ?_;refine Al2 (dj:=39) false rfl h1 ?_;refine su ?_;refine zc (zF rfl CY1) (fun w hm=>AG8 c q b o cap w (hS.mono (by decide) hm (by simp)) (by omega)) ?_;refine RunC.cond rfl (fun h=>absurd h (by simp [h2])) ?_;intro c0;clear c0;refine su ?_;refine zc (zF rfl BS2) (fun w hm=>CS7 c q b o cap w (hS.mono (by decide) hm (by simp)) hq (by omega) hc) ?_;refine AK8 rfl ?_;refine st ?_;refine lv (An8 rfl hund) ?_;refine zc (zF rfl BS4) (fun w hm=>Az7 w (hL.mono hm)) ?_;exact Aa4 (.r1 rfl (.tmp rfl)) (by first | rfl | simp)
theorem By1 (s:Str) (hs:s.length≤100000) (W:World) (hL:Lw Tryz.prog W):Calls Tryz.prog 30 #[.string (bs s),.string (bs [32])] W (Pure (.tuple #[.string (bs (firstW s)),.string (bs (Lib.cut s [32]).2.1),.bool (Lib.cut s [32]).2.2]) W):=by
  have h:=Ca1 s hs W hL;rw [Ct3] at h;exact h
theorem Ak4 (word:Str) (l:List Int) (hw:word.length≤40) (hl:l.length≤100) (hin:∀ n∈l,In64 n) (b:Nat) (w:World) (hL:Lw Tryz.prog w) (hb:w.heap[b]? = some (.cells (l.map fun n=>Value.int .i64 n).toArray 3 (0,0))) :
    Calls Tryz.prog 27 #[.string (bs word),.slice (some ⟨b,0,none⟩) l.length l.length] w (Pure (.string (bs (sayX word l))) w):=by
  have e:∀ l:List Int,(l.map fun n=>Value.int .i64 n)=(l.map intC).flatten:=by
    intro l
    induction l with
    | nil=>rfl
    | cons n l ih=>simp only [List.map_cons,List.flatten_cons,← ih];rfl
  rw [e] at hb;exact BH2 word hw l hl hin (some ⟨b,0,none⟩) b 0 l.length w hL (Sl.rows hb (fun x hx=>by obtain ⟨n,_,rfl⟩:=List.mem_map.1 hx;rfl))
end Go.Proofs.YtnmkdiagbkkmaaaGreatDoor
namespace Go.Proofs.YtnmkdiagbkkmaaaGreatDoor
open Go Go.Eng
theorem AT5:Enters Tryz.prog 27:=Aa1 Tryz.func27 (by kernel_rfl) rfl
theorem Do2:Enters Tryz.prog 29:=Aa1 Tryz.func29 (by kernel_rfl) rfl
end Go.Proofs.YtnmkdiagbkkmaaaGreatDoor
namespace Go.Dk
open Go Go.Eng Go.RowKit Go.Pw1 Go.Hp
theorem Dg6 {ns:List Int} (h:∀ n∈ns,0≤n∧n≤9223372036854775807) (k:Nat):ns.getD k 0=(N ns k:Int):=by
  have h1:0≤ns.getD k 0:=by
    rw [List.getD_eq_getElem?_getD]
    cases e:ns[k]? with
    | none=>exact Int.le_refl _
    | some v=>exact (h v (List.mem_of_getElem? e)).1
  unfold N;omega
theorem CU2 (x:Cd):∀ m∈[(trimX x).1.ll,(trimX x).1.lr,(trimX x).1.rl,(trimX x).1.rr],In64 m:=by
  obtain ⟨h1,h2,h3,h4⟩:=BF0 x;intro m hm;simp only [List.mem_cons,List.not_mem_nil,or_false] at hm
  rcases hm with rfl | rfl | rfl | rfl
  · exact h1
  · exact h2
  · exact h3
  · exact h4
theorem CX6 {ns:List Int} (h:∀ n∈ns,0≤n∧n≤9223372036854775807) (k:Nat):In64 (ns.getD k 0):=by
  rw [Dg6 h k];exact Dr8 h k
end Go.Dk
namespace Go.Proofs.YtnmkdiagbkkmaaaGreatDoor
open Go Go.Eng Go.Dk Go.RowKit Go.Pw1 Go.Hp

set_option maxHeartbeats 4000000 in
theorem CJ8 (c:Cd) (q:Option Addr) (b o cap:Nat) (hq:q=none→cap=0) (l:List Str) (ql:Option Addr) (bl ol cl:Nat) (W:World) (hL:Lw Tryz.prog W) (hS:Sl W q b o 9 (c.p.things.map Th.cells)) (hls:Sl W ql bl ol 1 (l.map strC)) (h1:farL c l=false) (h2:heavyC c=false) (hc:cardIs c=true):Calls Tryz.prog 7 #[c.v q cap,.slice ql l.length cl] W (Pure (.bool true) W):=by
  obtain ⟨hl3,hl4,hl5⟩:=BI9 h1;have hund:Tryz.prog.underlying 38=some (.pointer 111):=by kernel_rfl
  refine Aa0 Tryz.func7 rfl rfl ?_;refine st ?_;refine zn (New.box rfl) (fun b2=>?_)
  refine zc (zF rfl BS3) (fun w hm=>AJ1 c q cap l ql bl ol cl w (hls.mono (by decide) hm (by simp))) ?_;refine Al2 (dj:=39) false rfl h1 ?_;refine su ?_;refine zc (zF rfl CY1) (fun w hm=>AG8 c q b o cap w (hS.mono (by decide) hm (by simp)) (by omega)) ?_;refine RunC.cond rfl (fun h=>absurd h (by simp [h2])) ?_;intro c0;clear c0;refine su ?_;refine Af9 (zF rfl BS2) rfl rfl rfl (fun w hm=>CS6 c q b o cap w (hS.mono (by decide) hm (by simp)) hq (by omega) hc) (fun b46=>?_)
  refine st ?_;refine lv (An8 rfl hund) ?_;refine Aq9 rfl ?_;refine su ?_;refine Ag9 (X:=DkX) (n0:=[(b2,_)]) (l.length) (fun k yd q=>(66,.int .i64 (k:Int))::q) (fun _ _=>_) (fun k yd=>[(b46,dkO yd c)]) (fun k yd=>dkB yd++[]) (fun k yd=>DkOk yd) noDk Cm3 rfl (zE 66 rfl rfl (zS 1 rfl (zS 2 rfl (zS 5 rfl (zS 7 rfl (zS 64 rfl (zS 65 rfl (Sub.nil _)))))))) (.cons .here rfl (.cons .here rfl (Pick.same rfl))) ?_;intro k yd kN kI;refine st ?_;refine cn rfl ?_ ?_
  ·intro c2'
   have hk:k < l.length:=by omega
   obtain ⟨v,hv⟩:∃ v,l[k]=v:=⟨_,rfl⟩;have hvm:v∈l:=hv ▸ List.getElem_mem hk;refine st ?_;refine lv (Aa7 rfl rfl Au4 (by omega) (by omega) (hls.ptrM hk)) ?_;refine lv (Aa9 rfl (fun w hm=>Sl.loadM1 hls (by decide) hm (by simp) AF5 hk (v:=.string (bs v)) (by simp [strC,hv]))) ?_;refine As0 (zF rfl CR9) rfl rfl rfl (fun w hm=>(AX6 (nw':=fun z:DkX×Str×Int=>(b46,dkO z.1 c)::(b2,.cells (cellsL (c.v q cap)).toArray 28 (0,0))::(dkB z.1++[])) (Bn5 v (by have:=hl5 v hvm;omega) b46 yd c ((b2,.cells (cellsL (c.v q cap)).toArray 28 (0,0))::[]) W w hL kI (hm.pick (Pick.cnt fun x=>by simp only [nC,dkM];omega))) (fun _=>(Pick.cnt fun x=>by simp only [nC,dkM];omega)))) (fun z73 hz73=>?_)
   obtain ⟨hzd,hzs⟩:=hz73;refine st ?_;refine Am9 [(b46,_),(b2,_)] _ rfl (zF rfl Do2) rfl rfl rfl (fun w hm=>Bg6 v (by have:=hl5 v hvm;omega) w (hL.mono hm)) (fun z77=>?_)
   obtain ⟨⟨nz,nl⟩,hno,hnl⟩:=z77;dsimp only at hno hnl ⊢;obtain ⟨na0,hna0⟩:∃ n,nl.getD 0 0=n:=⟨_,rfl⟩;obtain ⟨na1,hna1⟩:∃ n,nl.getD 1 0=n:=⟨_,rfl⟩;obtain ⟨na2,hna2⟩:∃ n,nl.getD 2 0=n:=⟨_,rfl⟩;obtain ⟨na3,hna3⟩:∃ n,nl.getD 3 0=n:=⟨_,rfl⟩;obtain ⟨na4,hna4⟩:∃ n,nl.getD 4 0=n:=⟨_,rfl⟩;refine st ?_;refine Am9 [(b46,_),(b2,_)] _ rfl (zF rfl Do4) rfl rfl rfl (fun w hm=>BN0 b46 z73.1 c hzd w (Ao4 hzd (hm.pick (news':=dkM b46 z73.1 c []) (Pick.cnt fun x=>by simp only [nC,dkM];omega)))) (fun z79=>?_)
   skip
   refine zn (New.alloc Bn7) (fun b13=>?_)
   refine Ab0 (Sto.store (cs:=[.slice none 0 0,.slice none 0 0,.slice none 0 0]) (cs':=[ownV z79.1.v z79.1.vs.length,ownV z79.1.b z79.1.bs.length,ownV z79.1.c z79.1.cs.length]) rfl rfl .here BV1 rfl (by have h:=AL7 (ownV z79.1.v z79.1.vs.length) (ownV z79.1.b z79.1.bs.length) (ownV z79.1.c z79.1.cs.length) (Af0 _ _) (Af0 _ _) (Af0 _ _);exact h)) rfl rfl ?_;refine nnx ?_;refine RunC.seq ?_;refine RunC.seq ?_
   apply Ai7 (J:=J0 _ _ _ _ _ _) 14 Aj2 (.cons .here rfl (.cons .here rfl (.cons .here rfl (Pick.refl _))))
   ·refine va 0 rfl (Aa2 rfl) rfl rfl rfl (.cons .here rfl (.cons .here rfl (.cons .here rfl (Pick.refl _)))) rfl ?_
    refine va 1 rfl (Aa2 rfl) rfl rfl rfl (.cons .here rfl (.cons .here rfl (.cons .here rfl (Pick.refl _)))) rfl ?_;refine va 2 rfl (Aa2 rfl) rfl rfl rfl (.cons .here rfl (.cons .here rfl (.cons .here rfl (Pick.refl _)))) rfl ?_;refine Al3 (dj:=82) rfl ?_ ?_
    ·intro g82
     have g82':=g82;clear g82;try simp only [nH] at g82'
     refine Ag7 (i:=3) rfl (by kernel_rfl) (by kernel_rfl) rfl rfl rfl (fun _ _ _ h=>h) (.cons .here rfl (.cons .here rfl (.cons .here rfl (Pick.refl _)))) rfl ?_;refine Ag7 (i:=4) rfl (by kernel_rfl) (by kernel_rfl) rfl rfl rfl (fun _ _ _ h=>h) (.cons .here rfl (.cons .here rfl (.cons .here rfl (Pick.refl _)))) rfl ?_;refine Ag7 (i:=5) rfl (by kernel_rfl) (by kernel_rfl) rfl rfl rfl (fun _ _ _ h=>h) (.cons .here rfl (.cons .here rfl (.cons .here rfl (Pick.refl _)))) rfl ?_;refine va 6 rfl (Aa2 rfl) rfl rfl rfl (.cons .here rfl (.cons .here rfl (.cons .here rfl (Pick.refl _)))) rfl ?_;refine va 7 rfl (Aa2 rfl) rfl rfl rfl (.cons .here rfl (.cons .here rfl (.cons .here rfl (Pick.refl _)))) rfl ?_;refine Al3 (dj:=87) rfl ?_ ?_
     ·intro g87
      have g87':=g87;clear g87;try simp only [nH] at g87'
      refine Ag7 (i:=8) rfl (by kernel_rfl) (by kernel_rfl) rfl rfl rfl (fun _ _ _ h=>h) (.cons .here rfl (.cons .here rfl (.cons .here rfl (Pick.refl _)))) rfl ?_;refine Ag7 (i:=9) rfl (by kernel_rfl) (by kernel_rfl) rfl rfl rfl (fun _ _ _ h=>h) (.cons .here rfl (.cons .here rfl (.cons .here rfl (Pick.refl _)))) rfl ?_;refine Ag7 (i:=10) rfl (by kernel_rfl) (by kernel_rfl) rfl rfl rfl (fun _ _ _ h=>h) (.cons .here rfl (.cons .here rfl (.cons .here rfl (Pick.refl _)))) rfl ?_;refine Ag7 (i:=11) rfl (by kernel_rfl) (by kernel_rfl) rfl rfl rfl (fun _ _ _ h=>h) (.cons .here rfl (.cons .here rfl (.cons .here rfl (Pick.refl _)))) rfl ?_;refine Ag7 (i:=12) rfl (by kernel_rfl) (by kernel_rfl) rfl rfl rfl (fun _ _ _ h=>h) (.cons .here rfl (.cons .here rfl (.cons .here rfl (Pick.refl _)))) rfl ?_;refine Ag7 (i:=13) rfl (by kernel_rfl) (by kernel_rfl) rfl rfl rfl (fun _ _ _ h=>h) (.cons .here rfl (.cons .here rfl (.cons .here rfl (Pick.refl _)))) rfl ?_;refine zt ?_;refine zB 14 ?_;refine An0 rfl rfl rfl rfl (Ab8 ?_)
      refine zp 15 ?_;refine zd ?_;exact Al8  (zE 95 (v:=.bool (decide (z73.2.2 ≠ 0∨(nl.length:Int)=0∨(z79.1.vs.length:Int)≤na0))) rfl (by first | rfl | exact absurd g87' (by decide) | (refine congrArg Value.bool (Bool.eq_iff_iff.2 ?_);simp only [Bool.or_eq_true,Bool.and_eq_true,Bool.not_eq_true',Bool.or_eq_false_iff,Bool.and_eq_false_iff,Bool.not_eq_false',decide_eq_true_eq,decide_eq_false_iff_not,Bool.false_eq_true,true_iff,false_iff,iff_true,iff_false,and_true,true_and,Bool.and_true,Bool.true_and];omega)) (Sub.skip rfl (Sub.skip rfl (Sub.skip rfl (Sub.skip rfl (Sub.skip rfl (Sub.skip rfl (Sub.skip rfl (Sub.skip rfl (Sub.skip rfl (Sub.skip rfl (Sub.skip rfl (Sub.skip rfl (Sub.skip rfl (Sub.skip rfl (Sub.skip rfl (Sub.skip rfl (Sub.skip rfl (Sub.skip rfl (Ac1 _)))))))))))))))))))) (Pick.refl _)
     intro g87;have g87':=g87;clear g87;try simp only [nH] at g87'
     have hn0:0 < nl.length:=by first | omega | exact absurd g87' (by decide)
     refine va 8 rfl (Aa2 rfl) rfl rfl rfl (.cons .here rfl (.cons .here rfl (.cons .here rfl (Pick.refl _)))) rfl ?_;refine va 9 rfl (Aa7 (by show some (ownV nz nl.length)=_;rw [Ac8 hno]) rfl Af4 (by decide) (by omega) (An4 hno (by omega))) rfl rfl rfl (.cons .here rfl (.cons .here rfl (.cons .here rfl (Pick.refl _)))) rfl ?_;refine va 10 rfl (Aa9 rfl (fun w hm=>Sl.cellE (Ai9 (f:=intC) (e:=3) (fun _=>rfl) (by decide) hno (fun b o h=>hm.at (.tail _ (.tail _ (.tail _ ((by first | exact List.mem_append_right _ (List.mem_append_left _ h) | exact List.mem_append_right _ (List.mem_append_right _ (List.mem_append_left _ h))))))))) (Mem.refl w) (by simp) Ag4 (i:=0) (by omega) (x:=na0) (by rw [← hna0,List.getD_eq_getElem?_getD,List.getElem?_eq_getElem (by omega)];rfl) (j:=0) (by decide) (v:=.int .i64 na0) rfl (by simp))) rfl rfl rfl (.cons .here rfl (.cons .here rfl (.cons .here rfl (Pick.refl _)))) rfl ?_;refine va 11 rfl (Val.fieldAddr rfl AX3) rfl rfl rfl (.cons .here rfl (.cons .here rfl (.cons .here rfl (Pick.refl _)))) rfl ?_;refine va 12 rfl (Ab6 rfl (.head _) AY6 rfl) rfl rfl rfl (.cons .here rfl (.cons .here rfl (.cons .here rfl (Pick.refl _)))) rfl ?_;refine va 13 rfl (Ah8 rfl AD0 z79.2.1.v) rfl rfl rfl (.cons .here rfl (.cons .here rfl (.cons .here rfl (Pick.refl _)))) rfl ?_;refine zt ?_;refine zp 14 ?_;refine zp 15 ?_;refine zd ?_;exact Al8  (zE 95 (v:=.bool (decide (z73.2.2 ≠ 0∨(nl.length:Int)=0∨(z79.1.vs.length:Int)≤na0))) rfl (by first | rfl | exact absurd g87' (by decide) | (refine congrArg Value.bool (Bool.eq_iff_iff.2 ?_);simp only [Bool.or_eq_true,Bool.and_eq_true,Bool.not_eq_true',Bool.or_eq_false_iff,Bool.and_eq_false_iff,Bool.not_eq_false',decide_eq_true_eq,decide_eq_false_iff_not,Bool.false_eq_true,true_iff,false_iff,iff_true,iff_false,and_true,true_and,Bool.and_true,Bool.true_and];omega)) (Sub.skip rfl (Sub.skip rfl (Sub.skip rfl (Sub.skip rfl (Sub.skip rfl (Sub.skip rfl (Sub.skip rfl (Sub.skip rfl (Sub.skip rfl (Sub.skip rfl (Sub.skip rfl (Sub.skip rfl (Sub.skip rfl (Sub.skip rfl (Sub.skip rfl (Sub.skip rfl (Sub.skip rfl (Sub.skip rfl (Ac1 _)))))))))))))))))))) (.cons .here rfl (.cons .here rfl (.cons .here rfl (Pick.refl _))))
    intro g82;have g82':=g82;clear g82;try simp only [nH] at g82'
    refine va 3 rfl (Aa2 rfl) rfl rfl rfl (.cons .here rfl (.cons .here rfl (.cons .here rfl (Pick.refl _)))) rfl ?_;refine va 4 rfl (Ah8 rfl Af4 hno) rfl rfl rfl (.cons .here rfl (.cons .here rfl (.cons .here rfl (Pick.refl _)))) rfl ?_;refine va 5 rfl (Aa2 rfl) rfl rfl rfl (.cons .here rfl (.cons .here rfl (.cons .here rfl (Pick.refl _)))) rfl ?_;refine va 6 rfl (Aa2 rfl) rfl rfl rfl (.cons .here rfl (.cons .here rfl (.cons .here rfl (Pick.refl _)))) rfl ?_;refine va 7 rfl (Aa2 rfl) rfl rfl rfl (.cons .here rfl (.cons .here rfl (.cons .here rfl (Pick.refl _)))) rfl ?_;refine Al3 (dj:=87) rfl ?_ ?_
    ·intro g87
     have g87':=g87;clear g87;try simp only [nH] at g87'
     refine Ag7 (i:=8) rfl (by kernel_rfl) (by kernel_rfl) rfl rfl rfl (fun _ _ _ h=>h) (.cons .here rfl (.cons .here rfl (.cons .here rfl (Pick.refl _)))) rfl ?_;refine Ag7 (i:=9) rfl (by kernel_rfl) (by kernel_rfl) rfl rfl rfl (fun _ _ _ h=>h) (.cons .here rfl (.cons .here rfl (.cons .here rfl (Pick.refl _)))) rfl ?_;refine Ag7 (i:=10) rfl (by kernel_rfl) (by kernel_rfl) rfl rfl rfl (fun _ _ _ h=>h) (.cons .here rfl (.cons .here rfl (.cons .here rfl (Pick.refl _)))) rfl ?_;refine Ag7 (i:=11) rfl (by kernel_rfl) (by kernel_rfl) rfl rfl rfl (fun _ _ _ h=>h) (.cons .here rfl (.cons .here rfl (.cons .here rfl (Pick.refl _)))) rfl ?_;refine Ag7 (i:=12) rfl (by kernel_rfl) (by kernel_rfl) rfl rfl rfl (fun _ _ _ h=>h) (.cons .here rfl (.cons .here rfl (.cons .here rfl (Pick.refl _)))) rfl ?_;refine Ag7 (i:=13) rfl (by kernel_rfl) (by kernel_rfl) rfl rfl rfl (fun _ _ _ h=>h) (.cons .here rfl (.cons .here rfl (.cons .here rfl (Pick.refl _)))) rfl ?_;refine zt ?_;refine zB 14 ?_;refine An0 rfl rfl rfl rfl (Ab8 ?_)
     refine zp 15 ?_;refine zd ?_;exact Al8  (zE 95 (v:=.bool (decide (z73.2.2 ≠ 0∨(nl.length:Int)=0∨(z79.1.vs.length:Int)≤na0))) rfl (by first | rfl | exact absurd g87' (by decide) | (refine congrArg Value.bool (Bool.eq_iff_iff.2 ?_);simp only [Bool.or_eq_true,Bool.and_eq_true,Bool.not_eq_true',Bool.or_eq_false_iff,Bool.and_eq_false_iff,Bool.not_eq_false',decide_eq_true_eq,decide_eq_false_iff_not,Bool.false_eq_true,true_iff,false_iff,iff_true,iff_false,and_true,true_and,Bool.and_true,Bool.true_and];omega)) (Sub.skip rfl (Sub.skip rfl (Sub.skip rfl (Sub.skip rfl (Sub.skip rfl (Sub.skip rfl (Sub.skip rfl (Sub.skip rfl (Sub.skip rfl (Sub.skip rfl (Sub.skip rfl (Sub.skip rfl (Sub.skip rfl (Sub.skip rfl (Sub.skip rfl (Sub.skip rfl (Sub.skip rfl (Sub.skip rfl (Ac1 _)))))))))))))))))))) (.cons .here rfl (.cons .here rfl (.cons .here rfl (Pick.refl _))))
    intro g87;have g87':=g87;clear g87;try simp only [nH] at g87'
    have hn0:0 < nl.length:=by first | omega | exact absurd g87' (by decide)
    refine va 8 rfl (Aa2 rfl) rfl rfl rfl (.cons .here rfl (.cons .here rfl (.cons .here rfl (Pick.refl _)))) rfl ?_;refine va 9 rfl (Aa7 (by show some (ownV nz nl.length)=_;rw [Ac8 hno]) rfl Af4 (by decide) (by omega) (An4 hno (by omega))) rfl rfl rfl (.cons .here rfl (.cons .here rfl (.cons .here rfl (Pick.refl _)))) rfl ?_;refine va 10 rfl (Aa9 rfl (fun w hm=>Sl.cellE (Ai9 (f:=intC) (e:=3) (fun _=>rfl) (by decide) hno (fun b o h=>hm.at (.tail _ (.tail _ (.tail _ ((by first | exact List.mem_append_right _ (List.mem_append_left _ h) | exact List.mem_append_right _ (List.mem_append_right _ (List.mem_append_left _ h))))))))) (Mem.refl w) (by simp) Ag4 (i:=0) (by omega) (x:=na0) (by rw [← hna0,List.getD_eq_getElem?_getD,List.getElem?_eq_getElem (by omega)];rfl) (j:=0) (by decide) (v:=.int .i64 na0) rfl (by simp))) rfl rfl rfl (.cons .here rfl (.cons .here rfl (.cons .here rfl (Pick.refl _)))) rfl ?_;refine va 11 rfl (Val.fieldAddr rfl AX3) rfl rfl rfl (.cons .here rfl (.cons .here rfl (.cons .here rfl (Pick.refl _)))) rfl ?_;refine va 12 rfl (Ab6 rfl (.head _) AY6 rfl) rfl rfl rfl (.cons .here rfl (.cons .here rfl (.cons .here rfl (Pick.refl _)))) rfl ?_;refine va 13 rfl (Ah8 rfl AD0 z79.2.1.v) rfl rfl rfl (.cons .here rfl (.cons .here rfl (.cons .here rfl (Pick.refl _)))) rfl ?_;refine zt ?_;refine zp 14 ?_;refine zp 15 ?_;refine zd ?_;exact Al8  (zE 95 (v:=.bool (decide (z73.2.2 ≠ 0∨(nl.length:Int)=0∨(z79.1.vs.length:Int)≤na0))) rfl (by first | rfl | exact absurd g87' (by decide) | (refine congrArg Value.bool (Bool.eq_iff_iff.2 ?_);simp only [Bool.or_eq_true,Bool.and_eq_true,Bool.not_eq_true',Bool.or_eq_false_iff,Bool.and_eq_false_iff,Bool.not_eq_false',decide_eq_true_eq,decide_eq_false_iff_not,Bool.false_eq_true,true_iff,false_iff,iff_true,iff_false,and_true,true_and,Bool.and_true,Bool.true_and];omega)) (Sub.skip rfl (Sub.skip rfl (Sub.skip rfl (Sub.skip rfl (Sub.skip rfl (Sub.skip rfl (Sub.skip rfl (Sub.skip rfl (Sub.skip rfl (Sub.skip rfl (Sub.skip rfl (Sub.skip rfl (Sub.skip rfl (Sub.skip rfl (Sub.skip rfl (Sub.skip rfl (Sub.skip rfl (Sub.skip rfl (Ac1 _)))))))))))))))))))) (.cons .here rfl (.cons .here rfl (.cons .here rfl (Pick.refl _))))
   refine J0.out ?_;refine st ?_;refine cn rfl ?_ ?_
   ·intro c3'
    refine RunC.exit ?_;refine Ai2 ?_;refine Ab1 ?_;refine st ?_;refine lv (Val.add rfl rfl (IntWalk.i64_in _ ⟨by omega,by omega⟩)) ?_;exact Ac7 z73.1 (by omega) hzd rfl (zE 66 rfl rfl (zS 1 rfl (zS 2 rfl (zS 5 rfl (zS 7 rfl (zS 64 rfl (zS 65 rfl (Sub.nil _)))))))) (Pick.cnt fun x=>by simp only [nC,dkM];omega)
   intro c3';have hc3:z73.2.2=0∧¬ (nl.length:Int)=0∧na0 < (z79.1.vs.length:Int):=by (refine ⟨?_,?_,?_⟩ <;> omega)
   obtain ⟨he0,hn0,hlt⟩:=hc3;have hline:=Ch6 hzs he0;have hng:=Cm0 hline;rw [← hnl] at hng;obtain ⟨i,hi⟩:∃ i:Nat,na0=(i:Int):=⟨N nl 0,by rw [← hna0];exact Dg6 hng 0⟩;have hNi:N nl 0=i:=by (unfold N;rw [hna0,hi];rfl)
   have hik:i < z79.1.vs.length:=by omega
   obtain ⟨u,hu⟩:∃ u,z79.1.vs[i]=u:=⟨_,rfl⟩;have hum:u∈z79.1.vs:=hu ▸ List.getElem_mem hik;have hun:u.p.things.length≤12:=z79.2.1.things u hum;have hpu:z73.1.pl.views.getD i noVw=u.pl:=by (rw [← z79.2.2];exact pl_view hik hu)
   refine st ?_;refine zc (zF rfl Cu6) (fun w hm=>By1 v (by have:=hl5 v hvm;omega) w (hL.mono hm)) ?_;refine Ac6 8 Aj2 (.cons .here rfl (.cons .here rfl (.cons .here rfl (Pick.refl _)))) ?_;refine va 0 rfl (Val.fieldAddr rfl AX3) rfl rfl rfl (.cons .here rfl (.cons .here rfl (.cons .here rfl (Pick.refl _)))) rfl ?_;refine va 1 rfl (Ab6 rfl (.head _) AY6 rfl) rfl rfl rfl (.cons .here rfl (.cons .here rfl (.cons .here rfl (Pick.refl _)))) rfl ?_;refine va 2 rfl (Aa2 rfl) rfl rfl rfl (.cons .here rfl (.cons .here rfl (.cons .here rfl (Pick.refl _)))) rfl ?_;refine va 3 rfl (Aa7 (by show some (ownV nz nl.length)=_;rw [Ac8 hno]) rfl Af4 (by decide) (by omega) (An4 hno (by omega))) rfl rfl rfl (.cons .here rfl (.cons .here rfl (.cons .here rfl (Pick.refl _)))) rfl ?_;refine va 4 rfl (Aa9 rfl (fun w hm=>Sl.cellE (Ai9 (f:=intC) (e:=3) (fun _=>rfl) (by decide) hno (fun b o h=>hm.at (.tail _ (.tail _ (.tail _ ((by first | exact List.mem_append_right _ (List.mem_append_left _ h) | exact List.mem_append_right _ (List.mem_append_right _ (List.mem_append_left _ h))))))))) (Mem.refl w) (by simp) Ag4 (i:=0) (by omega) (x:=(i:Int)) (by rw [← hi,← hna0,List.getD_eq_getElem?_getD,List.getElem?_eq_getElem (by omega)];rfl) (j:=0) (by decide) (v:=.int .i64 (i:Int)) rfl (by simp))) rfl rfl rfl (.cons .here rfl (.cons .here rfl (.cons .here rfl (Pick.refl _)))) rfl ?_;refine va 5 rfl (Aa7 (by show some (ownV z79.1.v z79.1.vs.length)=_;rw [Ac8 z79.2.1.v]) rfl AD0 (by omega) (by omega) (An4 z79.2.1.v (by omega))) rfl rfl rfl (.cons .here rfl (.cons .here rfl (.cons .here rfl (Pick.refl _)))) rfl ?_;refine va 6 rfl (Aa9 rfl (fun w hm=>(AH2 z79.2.1 (hm.pick (news':=dkB z79.1++[]) (Pick.cnt fun x=>by simp only [nC,dkM];omega))).v.loadX (by decide) (Mem.refl w) (by simp) CD9 hik hu)) rfl rfl rfl (.cons .here rfl (.cons .here rfl (.cons .here rfl (Pick.refl _)))) rfl ?_;refine zA 7 ?_;refine Ac4 rfl (New.alloc Bn6) rfl rfl rfl (fun b17=>(Aa5 (.cons .here rfl (.cons .here rfl (.cons .here rfl (.cons .here rfl (Pick.refl _))))) (.cons (.there .here) rfl (.cons (.there .here) rfl (.cons (.there .here) rfl (Pick.skip (Pick.refl _))))) rfl ?_))
   refine zt ?_;refine zB 8 ?_;refine Ab9 rfl (Sto.store rfl rfl .here CD9 rfl rfl) rfl rfl (Ab8 ?_)
   refine zd ?_;refine su ?_;refine lv (Ak2 (b:=wThing) rfl rfl) ?_;refine cn rfl ?_ ?_
   ·intro c4'
    obtain ⟨ns,hn1,hn2,hn3,hn4⟩:=Az2 (v:=_) (show verbX (firstW v)=some _ by rw [c4'];rfl) (by rw [c4'];decide) (by rw [c4'];decide) hline;obtain rfl:nl=ns:=by rw [hnl,AG0 hn1]
    have hn5:thingD yd.pl i na1 na2 na3 na4 = .ok (z73.1.pl,z73.2.1):=by (rw [← hNi,← hna1,← hna2,← hna3,← hna4];exact hn4)
    have hi3:i < yd.pl.views.length:=by (rw [← hNi];exact hn3 rfl)
    obtain ⟨hs0,hsay⟩:=BV5 hi3 hn5;rw [hpu] at hs0 hsay;have hs0:0 < u.p.things.length:=hs0;have hsay:z73.2.1=sayX wThing [(u.p.things.length:Int) - 1,(whyX u.p ((u.p.things.length:Int) - 1)).1]:=hsay;refine su ?_;refine lv (Ae6 rfl rfl (IntWalk.i64_in _ ⟨by omega,by omega⟩)) ?_;refine zc (zF rfl Cu3) (fun w hm=>Be7 u.p ((u.p.things.length:Int) - 1) (ownQ u.t) (ownK u.t) 0 (ownC u.t) w ((AH2 z79.2.1 (hm.pick (news':=dkB z79.1++[]) (Pick.cnt fun x=>by simp only [nC,dkM];omega))).t u hum) (by omega)) ?_;refine lv (Ae6 rfl rfl (IntWalk.i64_in _ ⟨by omega,by omega⟩)) ?_;refine zn (New.buildSlice (parts:=[(0,.tmp 126),(1,.tmp 127)]) rfl Af4 Am3 rfl rfl rfl rfl) (fun b128=>?_)
    refine Ab7 (Ac2 rfl rfl AT5) rfl rfl rfl (fun w hm=>Ak4 wThing [(u.p.things.length:Int) - 1,(whyX u.p ((u.p.things.length:Int) - 1)).1] (by decide) (by simp) (AG3 (by unfold In64;omega) (Ce5 _ _)) b128 w (hL.mono hm) (hm.at (.head _))) ?_;refine st ?_;refine lv (Ai5 rfl rfl) ?_;refine RunC.cond rfl (fun h=>absurd h (by first | (rw [hsay];simp;done) | (rw [hsay];rfl) | (rw [hsay];decide) | simp [hsay])) ?_;intro c16;clear c16;refine st ?_;refine lv (Val.add rfl rfl (IntWalk.i64_in _ ⟨by omega,by omega⟩)) ?_;exact Ac7 z73.1 (by omega) hzd rfl (zE 66 rfl rfl (zS 1 rfl (zS 2 rfl (zS 5 rfl (zS 7 rfl (zS 64 rfl (zS 65 rfl (Sub.nil _)))))))) (Pick.cnt fun x=>by simp only [nC,dkM];omega)
   intro c4';refine st ?_;refine lv (Ak2 (b:=wMark) rfl rfl) ?_;refine cn rfl ?_ ?_
   ·intro c5'
    obtain ⟨ns,hn1,hn2,hn3,hn4⟩:=Az2 (v:=_) (show verbX (firstW v)=some _ by rw [c5'];rfl) (by rw [c5'];decide) (by rw [c5'];decide) hline;obtain rfl:nl=ns:=by rw [hnl,AG0 hn1]
    have hn5:markD yd.pl i (N nl 1) na2 = .ok (z73.1.pl,z73.2.1):=by (rw [← hNi,← hna2];exact hn4)
    have hi3:i < yd.pl.views.length:=by (rw [← hNi];exact hn3 rfl)
    have hsay:=Cn0 hi3 hn5;rw [hpu] at hsay;have hsay:z73.2.1=sayX wMark [(powerX u.p).1.1,(powerX u.p).1.2]:=hsay;refine su ?_;refine zc (zF rfl Cv3) (fun w hm=>AM7 u.p (ownQ u.t) (ownK u.t) 0 (ownC u.t) w ((AH2 z79.2.1 (hm.pick (news':=dkB z79.1++[]) (Pick.cnt fun x=>by simp only [nC,dkM];omega))).t u hum) (by omega)) ?_;refine zn (New.alloc Ad7) (fun b22=>?_)
    refine Ab0 (Sto.store rfl rfl .here Ag0 rfl rfl) rfl rfl ?_;refine su ?_;refine zn (New.buildSlice (parts:=[(0,.tmp 140),(1,.tmp 142)]) rfl Af4 Am3 rfl rfl rfl rfl) (fun b143=>?_)
    refine Ab7 (Ac2 rfl rfl AT5) rfl rfl rfl (fun w hm=>Ak4 wMark [(powerX u.p).1.1,(powerX u.p).1.2] (by decide) (by simp) (AG3 (AN5 _).1 (AN5 _).2) b143 w (hL.mono hm) (hm.at (.head _))) ?_;refine st ?_;refine lv (Ai5 rfl rfl) ?_;refine RunC.cond rfl (fun h=>absurd h (by first | (rw [hsay];simp;done) | (rw [hsay];rfl) | (rw [hsay];decide) | simp [hsay])) ?_;intro c16;clear c16;refine st ?_;refine lv (Val.add rfl rfl (IntWalk.i64_in _ ⟨by omega,by omega⟩)) ?_;exact Ac7 z73.1 (by omega) hzd rfl (zE 66 rfl rfl (zS 1 rfl (zS 2 rfl (zS 5 rfl (zS 7 rfl (zS 64 rfl (zS 65 rfl (Sub.nil _)))))))) (Pick.cnt fun x=>by simp only [nC,dkM];omega)
   intro c5';refine st ?_;refine lv (Ak2 (b:=wFar) rfl rfl) ?_;refine cn rfl ?_ ?_
   ·intro c6'
    obtain ⟨ns,hn1,hn2,hn3,hn4⟩:=Az2 (v:=_) (show verbX (firstW v)=some _ by rw [c6'];rfl) (by rw [c6'];decide) (by rw [c6'];decide) hline;obtain rfl:nl=ns:=by rw [hnl,AG0 hn1]
    have hn5:farD yd.pl i (N nl 1) = .ok (z73.1.pl,z73.2.1):=by (rw [← hNi];exact hn4)
    have hi3:i < yd.pl.views.length:=by (rw [← hNi];exact hn3 rfl)
    obtain ⟨hs0,hsay⟩:=CM0 hn5;rw [hpu] at hs0 hsay;have h1l:nl.length=2:=hn2;have hN1:(N nl 1:Int)=na1:=by rw [← hna1];exact (Dg6 hng 1).symm
    rw [hN1] at hs0 hsay;have hs1:(distX u.p na1).2=0:=hs0;have hsay:z73.2.1=sayX wFar [(distX u.p na1).1.1,(distX u.p na1).1.2]:=hsay;refine RunC.seq ?_
    apply Ai7 (J:=J1 _ _ _ _ _ _) 11 Aj2 (.cons .here rfl (.cons .here rfl (.cons .here rfl (.cons .here rfl (Pick.refl _)))))
    ·refine va 0 rfl (Val.fieldAddr rfl AX2) rfl rfl rfl (.cons .here rfl (.cons .here rfl (.cons .here rfl (.cons .here rfl (Pick.refl _))))) rfl ?_
     refine va 1 rfl (Ag2 rfl (.head _) AY7 rfl) rfl rfl rfl (.cons .here rfl (.cons .here rfl (.cons .here rfl (.cons .here rfl (Pick.refl _))))) rfl ?_;refine va 2 rfl (Aa2 rfl) rfl rfl rfl (.cons .here rfl (.cons .here rfl (.cons .here rfl (.cons .here rfl (Pick.refl _))))) rfl ?_;refine va 3 rfl (Aa7 (by show some (ownV nz nl.length)=_;rw [Ac8 hno]) rfl Af4 (by decide) (by omega) (An4 hno (by omega))) rfl rfl rfl (.cons .here rfl (.cons .here rfl (.cons .here rfl (.cons .here rfl (Pick.refl _))))) rfl ?_;refine va 4 rfl (Aa9 rfl (fun w hm=>Sl.cellE (Ai9 (f:=intC) (e:=3) (fun _=>rfl) (by decide) hno (fun b o h=>hm.at (.tail _ (.tail _ (.tail _ (.tail _ ((by first | exact List.mem_append_right _ (List.mem_append_left _ h) | exact List.mem_append_right _ (List.mem_append_right _ (List.mem_append_left _ h)))))))))) (Mem.refl w) (by simp) Ag4 (i:=1) (by omega) (x:=na1) (by rw [← hna1,List.getD_eq_getElem?_getD,List.getElem?_eq_getElem (by omega)];rfl) (j:=0) (by decide) (v:=.int .i64 na1) rfl (by simp))) rfl rfl rfl (.cons .here rfl (.cons .here rfl (.cons .here rfl (.cons .here rfl (Pick.refl _))))) rfl ?_;refine Ag3 (rs:=[5,9]) (by kernel_rfl) (by simp) (by kernel_rfl) (fun m hm=>?_)
     simp only [List.mem_cons,List.not_mem_nil,or_false] at hm
     rcases hm with rfl | rfl
     ·refine Ab4 rfl (zF rfl BS0) rfl rfl rfl (fun w hm=>As9 u.p na1 (ownQ u.t) (ownK u.t) 0 (ownC u.t) w ((AH2 z79.2.1 (hm.pick (news':=dkB z79.1++[]) (Pick.cnt fun x=>by simp only [nC,dkM];omega))).t u hum) (by omega)) (Aa5 (.cons .here rfl (.cons .here rfl (.cons .here rfl (.cons .here rfl (Pick.refl _))))) (.cons .here rfl (.cons .here rfl (.cons .here rfl (.cons .here rfl (Pick.refl _))))) rfl ?_)
      refine va 6 rfl (Aa2 rfl) rfl rfl rfl (.cons .here rfl (.cons .here rfl (.cons .here rfl (.cons .here rfl (Pick.refl _))))) rfl ?_;refine va 7 rfl (Aa2 rfl) rfl rfl rfl (.cons .here rfl (.cons .here rfl (.cons .here rfl (.cons .here rfl (Pick.refl _))))) rfl ?_;refine va 8 rfl (Aa2 rfl) rfl rfl rfl (.cons .here rfl (.cons .here rfl (.cons .here rfl (.cons .here rfl (Pick.refl _))))) rfl ?_;refine zA 9 ?_;refine Ac4 rfl (New.alloc Ad7) rfl rfl rfl (fun b24=>(Aa5 (.cons (.there .here) rfl (.cons (.there .here) rfl (.cons (.there .here) rfl (.cons (.there .here) rfl (Pick.skip (Pick.refl _)))))) (.cons .here rfl (.cons .here rfl (.cons .here rfl (.cons .here rfl (Pick.refl _))))) rfl ?_))
      refine zA 10 ?_;refine Ab9 rfl (Sto.store rfl rfl .here Ag0 rfl rfl) rfl rfl (Aa5 (.cons (.there .here) rfl (.cons (.there .here) rfl (.cons (.there .here) rfl (.cons (.there .here) rfl (Pick.skip (Pick.refl _)))))) (.cons .here rfl (.cons .here rfl (.cons .here rfl (.cons .here rfl (Pick.refl _))))) rfl ?_)
      refine zt ?_;refine zp 11 ?_;refine zd ?_;exact Ae3 b24 (Ac1 _) (Pick.refl _)
     refine Ac4 rfl (New.alloc Ad7) rfl rfl rfl (fun b24=>(Aa5 (.cons (.there .here) rfl (.cons (.there .here) rfl (.cons (.there .here) rfl (.cons (.there .here) rfl (Pick.skip (Pick.refl _)))))) (.cons .here rfl (.cons .here rfl (.cons .here rfl (.cons .here rfl (Pick.refl _))))) rfl ?_))
     refine zA 5 ?_;refine Ab4 rfl (zF rfl BS0) rfl rfl rfl (fun w hm=>As9 u.p na1 (ownQ u.t) (ownK u.t) 0 (ownC u.t) w ((AH2 z79.2.1 (hm.pick (news':=dkB z79.1++[]) (Pick.cnt fun x=>by simp only [nC,dkM];omega))).t u hum) (by omega)) (Aa5 (.cons (.there .here) rfl (.cons (.there .here) rfl (.cons (.there .here) rfl (.cons (.there .here) rfl (Pick.skip (Pick.refl _)))))) (.cons .here rfl (.cons .here rfl (.cons .here rfl (.cons .here rfl (Pick.refl _))))) rfl ?_)
     refine va 6 rfl (Aa2 rfl) rfl rfl rfl (.cons (.there .here) rfl (.cons (.there .here) rfl (.cons (.there .here) rfl (.cons (.there .here) rfl (Pick.skip (Pick.refl _)))))) rfl ?_;refine va 7 rfl (Aa2 rfl) rfl rfl rfl (.cons (.there .here) rfl (.cons (.there .here) rfl (.cons (.there .here) rfl (.cons (.there .here) rfl (Pick.skip (Pick.refl _)))))) rfl ?_;refine va 8 rfl (Aa2 rfl) rfl rfl rfl (.cons (.there .here) rfl (.cons (.there .here) rfl (.cons (.there .here) rfl (.cons (.there .here) rfl (Pick.skip (Pick.refl _)))))) rfl ?_;refine zA 10 ?_;refine Ab9 rfl (Sto.store rfl rfl .here Ag0 rfl rfl) rfl rfl (Aa5 (.cons (.there .here) rfl (.cons (.there .here) rfl (.cons (.there .here) rfl (.cons (.there .here) rfl (Pick.skip (Pick.refl _)))))) (.cons .here rfl (.cons .here rfl (.cons .here rfl (.cons .here rfl (Pick.refl _))))) rfl ?_)
     refine zt ?_;refine zp 11 ?_;refine zd ?_;exact Ae3 b24 (zS 25 rfl (zS 24 rfl (zS 155 rfl (zS 154 rfl (zS 147 rfl (zS 153 rfl (zS 152 rfl (zS 151 rfl (zS 150 rfl (zS 149 rfl (zS 148 rfl (Sub.skip rfl (Sub.skip rfl (Sub.skip rfl (Sub.skip rfl (Sub.skip rfl (Sub.skip rfl (Sub.skip rfl (Sub.skip rfl (Sub.skip rfl (Sub.skip rfl (Sub.skip rfl (Ac1 _))))))))))))))))))))))) (.cons .here rfl (.cons .here rfl (.cons .here rfl (.cons .here rfl (.cons .here rfl (Pick.refl _))))))
    refine J1.out (fun b24=>?_)
    refine st ?_;refine RunC.cond rfl (fun h=>absurd h (by simp [hs1])) ?_;intro c7;clear c7;refine su ?_;refine zn (New.buildSlice (parts:=[(0,.tmp 160),(1,.tmp 162)]) rfl Af4 Am3 rfl rfl rfl rfl) (fun b163=>?_)
    refine Ab7 (Ac2 rfl rfl AT5) rfl rfl rfl (fun w hm=>Ak4 wFar [(distX u.p na1).1.1,(distX u.p na1).1.2] (by decide) (by simp) (AG3 (Bd6 _ _).1 (Bd6 _ _).2) b163 w (hL.mono hm) (hm.at (.head _))) ?_;refine st ?_;refine lv (Ai5 rfl rfl) ?_;refine RunC.cond rfl (fun h=>absurd h (by first | (rw [hsay];simp;done) | (rw [hsay];rfl) | (rw [hsay];decide) | simp [hsay])) ?_;intro c16;clear c16;refine st ?_;refine lv (Val.add rfl rfl (IntWalk.i64_in _ ⟨by omega,by omega⟩)) ?_;exact Ac7 z73.1 (by omega) hzd rfl (zE 66 rfl rfl (zS 1 rfl (zS 2 rfl (zS 5 rfl (zS 7 rfl (zS 64 rfl (zS 65 rfl (Sub.nil _)))))))) (Pick.cnt fun x=>by simp only [nC,dkM];omega)
   intro c6';refine st ?_;refine lv (Ak2 (b:=wMoved) rfl rfl) ?_;refine cn rfl ?_ ?_
   ·intro c8'
    obtain ⟨ns,hn1,hn2,hn3,hn4⟩:=Az2 (v:=_) (show verbX (firstW v)=some _ by rw [c8'];rfl) (by rw [c8'];decide) (by rw [c8'];decide) hline;obtain rfl:nl=ns:=by rw [hnl,AG0 hn1]
    have hn5:movedD yd.pl i = .ok (z73.1.pl,z73.2.1):=by (rw [← hNi];exact hn4)
    have hi3:i < yd.pl.views.length:=by (rw [← hNi];exact hn3 rfl)
    have hsay:=BZ0 hn5;rw [hpu] at hsay;have hsay:z73.2.1=sayX wMoved [(fewestX u.p).1]:=hsay;refine su ?_;refine zc (zF rfl Cu2) (fun w hm=>AH8 u.p (ownQ u.t) (ownK u.t) 0 (ownC u.t) w ((AH2 z79.2.1 (hm.pick (news':=dkB z79.1++[]) (Pick.cnt fun x=>by simp only [nC,dkM];omega))).t u hum) (by omega)) ?_;refine zn (New.alloc Ad7) (fun b27=>?_)
    refine Ab0 (Sto.store rfl rfl .here Ag0 rfl rfl) rfl rfl ?_;refine st ?_;refine zn (New.buildSlice (parts:=[(0,.tmp 175)]) rfl Af4 Am3 rfl rfl rfl rfl) (fun b176=>?_)
    refine Ab7 (Ac2 rfl rfl AT5) rfl rfl rfl (fun w hm=>Ak4 wMoved [(fewestX u.p).1] (by decide) (by simp) (AK3 (Bc9 _)) b176 w (hL.mono hm) (hm.at (.head _))) ?_;refine st ?_;refine lv (Ai5 rfl rfl) ?_;refine RunC.cond rfl (fun h=>absurd h (by first | (rw [hsay];simp;done) | (rw [hsay];rfl) | (rw [hsay];decide) | simp [hsay])) ?_;intro c16;clear c16;refine st ?_;refine lv (Val.add rfl rfl (IntWalk.i64_in _ ⟨by omega,by omega⟩)) ?_;exact Ac7 z73.1 (by omega) hzd rfl (zE 66 rfl rfl (zS 1 rfl (zS 2 rfl (zS 5 rfl (zS 7 rfl (zS 64 rfl (zS 65 rfl (Sub.nil _)))))))) (Pick.cnt fun x=>by simp only [nC,dkM];omega)
   intro c8';refine st ?_;refine lv (Ak2 (b:=wHurts) rfl rfl) ?_;refine cn rfl ?_ ?_
   ·intro c9'
    obtain ⟨ns,hn1,hn2,hn3,hn4⟩:=Az2 (v:=_) (show verbX (firstW v)=some _ by rw [c9'];rfl) (by rw [c9'];decide) (by rw [c9'];decide) hline;obtain rfl:nl=ns:=by rw [hnl,AG0 hn1]
    have hn5:hurtsD (bareC c) yd.pl i ⟨na1,na2,na3,na4⟩ = .ok (z73.1.pl,z73.2.1):=by (rw [← hNi,← hna1,← hna2,← hna3,← hna4];exact hn4)
    have hi3:i < yd.pl.views.length:=by (rw [← hNi];exact hn3 rfl)
    have hsay:=Ca4 hn5;rw [hpu] at hsay;have h1l:nl.length=5:=hn2;have hsay:z73.2.1=if (hurtsX (cardV c u.pl) ⟨na1,na2,na3,na4⟩).2.2=0 then wHurts++32::wNone else sayX wHurts [(hurtsX (cardV c u.pl) ⟨na1,na2,na3,na4⟩).1,(hurtsX (cardV c u.pl) ⟨na1,na2,na3,na4⟩).2.1]:=hsay;refine st ?_;refine lv (Ah8 rfl Af4 hno) ?_;refine RunC.cond rfl (fun h=>absurd h (by simp [h1l])) ?_;intro c10;clear c10;refine st ?_;refine Ac6 23 Aj2 (.cons .here rfl (.cons .here rfl (.cons .here rfl (.cons .here rfl (Pick.refl _))))) ?_;refine va 0 rfl (Ag2 rfl (.tail _ (.tail _ (.tail _ (.head _)))) Bg0 rfl) rfl rfl rfl (.cons .here rfl (.cons .here rfl (.cons .here rfl (.cons .here rfl (Pick.refl _))))) rfl ?_;refine va 1 rfl (Ag2 rfl (.head _) CD9 rfl) rfl rfl rfl (.cons .here rfl (.cons .here rfl (.cons .here rfl (.cons .here rfl (Pick.refl _))))) rfl ?_;refine va 3 rfl (Aa2 rfl) rfl rfl rfl (.cons .here rfl (.cons .here rfl (.cons .here rfl (.cons .here rfl (Pick.refl _))))) rfl ?_;refine va 4 rfl (Aa7 (by show some (ownV nz nl.length)=_;rw [Ac8 hno]) rfl Af4 (by decide) (by omega) (An4 hno (by omega))) rfl rfl rfl (.cons .here rfl (.cons .here rfl (.cons .here rfl (.cons .here rfl (Pick.refl _))))) rfl ?_;refine va 5 rfl (Aa9 rfl (fun w hm=>Sl.cellE (Ai9 (f:=intC) (e:=3) (fun _=>rfl) (by decide) hno (fun b o h=>hm.at (.tail _ (.tail _ (.tail _ (.tail _ ((by first | exact List.mem_append_right _ (List.mem_append_left _ h) | exact List.mem_append_right _ (List.mem_append_right _ (List.mem_append_left _ h)))))))))) (Mem.refl w) (by simp) Ag4 (i:=1) (by omega) (x:=na1) (by rw [← hna1,List.getD_eq_getElem?_getD,List.getElem?_eq_getElem (by omega)];rfl) (j:=0) (by decide) (v:=.int .i64 na1) rfl (by simp))) rfl rfl rfl (.cons .here rfl (.cons .here rfl (.cons .here rfl (.cons .here rfl (Pick.refl _))))) rfl ?_;refine va 6 rfl (Aa2 rfl) rfl rfl rfl (.cons .here rfl (.cons .here rfl (.cons .here rfl (.cons .here rfl (Pick.refl _))))) rfl ?_;refine va 7 rfl (Aa7 (by show some (ownV nz nl.length)=_;rw [Ac8 hno]) rfl Af4 (by decide) (by omega) (An4 hno (by omega))) rfl rfl rfl (.cons .here rfl (.cons .here rfl (.cons .here rfl (.cons .here rfl (Pick.refl _))))) rfl ?_;refine va 8 rfl (Aa9 rfl (fun w hm=>Sl.cellE (Ai9 (f:=intC) (e:=3) (fun _=>rfl) (by decide) hno (fun b o h=>hm.at (.tail _ (.tail _ (.tail _ (.tail _ ((by first | exact List.mem_append_right _ (List.mem_append_left _ h) | exact List.mem_append_right _ (List.mem_append_right _ (List.mem_append_left _ h)))))))))) (Mem.refl w) (by simp) Ag4 (i:=2) (by omega) (x:=na2) (by rw [← hna2,List.getD_eq_getElem?_getD,List.getElem?_eq_getElem (by omega)];rfl) (j:=0) (by decide) (v:=.int .i64 na2) rfl (by simp))) rfl rfl rfl (.cons .here rfl (.cons .here rfl (.cons .here rfl (.cons .here rfl (Pick.refl _))))) rfl ?_;refine va 9 rfl (Aa2 rfl) rfl rfl rfl (.cons .here rfl (.cons .here rfl (.cons .here rfl (.cons .here rfl (Pick.refl _))))) rfl ?_;refine va 10 rfl (Aa7 (by show some (ownV nz nl.length)=_;rw [Ac8 hno]) rfl Af4 (by decide) (by omega) (An4 hno (by omega))) rfl rfl rfl (.cons .here rfl (.cons .here rfl (.cons .here rfl (.cons .here rfl (Pick.refl _))))) rfl ?_;refine va 11 rfl (Aa9 rfl (fun w hm=>Sl.cellE (Ai9 (f:=intC) (e:=3) (fun _=>rfl) (by decide) hno (fun b o h=>hm.at (.tail _ (.tail _ (.tail _ (.tail _ ((by first | exact List.mem_append_right _ (List.mem_append_left _ h) | exact List.mem_append_right _ (List.mem_append_right _ (List.mem_append_left _ h)))))))))) (Mem.refl w) (by simp) Ag4 (i:=3) (by omega) (x:=na3) (by rw [← hna3,List.getD_eq_getElem?_getD,List.getElem?_eq_getElem (by omega)];rfl) (j:=0) (by decide) (v:=.int .i64 na3) rfl (by simp))) rfl rfl rfl (.cons .here rfl (.cons .here rfl (.cons .here rfl (.cons .here rfl (Pick.refl _))))) rfl ?_;refine va 12 rfl (Aa2 rfl) rfl rfl rfl (.cons .here rfl (.cons .here rfl (.cons .here rfl (.cons .here rfl (Pick.refl _))))) rfl ?_;refine va 13 rfl (Aa7 (by show some (ownV nz nl.length)=_;rw [Ac8 hno]) rfl Af4 (by decide) (by omega) (An4 hno (by omega))) rfl rfl rfl (.cons .here rfl (.cons .here rfl (.cons .here rfl (.cons .here rfl (Pick.refl _))))) rfl ?_;refine va 14 rfl (Aa9 rfl (fun w hm=>Sl.cellE (Ai9 (f:=intC) (e:=3) (fun _=>rfl) (by decide) hno (fun b o h=>hm.at (.tail _ (.tail _ (.tail _ (.tail _ ((by first | exact List.mem_append_right _ (List.mem_append_left _ h) | exact List.mem_append_right _ (List.mem_append_right _ (List.mem_append_left _ h)))))))))) (Mem.refl w) (by simp) Ag4 (i:=4) (by omega) (x:=na4) (by rw [← hna4,List.getD_eq_getElem?_getD,List.getElem?_eq_getElem (by omega)];rfl) (j:=0) (by decide) (v:=.int .i64 na4) rfl (by simp))) rfl rfl rfl (.cons .here rfl (.cons .here rfl (.cons .here rfl (.cons .here rfl (Pick.refl _))))) rfl ?_;refine va 15 rfl (Val.build (parts:=[(0,.tmp 189),(1,.tmp 192),(2,.tmp 195),(3,.tmp 198)]) rfl Am2 AB5 rfl) rfl rfl rfl (.cons .here rfl (.cons .here rfl (.cons .here rfl (.cons .here rfl (Pick.refl _))))) rfl ?_;refine zA 2 ?_;refine Ab4 rfl (zF rfl BS1) rfl rfl rfl (fun w hm=>AP1 c q cap u w) (Aa5 (.cons .here rfl (.cons .here rfl (.cons .here rfl (.cons .here rfl (Pick.refl _))))) (.cons .here rfl (.cons .here rfl (.cons .here rfl (.cons .here rfl (Pick.refl _))))) rfl ?_)
    refine zA 16 ?_;refine Ab4 rfl (zF rfl CR8) rfl rfl rfl (fun w hm=>Bf7 (cardV c u.pl) ⟨na1,na2,na3,na4⟩ (ownQ u.t) (ownK u.t) 0 (ownC u.t) w ((AH2 z79.2.1 (hm.pick (news':=dkB z79.1++[]) (Pick.cnt fun x=>by simp only [nC,dkM];omega))).t u hum) (by show u.p.things.length≤_;omega)) (Aa5 (.cons .here rfl (.cons .here rfl (.cons .here rfl (.cons .here rfl (Pick.refl _))))) (.cons .here rfl (.cons .here rfl (.cons .here rfl (.cons .here rfl (Pick.refl _))))) rfl ?_)
    refine va 17 rfl (Aa2 rfl) rfl rfl rfl (.cons .here rfl (.cons .here rfl (.cons .here rfl (.cons .here rfl (Pick.refl _))))) rfl ?_;refine va 18 rfl (Aa2 rfl) rfl rfl rfl (.cons .here rfl (.cons .here rfl (.cons .here rfl (.cons .here rfl (Pick.refl _))))) rfl ?_;refine va 19 rfl (Aa2 rfl) rfl rfl rfl (.cons .here rfl (.cons .here rfl (.cons .here rfl (.cons .here rfl (Pick.refl _))))) rfl ?_;refine va 20 rfl (Aa2 rfl) rfl rfl rfl (.cons .here rfl (.cons .here rfl (.cons .here rfl (.cons .here rfl (Pick.refl _))))) rfl ?_;refine va 21 rfl (Aa2 rfl) rfl rfl rfl (.cons .here rfl (.cons .here rfl (.cons .here rfl (.cons .here rfl (Pick.refl _))))) rfl ?_;refine va 22 rfl (Aa2 rfl) rfl rfl rfl (.cons .here rfl (.cons .here rfl (.cons .here rfl (.cons .here rfl (Pick.refl _))))) rfl ?_;refine zt ?_;refine zp 23 ?_;refine zd ?_;refine st ?_;refine zn (New.buildSlice (parts:=[(0,.tmp 205),(1,.tmp 206)]) rfl Af4 Am3 rfl rfl rfl rfl) (fun b207=>?_)
    refine Ab7 (Ac2 rfl rfl AT5) rfl rfl rfl (fun w hm=>Ak4 wHurts [(hurtsX (cardV c u.pl) ⟨na1,na2,na3,na4⟩).1,(hurtsX (cardV c u.pl) ⟨na1,na2,na3,na4⟩).2.1] (by decide) (by simp) (AG3 (AW8 _ _ (by show u.p.things.length≤_;omega)).1 (AW8 _ _ (by show u.p.things.length≤_;omega)).2) b207 w (hL.mono hm) (hm.at (.head _))) ?_;refine st ?_;refine cn rfl ?_ ?_
    ·intro c11'
     rw [if_pos c11'] at hsay;refine st ?_;refine lv (Ai5 rfl rfl) ?_;refine RunC.cond rfl (fun h=>absurd h (by first | (rw [hsay];simp;done) | (rw [hsay];rfl) | (rw [hsay];decide) | simp [hsay])) ?_;intro c16;clear c16;refine st ?_;refine lv (Val.add rfl rfl (IntWalk.i64_in _ ⟨by omega,by omega⟩)) ?_;exact Ac7 z73.1 (by omega) hzd rfl (zE 66 rfl rfl (zS 1 rfl (zS 2 rfl (zS 5 rfl (zS 7 rfl (zS 64 rfl (zS 65 rfl (Sub.nil _)))))))) (Pick.cnt fun x=>by simp only [nC,dkM];omega)
    intro c11';rw [if_neg c11'] at hsay;refine st ?_;refine lv (Ai5 rfl rfl) ?_;refine RunC.cond rfl (fun h=>absurd h (by first | (rw [hsay];simp;done) | (rw [hsay];rfl) | (rw [hsay];decide) | simp [hsay])) ?_;intro c16;clear c16;refine st ?_;refine lv (Val.add rfl rfl (IntWalk.i64_in _ ⟨by omega,by omega⟩)) ?_;exact Ac7 z73.1 (by omega) hzd rfl (zE 66 rfl rfl (zS 1 rfl (zS 2 rfl (zS 5 rfl (zS 7 rfl (zS 64 rfl (zS 65 rfl (Sub.nil _)))))))) (Pick.cnt fun x=>by simp only [nC,dkM];omega)
   intro c9';refine st ?_;refine lv (Ak2 (b:=wTrim) rfl rfl) ?_;refine cn rfl ?_ ?_
   ·intro c12'
    obtain ⟨ns,hn1,hn2,hn3,hn4⟩:=Az2 (v:=_) (show verbX (firstW v)=some _ by rw [c12'];rfl) (by rw [c12'];decide) (by rw [c12'];decide) hline;obtain rfl:nl=ns:=by rw [hnl,AG0 hn1]
    have hn5:trimD (bareC c) yd.pl i = .ok (z73.1.pl,z73.2.1):=by (rw [← hNi];exact hn4)
    have hi3:i < yd.pl.views.length:=by (rw [← hNi];exact hn3 rfl)
    obtain ⟨hs0,hs1,hsay⟩:=Cg6 hi3 hn5;rw [hpu] at hs0 hs1 hsay;have hs0:trimX (cardV c u.pl)=(u.cuts,0):=hs0;have hs1:u.up=true:=hs1;have hsay:z73.2.1=sayX wTrim [u.cuts.ll,u.cuts.lr,u.cuts.rl,u.cuts.rr]:=hsay;have hsay:z73.2.1=sayX wTrim [(trimX (cardV c u.pl)).1.ll,(trimX (cardV c u.pl)).1.lr,(trimX (cardV c u.pl)).1.rl,(trimX (cardV c u.pl)).1.rr]:=by rw [hs0];exact hsay
    refine su ?_;refine zc (zF rfl BS1) (fun w hm=>AP1 c q cap u w) ?_;refine zc (zF rfl CR6) (fun w hm=>Bm4 (cardV c u.pl) (ownQ u.t) (ownK u.t) 0 (ownC u.t) w ((AH2 z79.2.1 (hm.pick (news':=dkB z79.1++[]) (Pick.cnt fun x=>by simp only [nC,dkM];omega))).t u hum) (by show u.p.things.length≤_;omega)) ?_;refine zn (New.alloc Am2) (fun b32=>?_)
    refine Ab0 (Sto.store rfl rfl .here AF1 rfl rfl) rfl rfl ?_;refine st ?_;refine Al2 (dj:=222) false rfl (by rw [hs0];simp) ?_;refine su ?_;refine lv (AU3 rfl rfl Dl6 (Dr1 _ _ _ _ _ _ _ _ )) ?_;refine Al2 (dj:=228) false rfl (by rw [hs0];simp) ?_;refine su ?_;refine RunC.cond rfl (fun h=>absurd h (by simp [hs1])) ?_;intro c13;clear c13;refine su ?_;refine zn (New.buildSlice (parts:=[(0,.tmp 235),(1,.tmp 237),(2,.tmp 239),(3,.tmp 241)]) rfl Af4 Am3 rfl rfl rfl rfl) (fun b242=>?_)
    refine Ab7 (Ac2 rfl rfl AT5) rfl rfl rfl (fun w hm=>Ak4 wTrim [(trimX (cardV c u.pl)).1.ll,(trimX (cardV c u.pl)).1.lr,(trimX (cardV c u.pl)).1.rl,(trimX (cardV c u.pl)).1.rr] (by decide) (by simp) (CU2 _) b242 w (hL.mono hm) (hm.at (.head _))) ?_;refine st ?_;refine lv (Ai5 rfl rfl) ?_;refine RunC.cond rfl (fun h=>absurd h (by first | (rw [hsay];simp;done) | (rw [hsay];rfl) | (rw [hsay];decide) | simp [hsay])) ?_;intro c16;clear c16;refine st ?_;refine lv (Val.add rfl rfl (IntWalk.i64_in _ ⟨by omega,by omega⟩)) ?_;exact Ac7 z73.1 (by omega) hzd rfl (zE 66 rfl rfl (zS 1 rfl (zS 2 rfl (zS 5 rfl (zS 7 rfl (zS 64 rfl (zS 65 rfl (Sub.nil _)))))))) (Pick.cnt fun x=>by simp only [nC,dkM];omega)
   intro c12';refine st ?_;refine lv (Ak2 (b:=wDeep) rfl rfl) ?_;refine cn rfl ?_ ?_
   ·intro c14'
    obtain ⟨ns,hn1,hn2,hn3,hn4⟩:=Az2 (v:=_) (show verbX (firstW v)=some _ by rw [c14'];rfl) (by rw [c14'];decide) (by rw [c14'];decide) hline;obtain rfl:nl=ns:=by rw [hnl,AG0 hn1]
    have hn5:deepD (bareC c) yd.pl i = .ok (z73.1.pl,z73.2.1):=by (rw [← hNi];exact hn4)
    have hi3:i < yd.pl.views.length:=by (rw [← hNi];exact hn3 rfl)
    have hsay:=Cx1 hn5;rw [hpu] at hsay;have hsay:z73.2.1=sayX wDeep [(depthsX (cardV c u.pl) u.cuts).1.1,(depthsX (cardV c u.pl) u.cuts).1.2]:=hsay;refine RunC.seq ?_
    apply Ai7 (J:=J1 _ _ _ _ _ _) 11 Aj2 (.cons .here rfl (.cons .here rfl (.cons .here rfl (.cons .here rfl .nil))))
    ·refine zw 0 ?_
     refine zw 1 ?_;refine zw 3 ?_;refine zw 4 ?_;refine Ag3 (rs:=[2,9]) (by kernel_rfl) (by simp) (by kernel_rfl) (fun m hm=>?_)
     simp only [List.mem_cons,List.not_mem_nil,or_false] at hm
     rcases hm with rfl | rfl
     ·refine Ab4 rfl (zF rfl BS1) rfl rfl rfl (fun w hm=>AP1 c q cap u w) (Aa5 (.cons .here rfl (.cons .here rfl (.cons .here rfl (.cons .here rfl .nil)))) (.cons .here rfl (.cons .here rfl (.cons .here rfl (.cons .here rfl .nil)))) rfl ?_)
      refine Ag3 (rs:=[5,9]) (by kernel_rfl) (by simp) (by kernel_rfl) (fun m hm=>?_)
      simp only [List.mem_cons,List.not_mem_nil,or_false] at hm
      rcases hm with rfl | rfl
      ·refine Ab4 rfl (zF rfl Bl1) rfl rfl rfl (fun w hm=>Ap7 (cardV c u.pl) u.cuts (ownQ u.t) (ownK u.t) 0 (ownC u.t) w ((AH2 z79.2.1 (hm.pick (news':=dkB z79.1++[]) (Pick.cnt fun x=>by simp only [nC,dkM];omega))).t u hum) (by show u.p.things.length≤_;omega)) (Aa5 (.cons .here rfl (.cons .here rfl (.cons .here rfl (.cons .here rfl .nil)))) (.cons .here rfl (.cons .here rfl (.cons .here rfl (.cons .here rfl .nil)))) rfl ?_)
       refine zw 6 ?_;refine zw 7 ?_;refine zw 8 ?_;refine zA 9 ?_;refine Ac4 rfl (New.alloc Ad7) rfl rfl rfl (fun b34=>(Aa5 (.cons (.there .here) rfl (.cons (.there .here) rfl (.cons (.there .here) rfl (.cons (.there .here) rfl .nil)))) (.cons .here rfl (.cons .here rfl (.cons .here rfl (.cons .here rfl .nil)))) rfl ?_))
       refine zA 10 ?_;refine Ab9 rfl (Sto.store rfl rfl .here Ag0 rfl rfl) rfl rfl (Aa5 (.cons (.there .here) rfl (.cons (.there .here) rfl (.cons (.there .here) rfl (.cons (.there .here) rfl .nil)))) (.cons .here rfl (.cons .here rfl (.cons .here rfl (.cons .here rfl .nil)))) rfl ?_)
       refine zt ?_;refine zp 11 ?_;refine zd ?_;exact Ae3 b34 (Ac1 _) (Pick.refl _)
      refine Ac4 rfl (New.alloc Ad7) rfl rfl rfl (fun b34=>(Aa5 (.cons (.there .here) rfl (.cons (.there .here) rfl (.cons (.there .here) rfl (.cons (.there .here) rfl .nil)))) (.cons .here rfl (.cons .here rfl (.cons .here rfl (.cons .here rfl .nil)))) rfl ?_))
      refine zA 5 ?_;refine Ab4 rfl (zF rfl Bl1) rfl rfl rfl (fun w hm=>Ap7 (cardV c u.pl) u.cuts (ownQ u.t) (ownK u.t) 0 (ownC u.t) w ((AH2 z79.2.1 (hm.pick (news':=dkB z79.1++[]) (Pick.cnt fun x=>by simp only [nC,dkM];omega))).t u hum) (by show u.p.things.length≤_;omega)) (Aa5 (.cons (.there .here) rfl (.cons (.there .here) rfl (.cons (.there .here) rfl (.cons (.there .here) rfl .nil)))) (.cons .here rfl (.cons .here rfl (.cons .here rfl (.cons .here rfl .nil)))) rfl ?_)
      refine zw 6 ?_;refine zw 7 ?_;refine zw 8 ?_;refine zA 10 ?_;refine Ab9 rfl (Sto.store rfl rfl .here Ag0 rfl rfl) rfl rfl (Aa5 (.cons (.there .here) rfl (.cons (.there .here) rfl (.cons (.there .here) rfl (.cons (.there .here) rfl .nil)))) (.cons .here rfl (.cons .here rfl (.cons .here rfl (.cons .here rfl .nil)))) rfl ?_)
      refine zt ?_;refine zp 11 ?_;refine zd ?_;exact Ae3 b34 (zS 35 rfl (zS 34 rfl (zS 254 rfl (zS 253 rfl (zS 246 rfl (zS 252 rfl (zS 249 rfl (zS 251 rfl (zS 250 rfl (zS 248 rfl (zS 247 rfl (Sub.skip rfl (Sub.skip rfl (Sub.skip rfl (Sub.skip rfl (Sub.skip rfl (Sub.skip rfl (Sub.skip rfl (Sub.skip rfl (Sub.skip rfl (Sub.skip rfl (Sub.skip rfl (Ac1 _))))))))))))))))))))))) (.cons .here rfl (.cons .here rfl (.cons .here rfl (.cons .here rfl (.cons .here rfl (Pick.refl _))))))
     refine Ac4 rfl (New.alloc Ad7) rfl rfl rfl (fun b34=>(Aa5 (.cons (.there .here) rfl (.cons (.there .here) rfl (.cons (.there .here) rfl (.cons (.there .here) rfl .nil)))) (.cons .here rfl (.cons .here rfl (.cons .here rfl (.cons .here rfl .nil)))) rfl ?_))
     refine zA 2 ?_;refine Ab4 rfl (zF rfl BS1) rfl rfl rfl (fun w hm=>AP1 c q cap u w) (Aa5 (.cons (.there .here) rfl (.cons (.there .here) rfl (.cons (.there .here) rfl (.cons (.there .here) rfl .nil)))) (.cons .here rfl (.cons .here rfl (.cons .here rfl (.cons .here rfl .nil)))) rfl ?_)
     refine zA 5 ?_;refine Ab4 rfl (zF rfl Bl1) rfl rfl rfl (fun w hm=>Ap7 (cardV c u.pl) u.cuts (ownQ u.t) (ownK u.t) 0 (ownC u.t) w ((AH2 z79.2.1 (hm.pick (news':=dkB z79.1++[]) (Pick.cnt fun x=>by simp only [nC,dkM];omega))).t u hum) (by show u.p.things.length≤_;omega)) (Aa5 (.cons (.there .here) rfl (.cons (.there .here) rfl (.cons (.there .here) rfl (.cons (.there .here) rfl .nil)))) (.cons .here rfl (.cons .here rfl (.cons .here rfl (.cons .here rfl .nil)))) rfl ?_)
     refine zw 6 ?_;refine zw 7 ?_;refine zw 8 ?_;refine zA 10 ?_;refine Ab9 rfl (Sto.store rfl rfl .here Ag0 rfl rfl) rfl rfl (Aa5 (.cons (.there .here) rfl (.cons (.there .here) rfl (.cons (.there .here) rfl (.cons (.there .here) rfl .nil)))) (.cons .here rfl (.cons .here rfl (.cons .here rfl (.cons .here rfl .nil)))) rfl ?_)
     refine zt ?_;refine zp 11 ?_;refine zd ?_;exact Ae3 b34 (zS 35 rfl (zS 34 rfl (zS 254 rfl (zS 253 rfl (zS 246 rfl (zS 252 rfl (zS 249 rfl (zS 251 rfl (zS 250 rfl (zS 248 rfl (zS 247 rfl (Sub.skip rfl (Sub.skip rfl (Sub.skip rfl (Sub.skip rfl (Sub.skip rfl (Sub.skip rfl (Sub.skip rfl (Sub.skip rfl (Sub.skip rfl (Sub.skip rfl (Sub.skip rfl (Ac1 _))))))))))))))))))))))) (.cons .here rfl (.cons .here rfl (.cons .here rfl (.cons .here rfl (.cons .here rfl (Pick.refl _))))))
    refine J1.out (fun b34=>?_)
    refine su ?_;refine zn (New.buildSlice (parts:=[(0,.tmp 257),(1,.tmp 259)]) rfl Af4 Am3 rfl rfl rfl rfl) (fun b260=>?_)
    refine Ab7 (Ac2 rfl rfl AT5) rfl rfl rfl (fun w hm=>Ak4 wDeep [(depthsX (cardV c u.pl) u.cuts).1.1,(depthsX (cardV c u.pl) u.cuts).1.2] (by decide) (by simp) (AG3 (AH0 _ _).1 (AH0 _ _).2) b260 w (hL.mono hm) (hm.at (.head _))) ?_;refine st ?_;refine lv (Ai5 rfl rfl) ?_;refine RunC.cond rfl (fun h=>absurd h (by first | (rw [hsay];simp;done) | (rw [hsay];rfl) | (rw [hsay];decide) | simp [hsay])) ?_;intro c16;clear c16;refine st ?_;refine lv (Val.add rfl rfl (IntWalk.i64_in _ ⟨by omega,by omega⟩)) ?_;exact Ac7 z73.1 (by omega) hzd rfl (zE 66 rfl rfl (zS 1 rfl (zS 2 rfl (zS 5 rfl (zS 7 rfl (zS 64 rfl (zS 65 rfl (Sub.nil _)))))))) (Pick.cnt fun x=>by simp only [nC,dkM];omega)
   intro c14';refine st ?_;refine lv (Ak2 (b:=wOff) rfl rfl) ?_;refine cn rfl ?_ ?_
   ·intro c15'
    obtain ⟨ns,hn1,hn2,hn3,hn4⟩:=Az2 (v:=_) (show verbX (firstW v)=some _ by rw [c15'];rfl) (by rw [c15'];decide) (by rw [c15'];decide) hline;obtain rfl:nl=ns:=by rw [hnl,AG0 hn1]
    have hn5:offD yd.pl i = .ok (z73.1.pl,z73.2.1):=by (rw [← hNi];exact hn4)
    have hi3:i < yd.pl.views.length:=by (rw [← hNi];exact hn3 rfl)
    have hsay:=CH7 hn5;have hsay:z73.2.1=sayX wOff [(i:Int)]:=hsay;refine st ?_;refine lv (Aa7 (by show some (ownV nz nl.length)=_;rw [Ac8 hno]) rfl Af4 (by decide) (by omega) (An4 hno (by omega))) ?_;refine lv (Aa9 rfl (fun w hm=>Sl.cellE (Ai9 (f:=intC) (e:=3) (fun _=>rfl) (by decide) hno (fun b o h=>hm.at (.tail _ (.tail _ (.tail _ (.tail _ ((by first | exact List.mem_append_right _ (List.mem_append_left _ h) | exact List.mem_append_right _ (List.mem_append_right _ (List.mem_append_left _ h)))))))))) (Mem.refl w) (by simp) Ag4 (i:=0) (by omega) (x:=(i:Int)) (by rw [← hi,← hna0,List.getD_eq_getElem?_getD,List.getElem?_eq_getElem (by omega)];rfl) (j:=0) (by decide) (v:=.int .i64 (i:Int)) rfl (by simp))) ?_;refine zn (New.buildSlice (parts:=[(0,.tmp 267)]) rfl Af4 Am3 rfl rfl rfl rfl) (fun b268=>?_)
    refine Ab7 (Ac2 rfl rfl AT5) rfl rfl rfl (fun w hm=>Ak4 wOff [(i:Int)] (by decide) (by simp) (AK3 (by rw [← hi,← hna0];exact CX6 hng 0)) b268 w (hL.mono hm) (hm.at (.head _))) ?_;refine st ?_;refine lv (Ai5 rfl rfl) ?_;refine RunC.cond rfl (fun h=>absurd h (by first | (rw [hsay];simp;done) | (rw [hsay];rfl) | (rw [hsay];decide) | simp [hsay])) ?_;intro c16;clear c16;refine st ?_;refine lv (Val.add rfl rfl (IntWalk.i64_in _ ⟨by omega,by omega⟩)) ?_;exact Ac7 z73.1 (by omega) hzd rfl (zE 66 rfl rfl (zS 1 rfl (zS 2 rfl (zS 5 rfl (zS 7 rfl (zS 64 rfl (zS 65 rfl (Sub.nil _)))))))) (Pick.cnt fun x=>by simp only [nC,dkM];omega)
   intro c15';refine RunC.exit ?_;refine Aj4 rfl ?_;refine Ai2 ?_;refine Ab1 ?_;refine st ?_;refine lv (Val.add rfl rfl (IntWalk.i64_in _ ⟨by omega,by omega⟩)) ?_;exact Ac7 z73.1 (by omega) hzd rfl (zE 66 rfl rfl (zS 1 rfl (zS 2 rfl (zS 5 rfl (zS 7 rfl (zS 64 rfl (zS 65 rfl (Sub.nil _)))))))) (Pick.cnt fun x=>by simp only [nC,dkM];omega)
  intro c2';refine RunC.exit ?_;refine su ?_;refine Ab1 ?_;refine st ?_;refine zc (zF rfl BS4) (fun w hm=>Az7 w (hL.mono hm)) ?_;exact Aa4 (.r1 rfl (.tmp rfl)) (by first | rfl | simp)
end Go.Proofs.YtnmkdiagbkkmaaaGreatDoor
namespace Go.Proofs.YtnmkdiagbkkmaaaGreatDoor
open Go Go.Eng Go.Pw1

abbrev spSh:Sh:=.st [.int .i64,.int .i64]
abbrev plSh:Sh:=.st [spSh,spSh]
abbrev thSh:Sh:=.st [plSh,plSh,.int .i64]
abbrev prSh:Sh:=.st [spSh,spSh,.int .i64,.int .i64,.int .i64,.sl thSh]
theorem Cj6 {w:World} {cs:List Value} (h:Rd w spSh cs):∃ s:Sp,cs=[.int .i64 s.lo,.int .i64 s.hi]:=by
  cases h with
  | recS h1 h2 =>
    cases h1
    cases h2 with
    | recS h3 h4 =>
      cases h3
      cases h4
      exact ⟨⟨_,_⟩,rfl⟩
theorem Dj6 {w:World} {cs:List Value} (h:Rd w plSh cs):∃ s t:Sp,cs=[.int .i64 s.lo,.int .i64 s.hi,.int .i64 t.lo,.int .i64 t.hi]:=by
  cases h with
  | recS h1 h2 =>
    obtain ⟨s,rfl⟩:=Cj6 h1
    cases h2 with
    | recS h3 h4 =>
      obtain ⟨t,rfl⟩:=Cj6 h3
      cases h4
      exact ⟨s,t,rfl⟩
theorem Dq5 {w:World} {cs:List Value} (h:Rd w thSh cs):∃ t:Th,cs=t.cells:=by
  cases h with
  | recS h1 h2 =>
    obtain ⟨a,b,rfl⟩:=Dj6 h1
    cases h2 with
    | recS h3 h4 =>
      obtain ⟨c,d,rfl⟩:=Dj6 h3
      cases h4 with
      | recS h5 h6 =>
        cases h5
        cases h6
        exact ⟨⟨a,b,c,d,_⟩,rfl⟩
theorem BG2 {α:Type} {f:α→List Value}:∀ {xs:List (List Value)},(∀ x∈xs,∃ a,x=f a)→∃ l:List α,xs=l.map f
  | [],_=>⟨[],rfl⟩
  | x::xs,h=>by
    obtain ⟨a,rfl⟩:=h x (by simp);obtain ⟨l,rfl⟩:=BG2 (xs:=xs) (fun y hy=>h y (List.mem_cons_of_mem _ hy));exact ⟨a::l,rfl⟩
structure In (w:World) (p:Pr) (q:Option Addr) (b o cap:Nat):Prop where
  s:Sl w q b o 9 (p.things.map Th.cells)
  n:q=none→p.things.length=0∧cap=0
theorem Dq6 {w:World} {cs:List Value} (h:Rd w prSh cs):∃ (p:Pr) (q:Option Addr) (b o cap:Nat),cs=p.cells q cap∧In w p q b o cap:=by
  cases h with
  | recS h1 h2 =>
  obtain ⟨f,rfl⟩:=Cj6 h1
  cases h2 with
  | recS h1 h2 =>
  obtain ⟨g,rfl⟩:=Cj6 h1
  cases h2 with
  | recS h1 h2 =>
  cases h1
  cases h2 with
  | recS h1 h2 =>
  cases h1
  cases h2 with
  | recS h1 h2 =>
  cases h1
  cases h2 with
  | recS h1 h2 =>
  cases h2
  cases h1 with
  | slNil=>exact ⟨⟨f,g,_,_,_,[]⟩,none,0,0,0,rfl,⟨Sl.emp,fun _=>⟨rfl,rfl⟩⟩⟩
  | sl hs hl hc hx =>
    obtain ⟨ts,rfl⟩:=BG2 (f:=Th.cells) (fun x hx'=>Dq5 (hx x hx'));exact ⟨⟨f,g,_,_,_,ts⟩,some _,_,_,_,by rw [List.length_map];rfl,⟨hs,fun h=>by cases h⟩⟩
abbrev cdSh:Sh:=.st [prSh,.int .i64,.int .i64,.int .i64,spSh,.int .i64,.int .i64,.int .i64,.int .i64]
theorem Dq8 {w:World} {cs:List Value} (h:Rd w cdSh cs):∃ (c:Cd) (q:Option Addr) (b o cap:Nat),cs=c.cells q cap∧In w c.p q b o cap:=by
  cases h with
  | recS h1 h2 =>
  obtain ⟨p,q,b,o,cap,rfl,hp⟩:=Dq6 h1
  cases h2 with
  | recS h1 h2 =>
  cases h1
  cases h2 with
  | recS h1 h2 =>
  cases h1
  cases h2 with
  | recS h1 h2 =>
  cases h1
  cases h2 with
  | recS h1 h2 =>
  obtain ⟨e,rfl⟩:=Cj6 h1
  cases h2 with
  | recS h1 h2 =>
  cases h1
  cases h2 with
  | recS h1 h2 =>
  cases h1
  cases h2 with
  | recS h1 h2 =>
  cases h1
  cases h2 with
  | recS h1 h2 =>
  cases h1
  cases h2
  exact ⟨⟨p,_,_,_,e,_,_,_,_⟩,q,b,o,cap,rfl,hp⟩
end Go.Proofs.YtnmkdiagbkkmaaaGreatDoor
namespace Go.Eng
open Go Go.RowKit Go.ChangeShapes Go.WideShapes Go.ChangeAt
theorem AR3 {H:Type} {enc:TypeId×Value→H} {a:Assume} {C:Checked} {os:Os} {f:FuncId} {fn:Func} {s:ChangeSpec} {conds:List PathCond} {apart fresh handsOn again:Bool} {X:World→Array Value→Prop}
    (hX:∀ (w w':World) (args:Array Value),w.heap=w'.heap→X w args→X w' args)
    (own:ownKnob C.prog.godebug=none) (started:os.Started) (noInit:C.prog.inits.idxOf? f=none) (hfn:C.prog.funcs[f]? = some fn)
    (witness:∃ (w:World) (tape:Tape) (i:Input),w.os=os∧(w.forCall tape i).Shaped C.prog∧i.vars=[]∧Input.okWide C.prog (w.forCall tape i) .any w.heap.size f i ∧
      ((s.pre enc C.prog fn conds apart (w.forCall tape i).memory i.args∧X (w.forCall tape i).memory i.args)∧sizedMet enc C.prog fn (OpenSpec.ofChange s) apart (w.forCall tape i).memory i.args)∧a.holds C.prog (lone (Frame.enter C.prog f i.args .normal) [] (w.forCall tape i)))
    (contract:∀ (W:World) (base:Nat) (args:Array Value) (ds gs:List (DataW H)) (before:List MemPlace),
      (∀ (j:Nat) t v,fn.params[j]? = some t→args[j]? = some v→Value.okWide C.prog W .any base t v) →
      DataW.Whole enc C.prog fn.params.toList s.vars apart W args.toList ds gs before→W.ShapedOpen C.prog→X W args →
      Calls C.prog f args W fun e W'=>∃ v,e = .returned v∧s.post enc C.prog fn apart fresh handsOn again W args v W') :
    ReturnsInHanded a C os f .any (fun w args=>(s.pre enc C.prog fn conds apart w args∧X w args)∧sizedMet enc C.prog fn (OpenSpec.ofChange s) apart w args) (s.post enc C.prog fn apart fresh handsOn again):=by
  refine returnsInHanded_of_calls own started noInit witness ?_;intro w tape i _ hsh _ hok hpre hholds;obtain ⟨_,_,_,fn',hfn',_,_,_,_,hval⟩:=hok;have e:fn'=fn:=Option.some.inj (hfn'.symm.trans hfn);subst e;obtain ⟨⟨⟨ds,gs,before,hw,hc⟩,hx⟩,hz⟩:=hpre;have hw':=DataW.Whole.of_heap (w':=w.forCall tape i) (by rfl) hw;refine (contract (w.forCall tape i) w.heap.size i.args ds gs before hval hw' hsh (hX _ _ _ (by rfl) hx)).mono fun e W' ⟨v,he,hp⟩=>?_
  subst he;exact ChangeSpec.post_blind hp
theorem Bq0 {H:Type} {enc:TypeId×Value→H} {P:Program} {f:Func} {s:ChangeSpec} {n:Nat} {shs:List Sh} {tb:TypeId} {F:FuncId} (hl:laidOutB P=true) (hsh:f.params.toList.mapM (shapeB P n)=some shs)
    (hp:f.params.toList.all (fun t=>P.readableRec t && decide (t < P.types.size))=true) (hr:f.resultTypes = #[tb]) (hb:P.underlying tb=some .bool) (hvars:s.vars=[])
    (hfn:∀ ds:List (DataW H),ds.length=f.params.toList.length→s.fn H (ds++[])={ results:=[.lit (.bool true)],args:=ds })
    {W:World} (walk:∀ vs:List Value,RdAll W shs vs→Calls P F vs.toArray W (Pure (.bool true) W)) {base:Nat} {args:Array Value} {ds gs:List (DataW H)} {before:List MemPlace} (hval:∀ (j:Nat) t v,f.params[j]? = some t→args[j]? = some v→Value.okWide P W .any base t v)
    (hW:DataW.Whole enc P f.params.toList s.vars false W args.toList ds gs before) :
    Calls P F args W fun e W'=>∃ v,e = .returned v∧s.post enc P f false true false false W args v W':=by
  have hW':=hW;obtain ⟨p,q,hA,hV,rfl,hfz,hnd⟩:=hW;rw [hvars] at hV;obtain ⟨rfl,rfl⟩:=trodVars_none hV;have hrd:RdAll W shs args.toList:=BP6 hsh (fun j t v hj hv=>hval j t v (by simpa using hj) (by simpa using hv)) hA
  have hlen:ds.length=f.params.toList.length:=by
    clear hW' hval hrd hfn hp hsh hfz hnd hV
    generalize f.params.toList=ts at hA
    generalize args.toList=vs at hA
    induction ts generalizing vs ds p with
    | nil=>obtain ⟨_,rfl,_⟩:=trodAll_nil hA;rfl
    | cons t ts ih =>
      obtain ⟨v,vs',d,ds',p,q,rfl,rfl,rfl,h0,hr⟩:=trodAll_cons hA;simp [ih _ _ hr]
  refine (walk args.toList hrd).mono fun e W' ⟨he,hm⟩=>?_
  subst he;have bel:=hm.below;refine ⟨_,rfl,ds,[],p++[],[],p,[],hW',?_,?_,?_,bel.frame _,fun h=>by cases h⟩
  · rw [hfn ds hlen,hr]
    exact trodAll_mk1 (shut_bool hb _)
  · rw [hfn ds hlen]
    exact AN0 hl bel hp hA
  · rw [hvars,hfn ds hlen]
    rfl
theorem Bk2 {P:Program} {n nm:String} {d:DataW Unit} {r:List (String×DataW Unit)} {W:World} {g:Nat} {ti:TypeId} {ms:Array (String×TypeId)}
    (h:laidMet P ((n,.iface nm d)::r) W) (hg:P.globalNamed n=some g) (ht:(P.globals[g]?).map (·.type)=some ti) (hi:P.underlying ti=some (.interface ms)):∃ te pe,W.cell? ⟨g,0,none⟩=some (.iface te pe):=by
  obtain ⟨ps,⟨g0,t0,cs0,f0,p0,q0,hg0,ht0,hv0,hd0,_,e0⟩,_,hrows⟩:=h;obtain rfl:=Option.some.inj (hg.symm.trans hg0);obtain rfl:=Option.some.inj (ht.symm.trans ht0);obtain ⟨f',u,v,hcs,_,_⟩:=iface_of_trod hi hd0;have h1:=World.var?_cell hg0 hv0 0
  have e:cs0 = #[.iface u v]:=by
    obtain ⟨l⟩:=cs0;simp only at hcs
    rw [hcs]
  rw [e] at h1;exact ⟨u,v,by simpa using h1⟩
end Go.Eng
namespace Go.Proofs.YtnmkdiagbkkmaaaGreatDoor
open Go Go.Eng Go.Dk Go.RowKit Go.Pw1 Go.Hp

abbrev laidL:List (String×DataW Unit):=[("math/bits.deBruijn32tab",Rows.laid_math_bits_deBruijn32tab),("math/bits.deBruijn64tab",Rows.laid_math_bits_deBruijn64tab),("internal/strconv.uint64pow10",Rows.laid_internal_strconv_uint64pow10),("unicode/utf8.acceptRanges",Rows.laid_unicode_utf8_acceptRanges),("strconv.ErrRange",Rows.laid_strconv_ErrRange),("strconv.ErrSyntax",Rows.laid_strconv_ErrSyntax),("unicode/utf8.first",Rows.laid_unicode_utf8_first)]
theorem Ds0:((begin Tryz.prog (fun _ _=>0) default).world.heap[0]?).bind Obj.row? = some (#[.int .i64 0],3):=by kernel_rfl
theorem Dr0 {W:World} (hsh:W.ShapedOpen Tryz.prog) (hL:laidMetH Tryz.prog laidL W):Lw Tryz.prog W:=by
  rw [MakeChecks.laidMetH_plain _ _ _ (by kernel_rfl)] at hL;have h3:=hL.tail.tail;have h5:=h3.tail.tail;obtain ⟨te,pe,h1⟩:=Bk2 h5 (g:=3) (by kernel_rfl) (by kernel_rfl) Tryz.underlying98;obtain ⟨te2,pe2,h2⟩:=Bk2 h5.tail (g:=2) (by kernel_rfl) (by kernel_rfl) Tryz.underlying98
  exact ⟨cell_of_shapedOpen_int hsh (by decide) Ds0 rfl (by kernel_rfl) (by kernel_rfl) Tryz.underlying3,
    Lib.tabIs_of_head (g:=1) (t:=353) (n:=20) (e:=299) (by kernel_rfl) (by kernel_rfl) (by kernel_rfl) (by kernel_rfl) (by kernel_rfl) (by kernel_rfl) h3,
    ⟨_,h2,.inr ⟨_,_,rfl⟩⟩,⟨_,h1,.inr ⟨_,_,rfl⟩⟩⟩
theorem Co9 (os:Os):(World.holding Tryz.prog os ⟨#[],#[],[]⟩).layFits Tryz.prog laidL []=true:=by kernel_rfl
theorem BH9 (os:Os):(World.holding Tryz.prog os ⟨#[],#[],[]⟩).layIfaces Tryz.prog laidL (World.laidAll Tryz.prog os laidL)=true:=by kernel_rfl
theorem Dj5 {w:World} {cs:List Value} (h:Rd w .str cs):∃ s:Str,cs=strC s:=by
  cases h with
  | @str v=>exact ⟨v.data.toList,rfl⟩
theorem CV7 {w:World} {cs:List Value} (h:Rd w (.sl .str) cs):∃ (l:List Str) (q:Option Addr) (b o cap:Nat),cs=[Value.slice q l.length cap]∧Sl w q b o 1 (l.map strC):=by
  cases h with
  | slNil=>exact ⟨[],none,0,0,0,rfl,Sl.emp⟩
  | @sl _ ad cap2 _ hs hl hc hx =>
    obtain ⟨l,rfl⟩:=BG2 (f:=strC) (fun x hx'=>Dj5 (hx x hx'));exact ⟨l,some ad,_,_,cap2,by rw [List.length_map],hs⟩
end Go.Proofs.YtnmkdiagbkkmaaaGreatDoor
namespace Go.Proofs.YtnmkdiagbkkmaaaGreatDoor
open Go Go.Eng Go.Dk Go.RowKit Go.Pw1 Go.Hp

theorem Bs0 (W:World) (vs:List Value) (hL:Lw Tryz.prog W) (h:RdAll W [cdSh,.sl .str] vs):Calls Tryz.prog 7 vs.toArray W (Pure (.bool true) W):=by
  cases h with
  | cons h1 h =>
  cases h with
  | cons h2 h =>
  cases h
  obtain ⟨c,q,b,o,cap,rfl,hp⟩:=Dq8 h1;obtain ⟨l,ql,bl,ol,cl,rfl,hl⟩:=CV7 h2;have hq:q=none→cap=0:=fun h=>(hp.n h).2
  cases hf:farL c l with
  | true=>exact Cn7 c q b o cap hq l ql bl ol cl W hL hp.s hl hf
  | false =>
    cases hh:heavyC c with
    | true=>exact BH3 c q b o cap hq l ql bl ol cl W hL hp.s hl hf hh
    | false =>
      cases hc:cardIs c with
      | true=>exact CJ8 c q b o cap hq l ql bl ol cl W hL hp.s hl hf hh hc
      | false=>exact CJ9 c q b o cap hq l ql bl ol cl W hL hp.s hl hf hh hc
end Go.Proofs.YtnmkdiagbkkmaaaGreatDoor
