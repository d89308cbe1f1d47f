/- Walks of package desk: a script. Printed by mk_tc.py. -/
import Derived.Test.YtnmkdiagbkkmaaaGreatDoorR05
import Derived.Test.YtnmkdiagbkkmaaaGreatDoorProg
import Derived.Test.YtnmkdiagbkkmaaaGreatDoorRows
import Derived.Lib.LaidTab
import Derived.Stop.LaidErr
import Derived.MakeChecks
import Derived.Shelf.Vars
import Derived.Handed
import Derived.HandedShaped
import Derived.Lay
set_option linter.unusedSimpArgs false
set_option linter.unusedVariables false
set_option linter.unusedSectionVars false
namespace Go.Dk
open Go Go.Eng Go.RowKit Go.Pw1 Go.Hp
section
variable {c:Cd} {s:Str}
theorem run_long (h:131072 < s.length):runX c s=([],3):=by unfold runX;rw [if_pos h]
variable (hl:¬ 131072 < s.length)
include hl
theorem run_form (h1:s ≠ []) (h:Lib.hasSuffix s [10]=false):runX c s=([],8):=by
  unfold runX;rw [if_neg hl,if_pos ⟨h1,fun h2=>by rw [(suffix_last s).2 h2] at h;cases h⟩]
theorem run_arg (h:s=[]∨s.getLast? = some 10) (hc:cardIs c=false):runX c s=([],1):=by
  unfold runX;rw [if_neg hl,if_neg (fun h2=>h.elim h2.1 h2.2),if_neg (by show ¬ cardIs c=true;rw [hc];decide)]
theorem run_ok (h:s=[]∨s.getLast? = some 10) (hc:cardIs c=true):runX c s=((runL (bareC c) noBn ((linesL s).map trimL)).2,0):=by
  unfold runX;rw [if_neg hl,if_neg (fun h2=>h.elim h2.1 h2.2),if_pos (by exact hc),lines_are h]
end
theorem ends_of {s:Str} (h:¬ (s ≠ []∧Lib.hasSuffix s [10]=false)):s=[]∨s.getLast? = some 10:=by
  by_cases h0:s=[]
  · exact .inl h0
  · exact .inr ((suffix_last s).1 (by cases e:Lib.hasSuffix s [10] with
      | true=>rfl
      | false=>exact absurd ⟨h0,e⟩ h))
abbrev RuX:=DkX×Value×Eng.Own×Str
structure RuOk (c:Cd) (b7:Nat) (pre:List Str) (x:RuX):Prop where
  d:DkOk x.1
  p:BuP b7 x.2.1
  o:OwnOk 1 x.2.2.1 x.2.2.2.length (byc x.2.2.2)
  e:x.2.2.1=none∨x.2.2.2 ≠ []
  r:runL (bareC c) noBn (pre.map trimL)=(x.1.pl,x.2.2.2)
  n:x.2.2.2.length≤4001 * pre.length
theorem own_q1 {x:Eng.Own} {l:Str} {xs:List Value} (ho:OwnOk 1 x l.length xs) (h:x=none∨l ≠ []):ownQ x=none∨ownC x ≠ 0:=by
  match x,h,ho with
  | none,_,_=>exact .inl rfl
  | some (b,c,r),h,ho =>
    refine .inr ?_;have h1:=List.length_pos_iff.2 (h.resolve_left (by simp));have h2:=(ho.cap b c r rfl).1
    show c ≠ 0
    omega
theorem run_len (c:Cd) {d d':DkX} {l:List Str} {v:Str} {t r:Str} {e:Int} (h:runL c noBn l=(d.pl,t)) (hz:(d'.pl,r,e)=stepX c d.pl v):runL c noBn (l++[v])=(d'.pl,t++(echoX r e++[10])):=by
  rw [runL_snoc,h];dsimp only;rw [← hz]
end Go.Dk
namespace Go.Proofs.YtnmkdiagbkkmaaaGreatDoor
open Go Go.Eng Go.Dk Go.RowKit Go.Pw1 Go.Hp

theorem Lines_calls (s:Str) (W:World):Calls Tryz.prog 41 #[.string (bs s)] W (News (fun b:Nat=>.func (.func 103) #[] #[pV b]) (fun b=>[(b,strO s)]) W):=by
  refine calls_start Tryz.func41 rfl rfl ?_;refine st ?_;refine zn (New.box rfl) (fun b1=>?_)
  exact RunE.ret (chg:=[]) (.r1 rfl (.tmp rfl)) (fun _ hm=>⟨b1,rfl,hm.pick (.cons .here rfl .nil)⟩)
theorem Run_long (c:Cd) (q:Option Addr) (b o cap:Nat) (s:Str) (W:World) (h:131072 < s.length):Calls Tryz.prog 11 #[c.v q cap,.string (bs s)] W (Pure (.tuple #[.string (bs (runX c s).1),.int .i64 (runX c s).2]) W):=by
  rw [run_long h];refine calls_start Tryz.func11 rfl rfl ?_;refine st ?_;refine zn (New.box rfl) (fun b2=>?_)
  refine lv (Val.lenS rfl und_9) ?_;refine RunC.cond rfl ?_ (fun h=>absurd h (by simp;omega))
  intro c0;clear c0;refine su ?_;exact RunE.retP (.r2 rfl (.tmp rfl) (.tmp rfl)) (by first | rfl | simp)
theorem Run_form (c:Cd) (q:Option Addr) (b o cap:Nat) (s:Str) (W:World) (hl:¬ 131072 < s.length) (h1:s ≠ []) (hf:Lib.hasSuffix s [10]=false):Calls Tryz.prog 11 #[c.v q cap,.string (bs s)] W (Pure (.tuple #[.string (bs (runX c s).1),.int .i64 (runX c s).2]) W):=by
  rw [run_form hl h1 hf];refine calls_start Tryz.func11 rfl rfl ?_;refine st ?_;refine zn (New.box rfl) (fun b2=>?_)
  refine lv (Val.lenS rfl und_9) ?_;refine RunC.cond rfl (fun h=>absurd h (by simp;omega)) ?_;intro c0;clear c0;refine st ?_;refine lv (Val.neqStr rfl rfl) ?_
  refine RunL.andPart (dj:=18) (dp:=22) 4 rfl (fun g18=>by
    have g18':=g18;try simp only [nH] at g18'
    refine st ?_;refine RunL.callP (zF rfl ent_40) rfl rfl rfl (fun w hm=>(hasSuffix_calls s [10] (by omega) w)) ?_;refine sv ?_;exact zs g18
  ) (fun g18=>by
    have g18':=g18;try simp only [nH] at g18'
    iterate 3 refine RunL.no rfl rfl rfl ?_
    refine sv ?_;exact zs g18
  ) ?_
  refine st ?_;refine RunC.cond rfl ?_ (fun h=>absurd h (by simp [hf,h1]))
  intro c1;clear c1;refine su ?_;exact RunE.retP (.r2 rfl (.tmp rfl) (.tmp rfl)) (by first | rfl | simp)
theorem Run_arg (c:Cd) (q:Option Addr) (b o cap:Nat) (s:Str) (W:World) (hS:Sl W q b o 9 (c.p.things.map Th.cells)) (hq:q=none→cap=0) (hl:c.p.things.length≤1000) (hL:Lw Tryz.prog W) (hs0:¬ 131072 < s.length) (h:s=[]∨s.getLast? = some 10) (hc:cardIs c=false):Calls Tryz.prog 11 #[c.v q cap,.string (bs s)] W (Pure (.tuple #[.string (bs (runX c s).1),.int .i64 (runX c s).2]) W):=by
  rw [run_arg hs0 h hc];have hsx:s ≠ []→Lib.hasSuffix s [10]=true:=fun h1=>(suffix_last s).2 (h.resolve_left h1)
  refine calls_start Tryz.func11 rfl rfl ?_;refine st ?_;refine zn (New.box rfl) (fun b2=>?_)
  refine lv (Val.lenS rfl und_9) ?_;refine RunC.cond rfl (fun h=>absurd h (by simp;omega)) ?_;intro c0;clear c0;refine st ?_;refine lv (Val.neqStr rfl rfl) ?_
  refine RunL.andPart (dj:=18) (dp:=22) 4 rfl (fun g18=>by
    have g18':=g18;try simp only [nH] at g18'
    refine st ?_;refine RunL.callP (zF rfl ent_40) rfl rfl rfl (fun w hm=>(hasSuffix_calls s [10] (by omega) w)) ?_;refine sv ?_;exact zs g18
  ) (fun g18=>by
    have g18':=g18;try simp only [nH] at g18'
    iterate 3 refine RunL.no rfl rfl rfl ?_
    refine sv ?_;exact zs g18
  ) ?_
  refine st ?_;refine RunC.cond rfl (fun h=>absurd h (by simp;exact hsx)) ?_;intro c1;clear c1;refine su ?_;refine zc (zF rfl ent_14) (fun w hm=>(New_no c q b o cap w (hS.mono (by decide) hm (by simp)) hq hl hc)) ?_;refine zn (New.alloc zero_38) (fun b6=>?_)
  refine RunL.sto (Sto.store rfl rfl .here ty_38 rfl rfl) rfl rfl ?_;refine st ?_;refine RunC.cond rfl ?_ (fun h=>absurd h (by simp))
  intro c2;clear c2;refine su ?_;exact RunE.retP (.r2 rfl (.tmp rfl) (.tmp rfl)) (by first | rfl | simp)
set_option maxHeartbeats 2000000 in
theorem Run_ok (c:Cd) (q:Option Addr) (b o cap:Nat) (s:Str) (W:World) (hS:Sl W q b o 9 (c.p.things.map Th.cells)) (hq:q=none→cap=0) (hl:c.p.things.length≤1000) (hL:Lw Tryz.prog W) (hsl:s.length≤100000) (h:s=[]∨s.getLast? = some 10) (hc:cardIs c=true):Calls Tryz.prog 11 #[c.v q cap,.string (bs s)] W (Pure (.tuple #[.string (bs (runX c s).1),.int .i64 (runX c s).2]) W):=by
  rw [run_ok (by omega) h hc];have hsx:s ≠ []→Lib.hasSuffix s [10]=true:=fun h1=>(suffix_last s).2 (h.resolve_left h1)
  have hll:=linesL_len s;refine calls_start_F (Mem.refl W) Tryz.func11 rfl rfl ?_;refine RunCF.seq ?_;refine RunCF.of ?_;refine st ?_;refine zn (New.box rfl) (fun b2=>?_)
  refine RunEF.next ?_;refine RunCF.seq ?_;refine RunCF.block ?_;refine RunCF.seq ?_;refine RunCF.of ?_;refine st ?_;refine lv (Val.lenS rfl und_9) ?_;refine RunEF.next ?_;refine RunCF.of ?_;refine RunC.cond rfl (fun h=>absurd h (by simp;omega)) ?_;intro c0;clear c0;refine st ?_;refine lv (Val.neqStr rfl rfl) ?_
  refine RunL.andPart (dj:=18) (dp:=22) 4 rfl (fun g18=>by
    have g18':=g18;try simp only [nH] at g18'
    refine st ?_;refine RunL.callP (zF rfl ent_40) rfl rfl rfl (fun w hm=>(hasSuffix_calls s [10] (by omega) w)) ?_;refine sv ?_;exact zs g18
  ) (fun g18=>by
    have g18':=g18;try simp only [nH] at g18'
    iterate 3 refine RunL.no rfl rfl rfl ?_
    refine sv ?_;exact zs g18
  ) ?_
  refine st ?_;refine RunC.cond rfl (fun h=>absurd h (by simp;exact hsx)) ?_;intro c1;clear c1;refine st ?_;refine RunEF.next ?_;refine RunCF.seq ?_;refine RunCF.of ?_;refine su ?_;refine RunL.callN (zF rfl ent_14) rfl rfl rfl (fun w hm=>(New_ok c q b o cap w (hS.mono (by decide) hm (by simp)) hq hl hc)) (fun b25=>?_)
  refine st ?_;refine zn (New.alloc zero_38) (fun b6=>?_)
  refine RunL.sto (Sto.store rfl rfl .here ty_38 rfl rfl) rfl rfl ?_;refine st ?_;refine RunEF.next ?_;refine RunCF.seq ?_;refine RunCF.seq ?_;refine RunCF.of ?_;refine st ?_;refine RunEF.next ?_;refine RunCF.of ?_;refine RunC.cond rfl (fun h=>absurd h (by simp)) ?_;intro c2;clear c2;refine st ?_;refine RunEF.next ?_;refine RunCF.seq ?_;refine RunCF.of ?_;refine st ?_;refine zn (New.alloc zero_91) (fun b7=>?_)
  refine RunEF.next ?_;refine RunCF.seq ?_;refine RunCF.seq ?_;refine RunCF.of ?_;refine st ?_;refine RunL.callN (zF rfl ent_41) rfl rfl rfl (fun w hm=>(Lines_calls s w)) (fun b32=>?_)
  refine st ?_;refine RunEF.next ?_;refine RunCF.block ?_;refine RunCF.range Tryz.func11 (α:=Str) (X:=RuX) (enc:=fun x=>.string (bs x)) (eb:=fun _=>[]) (itb:=[(b32,strO s)]) (mis:=dmis) (S:=fun xs=>xs=linesL s) (Sp:=fun xs=>xs <+: linesL s) (Sq:=fun _ _=>False) (N:=s.length + 1) (fun x=>(b6,.cells (cellsL (pV b25)).toArray 38 (0,0))::(b25,dkO x.1 c)::(b7,buO x.2.1 x.2.2.1 x.2.2.2.length)::(dkB x.1++ownB 5 x.2.2.1 (byc x.2.2.2))) (fun pre x=>RuOk c b7 pre x) (fun _ _=>False) (fun _ _=>False) (noDk,.pointer none,none,[]) ⟨noDk_ok,.inl rfl,OwnOk.start,.inl rfl,rfl,Nat.zero_le _⟩ ([]) (.cons (.there (.there .here)) rfl (.cons (.there (.there .here)) rfl (.cons (.there .here) rfl (.cons .here rfl .nil)))) rfl ent_103 (linesIt s hsl b32 W) rfl rfl (fun _=>rfl) rfl rfl rfl ?_ ?_ ?_ ?_ ?_
  ·intro l D ob pre v x tl hI hsp hlen
   obtain ⟨xd,xp,xo,xl⟩:=x;obtain ⟨hxd,hxp,hxo,hxe,hxr,hxn⟩:=hI;dsimp only at hxd hxp hxo hxe hxr hxn ⊢;have hvl:v.length≤s.length:=linesL_short s v (hsp.subset (by simp));have hpl:pre.length≤s.length:=by (have:=hsp.length_le;simp only [List.length_append,List.length_singleton] at this;omega)
   refine RunCR.keep (Sub.refl _) (news':=(l,ob)::(D,dfrO)::(b6,.cells (cellsL (pV b25)).toArray 38 (0,0))::(b25,dkO xd c)::(b7,buO xp xo xl.length)::(dkB xd++(ownB 5 xo (byc xl)++(tl++[])))) (Pick.cnt fun x=>by simp only [nC,List.length_append,List.length_singleton,List.map_cons,List.map_nil,buB,dfrO,markB,dkM];omega) ?_;refine RunCR.block ?_;refine RunCR.seq ?_;refine RunCR.draw 8 fol_ (.cons .here rfl (.cons .here rfl (.cons .here rfl (.cons (.there .here) rfl .nil)))) ?_;refine zw 0 ?_;refine zw 1 ?_;refine zA 2 ?_;refine RunI.callP rfl (zF rfl ent_42) rfl rfl rfl (fun w hm=>(trimSuffix_calls v [10] (by omega) w)) (RunK.toA (.cons .here rfl (.cons .here rfl (.cons .here rfl (.cons (.there .here) rfl .nil)))) (.cons .here rfl (.cons .here rfl (.cons .here rfl (.cons .here rfl .nil)))) rfl ?_)
   refine zA 3 ?_;refine RunI.callG rfl (zF rfl ent_16) rfl rfl rfl (fun w hm=>(calls_re (nw':=fun z:DkX×Str×Int=>(l,ob)::(D,dfrO)::(b6,.cells (cellsL (pV b25)).toArray 38 (0,0))::(b25,dkO z.1 c)::(b7,buO xp xo xl.length)::(dkB z.1++(ownB 5 xo (byc xl)++(tl++[])))) (Line_calls (trimL v) (by have:=trim_len v;unfold trimL;omega) b25 xd c ((l,ob)::(D,dfrO)::(b6,.cells (cellsL (pV b25)).toArray 38 (0,0))::(b7,buO xp xo xl.length)::(ownB 5 xo (byc xl)++tl)) W w hL hxd (hm.pick (Pick.cnt fun x=>by simp only [nC,List.length_append,List.length_singleton,List.map_cons,List.map_nil,buB,dfrO,markB,dkM];omega))) (fun _=>(Pick.cnt fun x=>by simp only [nC,List.length_append,List.length_singleton,List.map_cons,List.map_nil,buB,dfrO,markB,dkM];omega)))) (fun z38 hz38=>(RunK.toA (.cons .here rfl (.cons .here rfl (.cons .here rfl (.cons (.there .here) rfl .nil)))) (.cons .here rfl (.cons .here rfl (.cons .here rfl (.cons .here rfl .nil)))) rfl ?_))
   obtain ⟨hzd,hzs⟩:=hz38;have hrn:=run_len (bareC c) hxr hzs;have hcod:Cod z38.2.2:=(by have h2:=step_cod hxd.sm (bareC c) (trimL v);rw [← hzs] at h2;exact h2);have he38:(echoX z38.2.1 z38.2.2).length≤4000:=(by have h1:=step_len hxd.sm (bareC c) (trimL v);rw [← hzs] at h1;exact echo_len h1 hcod);refine zw 4 ?_;refine zw 5 ?_;refine zw 6 ?_;refine zw 7 ?_;refine zt ?_;refine zp 8 ?_;refine zd ?_;refine RunER.next ?_;refine RunCR.seq ?_;refine RunCR.seq ?_;refine RunCR.regionP ?_;refine st ?_;refine RunER.next ?_;refine RunCR.cond rfl ?_ ?_
   ·intro c3
    have c3':=c3;clear c3;try simp only [nH] at c3'
    have hec:echoX z38.2.1 z38.2.2=sayX wError [z38.2.2]:=by (unfold echoX;rw [if_neg (by simpa using c3')])
    rw [hec] at he38 hrn;refine RunCR.regionP ?_;refine lv (Val.makeInterface rfl noif_9) ?_;refine lv (Val.makeInterface rfl noif_3) ?_;refine zn (New.buildSlice (parts:=[(0,.tmp 43),(1,.tmp 45)]) rfl sl_195 zero_20 rfl rfl rfl rfl) (fun b46=>?_)
    refine zc (zF rfl ent_43) (fun w hm=>saidp_calls [.s wError,.n z38.2.2] _ (join_say wError [_]) b46 w (hL.mono hm) (hm.at (.head _)) (by simp) (by intro p hp;simp only [List.mem_cons,List.not_mem_nil,or_false] at hp;rcases hp with rfl | rfl;exact (show wError.length≤40 by decide);exact hcod.in64) (by simp [Prt.words])) ?_;refine RunER.next ?_;refine RunCR.regionP ?_;refine st ?_;refine lv (Val.strAdd rfl rfl (by simp;omega)) ?_;refine RunL.callG (zF rfl ent_44) rfl rfl rfl (fun w hm=>(calls_re (nw':=fun y:Eng.Own=>(l,ob)::(D,dfrO)::(b6,.cells (cellsL (pV b25)).toArray 38 (0,0))::(b25,dkO z38.1 c)::(b7,buO (buS b7) y (xl++(sayX wError [z38.2.2]++[10])).length)::(dkB z38.1++(ownB 5 y (byc (xl++(sayX wError [z38.2.2]++[10])))++(tl++[])))) (bwrite_calls b7 xp xo xl (sayX wError [z38.2.2]++[10]) ((l,ob)::(D,dfrO)::(b6,.cells (cellsL (pV b25)).toArray 38 (0,0))::(b25,dkO z38.1 c)::(dkB z38.1++tl)) W w (hm.pick (Pick.cnt fun x=>by simp only [nC,List.length_append,List.length_singleton,List.map_cons,List.map_nil,buB,dfrO,markB,dkM];omega)) hxp hxo (by simp only [List.length_append,List.length_singleton];omega)) (fun _=>(Pick.cnt fun x=>by simp only [nC,List.length_append,List.length_singleton,List.map_cons,List.map_nil,buB,dfrO,markB,dkM];omega)))) (fun z50 hz50=>?_)
    skip
    refine st ?_;exact RunE.bodyQ (z38.1,buS b7,z50,xl++(sayX wError [z38.2.2]++[10])) ⟨hzd,.inr rfl,hz50,.inr (by simp),by rw [List.map_append];exact hrn,by simp only [List.length_append,List.length_singleton];omega⟩ (Pick.cnt fun x=>by simp only [nC,List.length_append,List.length_singleton,List.map_cons,List.map_nil,buB,dfrO,markB,dkM];omega)
   intro c3;have c3':=c3;clear c3;try simp only [nH] at c3'
   have hec:echoX z38.2.1 z38.2.2=z38.2.1:=by (unfold echoX;rw [if_pos (by simpa using c3')])
   rw [hec] at he38 hrn;refine RunCR.skip ?_;refine RunER.next ?_;refine RunCR.regionP ?_;refine st ?_;refine lv (Val.strAdd rfl rfl (by simp;omega)) ?_;refine RunL.callG (zF rfl ent_44) rfl rfl rfl (fun w hm=>(calls_re (nw':=fun y:Eng.Own=>(l,ob)::(D,dfrO)::(b6,.cells (cellsL (pV b25)).toArray 38 (0,0))::(b25,dkO z38.1 c)::(b7,buO (buS b7) y (xl++(z38.2.1++[10])).length)::(dkB z38.1++(ownB 5 y (byc (xl++(z38.2.1++[10])))++(tl++[])))) (bwrite_calls b7 xp xo xl (z38.2.1++[10]) ((l,ob)::(D,dfrO)::(b6,.cells (cellsL (pV b25)).toArray 38 (0,0))::(b25,dkO z38.1 c)::(dkB z38.1++tl)) W w (hm.pick (Pick.cnt fun x=>by simp only [nC,List.length_append,List.length_singleton,List.map_cons,List.map_nil,buB,dfrO,markB,dkM];omega)) hxp hxo (by simp only [List.length_append,List.length_singleton];omega)) (fun _=>(Pick.cnt fun x=>by simp only [nC,List.length_append,List.length_singleton,List.map_cons,List.map_nil,buB,dfrO,markB,dkM];omega)))) (fun z50 hz50=>?_)
   skip
   refine st ?_;exact RunE.bodyQ (z38.1,buS b7,z50,xl++(z38.2.1++[10])) ⟨hzd,.inr rfl,hz50,.inr (by simp),by rw [List.map_append];exact hrn,by simp only [List.length_append,List.length_singleton];omega⟩ (Pick.cnt fun x=>by simp only [nC,List.length_append,List.length_singleton,List.map_cons,List.map_nil,buB,dfrO,markB,dkM];omega)
  ·intro D xs x hS hI
   obtain ⟨xd,xp,xo,xl⟩:=x;obtain ⟨hxd,hxp,hxo,hxe,hxr,hxn⟩:=hI;dsimp only at hxd hxp hxo hxe hxr hxn ⊢;subst hS;refine RunE.keep (Sub.refl _) (news':=(D,dfrO)::(b6,.cells (cellsL (pV b25)).toArray 38 (0,0))::(b25,dkO xd c)::(b7,buO xp xo xl.length)::(dkB xd++(ownB 5 xo (byc xl)++[]))) (Pick.cnt fun x=>by simp only [nC,List.length_append,List.length_singleton,List.map_cons,List.map_nil,buB,dfrO,markB,dkM];omega) ?_;refine st ?_;refine RunEF.next ?_;refine RunCF.seq ?_;refine RunCF.of ?_;refine st ?_;refine RunL.callG (zF rfl ent_45) rfl rfl rfl (fun w hm=>(bstr_calls b7 xp xo xl ((D,dfrO)::[]) W w (hm.pick (Pick.cnt fun x=>by simp only [nC,List.length_append,List.length_singleton,List.map_cons,List.map_nil,buB,dfrO,markB,dkM];omega)) hxo (own_q1 hxo hxe))) (fun z51 hz51=>?_)
   skip
   refine st ?_;refine RunEF.next ?_;refine RunCF.of ?_;refine RunC.ret ?_;exact RunE.outM (news2:=[]) [D] (Pick.cnt fun x=>by simp only [nC,List.length_append,List.length_singleton,List.map_cons,List.map_nil,buB,dfrO,markB,dkM];omega) (.r2 rfl (.tmp rfl) (.tmp rfl)) (fun w hm=>⟨by rw [hxr],hm⟩)
  ·intro D c x hst
   exact hst.elim
  ·intro D c x hp
   exact hp.elim
  intro D k xs x hq hI;exact hq.elim
end Go.Proofs.YtnmkdiagbkkmaaaGreatDoor
namespace Go.Dk
open Go Go.Eng Go.Pw1 Go.Hp
def cE:Cd:=⟨⟨⟨9000,9000⟩,⟨65,66⟩,5,2000,100000,[]⟩,3200,50,20,⟨6000,6500⟩,300,900,100,200⟩
theorem line_deep {c:Cd} {b:Bn} {s:Str} {ws:List Str} (hl:s.length≤200) (h:wordsX s=some (wDeep::ws)) (hn:numsX ws=some [0]) (hr:0 < b.views.length):lineX c b s=deepD c b 0 :=
  line_does hl h (by decide) (by decide) (show verbX wDeep=some ⟨1,true,fun c b n=>deepD c b (N n 0)⟩ from rfl) hn rfl (fun _=>hr)
theorem runL_step {c:Cd} {b b' b2:Bn} {s r t:Str} {e:Int} {l:List Str} (h:stepX c b s=(b',r,e)) (h2:runL c b' l=(b2,t)):runL c b (s::l)=(b2,echoX r e++10::t):=by
  unfold runL;rw [h];dsimp only;rw [h2]
def eB0:Bn:=⟨[],⟨[],[]⟩⟩
def eB1:Bn:=⟨[⟨⟨⟨9000,9000⟩,⟨65,66⟩,5,2000,100000,[]⟩,⟨0,0,0,0⟩,false⟩],⟨[],[]⟩⟩
def eB2:Bn:=⟨[⟨⟨⟨9000,9000⟩,⟨65,66⟩,5,2000,100000,[⟨⟨1100,1101⟩,⟨0,0⟩,⟨904,905⟩,⟨0,0⟩,0⟩]⟩,⟨0,0,0,0⟩,false⟩],⟨[],[]⟩⟩
def eB3:Bn:=⟨[⟨⟨⟨9000,9000⟩,⟨65,66⟩,5,2000,100000,[⟨⟨1100,1101⟩,⟨0,0⟩,⟨904,905⟩,⟨0,0⟩,3000⟩]⟩,⟨0,0,0,0⟩,false⟩],⟨[],[]⟩⟩
def eB4:Bn:=⟨[⟨⟨⟨9000,9000⟩,⟨65,66⟩,5,2000,100000,[⟨⟨1100,1101⟩,⟨0,0⟩,⟨904,905⟩,⟨0,0⟩,3000⟩,⟨⟨1050,1050⟩,⟨0,0⟩,⟨990,992⟩,⟨0,0⟩,0⟩]⟩,⟨0,0,0,0⟩,false⟩],⟨[],[]⟩⟩
def eB5:Bn:=⟨[⟨⟨⟨9000,9000⟩,⟨65,66⟩,5,2000,100000,[⟨⟨1100,1101⟩,⟨0,0⟩,⟨904,905⟩,⟨0,0⟩,3000⟩,⟨⟨1050,1050⟩,⟨0,0⟩,⟨990,992⟩,⟨0,0⟩,0⟩]⟩,⟨0,0,0,0⟩,false⟩],⟨[],[]⟩⟩
def eB6:Bn:=⟨[⟨⟨⟨9000,9000⟩,⟨65,66⟩,5,2000,100000,[⟨⟨1100,1101⟩,⟨0,0⟩,⟨904,905⟩,⟨0,0⟩,3000⟩,⟨⟨1050,1050⟩,⟨0,0⟩,⟨990,992⟩,⟨0,0⟩,0⟩,⟨⟨1000,1002⟩,⟨0,0⟩,⟨1005,1006⟩,⟨0,0⟩,0⟩]⟩,⟨0,0,0,0⟩,false⟩],⟨[],[]⟩⟩
def eB7:Bn:=⟨[⟨⟨⟨9000,9000⟩,⟨65,66⟩,5,2000,100000,[⟨⟨1100,1101⟩,⟨0,0⟩,⟨904,905⟩,⟨0,0⟩,3000⟩,⟨⟨1050,1050⟩,⟨0,0⟩,⟨990,992⟩,⟨0,0⟩,0⟩,⟨⟨1000,1002⟩,⟨0,0⟩,⟨1005,1006⟩,⟨0,0⟩,0⟩]⟩,⟨0,0,0,0⟩,false⟩],⟨[],[]⟩⟩
def eB8:Bn:=⟨[⟨⟨⟨9000,9000⟩,⟨65,66⟩,5,2000,100000,[⟨⟨1100,1101⟩,⟨0,0⟩,⟨904,905⟩,⟨0,0⟩,3000⟩,⟨⟨1050,1050⟩,⟨0,0⟩,⟨990,992⟩,⟨0,0⟩,0⟩,⟨⟨1000,1002⟩,⟨0,0⟩,⟨1005,1006⟩,⟨0,0⟩,0⟩]⟩,⟨0,0,0,0⟩,false⟩],⟨[],[]⟩⟩
def eB9:Bn:=⟨[⟨⟨⟨9000,9000⟩,⟨65,66⟩,5,2000,100000,[⟨⟨1100,1101⟩,⟨0,0⟩,⟨904,905⟩,⟨0,0⟩,3000⟩,⟨⟨1050,1050⟩,⟨0,0⟩,⟨990,992⟩,⟨0,0⟩,0⟩,⟨⟨1000,1002⟩,⟨0,0⟩,⟨1005,1006⟩,⟨0,0⟩,0⟩]⟩,⟨2,1,0,3⟩,true⟩],⟨[],[]⟩⟩
def eB10:Bn:=⟨[⟨⟨⟨9000,9000⟩,⟨65,66⟩,5,2000,100000,[⟨⟨1100,1101⟩,⟨0,0⟩,⟨904,905⟩,⟨0,0⟩,3000⟩,⟨⟨1050,1050⟩,⟨0,0⟩,⟨990,992⟩,⟨0,0⟩,0⟩,⟨⟨1000,1002⟩,⟨0,0⟩,⟨1005,1006⟩,⟨0,0⟩,0⟩]⟩,⟨2,1,0,3⟩,true⟩],⟨[],[]⟩⟩
def eB11:Bn:=⟨[⟨⟨⟨9000,9000⟩,⟨65,66⟩,5,2000,100000,[⟨⟨1100,1101⟩,⟨0,0⟩,⟨904,905⟩,⟨0,0⟩,3000⟩,⟨⟨1050,1050⟩,⟨0,0⟩,⟨990,992⟩,⟨0,0⟩,0⟩,⟨⟨1000,1002⟩,⟨0,0⟩,⟨1005,1006⟩,⟨0,0⟩,0⟩]⟩,⟨2,1,0,3⟩,true⟩],⟨[],[]⟩⟩
def eB12:Bn:=⟨[⟨⟨⟨9000,9000⟩,⟨65,66⟩,5,2000,100000,[⟨⟨1100,1101⟩,⟨0,0⟩,⟨904,905⟩,⟨0,0⟩,3000⟩,⟨⟨1050,1050⟩,⟨0,0⟩,⟨990,992⟩,⟨0,0⟩,0⟩,⟨⟨1000,1002⟩,⟨0,0⟩,⟨1005,1006⟩,⟨0,0⟩,0⟩]⟩,⟨2,1,0,3⟩,true⟩],⟨[⟨1,[[102,97,108,108,115],[109,105,108,108],[112,97,115,115]]⟩],[]⟩⟩
def eB13:Bn:=⟨[⟨⟨⟨9000,9000⟩,⟨65,66⟩,5,2000,100000,[⟨⟨1100,1101⟩,⟨0,0⟩,⟨904,905⟩,⟨0,0⟩,3000⟩,⟨⟨1050,1050⟩,⟨0,0⟩,⟨990,992⟩,⟨0,0⟩,0⟩,⟨⟨1000,1002⟩,⟨0,0⟩,⟨1005,1006⟩,⟨0,0⟩,0⟩]⟩,⟨2,1,0,3⟩,true⟩],⟨[⟨1,[[102,97,108,108,115],[109,105,108,108],[112,97,115,115]]⟩,⟨2,[[109,105,108,108],[108,97,107,101]]⟩],[]⟩⟩
def eB14:Bn:=⟨[⟨⟨⟨9000,9000⟩,⟨65,66⟩,5,2000,100000,[⟨⟨1100,1101⟩,⟨0,0⟩,⟨904,905⟩,⟨0,0⟩,3000⟩,⟨⟨1050,1050⟩,⟨0,0⟩,⟨990,992⟩,⟨0,0⟩,0⟩,⟨⟨1000,1002⟩,⟨0,0⟩,⟨1005,1006⟩,⟨0,0⟩,0⟩]⟩,⟨2,1,0,3⟩,true⟩],⟨[⟨1,[[102,97,108,108,115],[109,105,108,108],[112,97,115,115]]⟩,⟨2,[[109,105,108,108],[108,97,107,101]]⟩],[⟨0,[63],[109,105,42]⟩]⟩⟩
def eB15:Bn:=⟨[⟨⟨⟨9000,9000⟩,⟨65,66⟩,5,2000,100000,[⟨⟨1100,1101⟩,⟨0,0⟩,⟨904,905⟩,⟨0,0⟩,3000⟩,⟨⟨1050,1050⟩,⟨0,0⟩,⟨990,992⟩,⟨0,0⟩,0⟩,⟨⟨1000,1002⟩,⟨0,0⟩,⟨1005,1006⟩,⟨0,0⟩,0⟩]⟩,⟨2,1,0,3⟩,true⟩],⟨[⟨1,[[102,97,108,108,115],[109,105,108,108],[112,97,115,115]]⟩,⟨2,[[109,105,108,108],[108,97,107,101]]⟩],[⟨0,[63],[109,105,42]⟩,⟨2,[42],[109,105,108,108]⟩]⟩⟩
def eB16:Bn:=⟨[⟨⟨⟨9000,9000⟩,⟨65,66⟩,5,2000,100000,[⟨⟨1100,1101⟩,⟨0,0⟩,⟨904,905⟩,⟨0,0⟩,3000⟩,⟨⟨1050,1050⟩,⟨0,0⟩,⟨990,992⟩,⟨0,0⟩,0⟩,⟨⟨1000,1002⟩,⟨0,0⟩,⟨1005,1006⟩,⟨0,0⟩,0⟩]⟩,⟨2,1,0,3⟩,true⟩],⟨[⟨1,[[102,97,108,108,115],[109,105,108,108],[112,97,115,115]]⟩,⟨2,[[109,105,108,108],[108,97,107,101]]⟩],[⟨0,[63],[109,105,42]⟩,⟨2,[42],[109,105,108,108]⟩]⟩⟩
theorem eS0:stepX cE eB0 [118,105,101,119]=(eB1,[118,105,101,119,32,48],0):=by kernel_rfl
theorem eS1:stepX cE eB1 [116,104,105,110,103,32,48,32,49,49,48,48,32,49,49,48,49,32,57,48,52,32,57,48,53]=(eB2,[116,104,105,110,103,32,48,32,48],0):=by kernel_rfl
theorem eS2:stepX cE eB2 [109,97,114,107,32,48,32,48,32,51,48,48,48]=(eB3,[109,97,114,107,32,53,56,53,48,48,48,32,53,57,51,57,57,57],0):=by kernel_rfl
theorem eS3:stepX cE eB3 [116,104,105,110,103,32,48,32,49,48,53,48,32,49,48,53,48,32,57,57,48,32,57,57,50]=(eB4,[116,104,105,110,103,32,49,32,48],0):=by kernel_rfl
theorem eS4:stepX cE eB4 [102,97,114,32,48,32,49]=(eB5,[102,97,114,32,57,53,57,49,32,49,48,50,52,49],0):=by kernel_rfl
theorem eS5:stepX cE eB5 [116,104,105,110,103,32,48,32,49,48,48,48,32,49,48,48,50,32,49,48,48,53,32,49,48,48,54]=(eB6,[116,104,105,110,103,32,50,32,50],0):=by kernel_rfl
theorem eS6:stepX cE eB6 [109,111,118,101,100,32,48]=(eB7,[109,111,118,101,100,32,52],0):=by kernel_rfl
theorem eS7:stepX cE eB7 [109,97,114,107,32,48,32,49,32,52,48,48,48]=(eB8,[],4):=by kernel_rfl
theorem eS8:stepX cE eB8 [116,114,105,109,32,48]=(eB9,[116,114,105,109,32,50,32,49,32,48,32,51],0):=by kernel_rfl
theorem eS9:stepX cE eB9 [116,104,105,110,103,32,48,32,48,32,48,32,48,32,48]=(eB10,[],6):=by kernel_rfl
theorem eDl:lineX cE eB10 [100,101,101,112,32,48]=deepD cE eB10 0:=line_deep (by decide) (show wordsX [100,101,101,112,32,48]=some (wDeep::[[48]]) by kernel_rfl) (show numsX [[48]]=some [0] by kernel_rfl) (by decide)
theorem deep_yes {c:Cd} {b:Bn} {i:Nat} {v:Vw} {x y:Int} (hv:b.views.getD i noVw=v) (hu:v.up=true) (h:depthsX (cardV c v) v.cuts=((x,y),0)):deepD c b i = .ok (b,sayX wDeep [x,y]):=by
  unfold deepD;dsimp only;rw [hv,if_neg (by rw [hu];decide),h];rfl
def eV:Vw:=⟨⟨⟨9000,9000⟩,⟨65,66⟩,5,2000,100000,[⟨⟨1100,1101⟩,⟨0,0⟩,⟨904,905⟩,⟨0,0⟩,3000⟩,⟨⟨1050,1050⟩,⟨0,0⟩,⟨990,992⟩,⟨0,0⟩,0⟩,⟨⟨1000,1002⟩,⟨0,0⟩,⟨1005,1006⟩,⟨0,0⟩,0⟩]⟩,⟨2,1,0,3⟩,true⟩
theorem eD4:depthsX (cardV cE eV) eV.cuts=((2956,11700),0):=by rw [depths_same];kernel_rfl
theorem eD5:deepD cE eB10 0 = .ok (eB10,sayX wDeep [2956,11700]):=deep_yes (v:=eV) rfl rfl eD4
theorem eD6:sayX wDeep [2956,11700]=[100,101,101,112,32,50,57,53,54,32,49,49,55,48,48]:=by kernel_rfl
theorem step_is {c:Cd} {b b':Bn} {s r:Str} (h:lineX c b s = .ok (b',r)):stepX c b s=(b',r,0):=by unfold stepX;rw [h]
theorem eS10:stepX cE eB10 [100,101,101,112,32,48]=(eB11,[100,101,101,112,32,50,57,53,54,32,49,49,55,48,48],0):=step_is (by rw [eDl,eD5,eD6];rfl)
theorem eS11:stepX cE eB11 [98,111,120,32,49,32,102,97,108,108,115,32,109,105,108,108,32,112,97,115,115]=(eB12,[98,111,120,32,48],0):=by kernel_rfl
theorem eS12:stepX cE eB12 [98,111,120,32,50,32,109,105,108,108,32,108,97,107,101]=(eB13,[98,111,120,32,49],0):=by kernel_rfl
theorem eS13:stepX cE eB13 [99,97,114,100,32,48,32,63,32,109,105,42]=(eB14,[99,97,114,100,32,48],0):=by kernel_rfl
theorem eS14:stepX cE eB14 [99,97,114,100,32,50,32,42,32,109,105,108,108]=(eB15,[99,97,114,100,32,49,32,105,115,32,48,32,49,32,105,115,32,49,32,51],0):=by kernel_rfl
theorem eS15:stepX cE eB15 [119,104,105,99,104,32,48]=(eB16,[119,104,105,99,104,32,49],0):=by kernel_rfl
def eScript:Str:=[118,105,101,119,10,116,104,105,110,103,32,48,32,49,49,48,48,32,49,49,48,49,32,57,48,52,32,57,48,53,10,109,97,114,107,32,48,32,48,32,51,48,48,48,10,116,104,105,110,103,32,48,32,49,48,53,48,32,49,48,53,48,32,57,57,48,32,57,57,50,10,102,97,114,32,48,32,49,10,116,104,105,110,103,32,48,32,49,48,48,48,32,49,48,48,50,32,49,48,48,53,32,49,48,48,54,10,109,111,118,101,100,32,48,10,109,97,114,107,32,48,32,49,32,52,48,48,48,10,116,114,105,109,32,48,10,116,104,105,110,103,32,48,32,48,32,48,32,48,32,48,10,100,101,101,112,32,48,10,98,111,120,32,49,32,102,97,108,108,115,32,109,105,108,108,32,112,97,115,115,10,98,111,120,32,50,32,109,105,108,108,32,108,97,107,101,10,99,97,114,100,32,48,32,63,32,109,105,42,10,99,97,114,100,32,50,32,42,32,109,105,108,108,10,119,104,105,99,104,32,48,10]
def eSays:Str:=[118,105,101,119,32,48,10,116,104,105,110,103,32,48,32,48,10,109,97,114,107,32,53,56,53,48,48,48,32,53,57,51,57,57,57,10,116,104,105,110,103,32,49,32,48,10,102,97,114,32,57,53,57,49,32,49,48,50,52,49,10,116,104,105,110,103,32,50,32,50,10,109,111,118,101,100,32,52,10,101,114,114,111,114,32,52,10,116,114,105,109,32,50,32,49,32,48,32,51,10,101,114,114,111,114,32,54,10,100,101,101,112,32,50,57,53,54,32,49,49,55,48,48,10,98,111,120,32,48,10,98,111,120,32,49,10,99,97,114,100,32,48,10,99,97,114,100,32,49,32,105,115,32,48,32,49,32,105,115,32,49,32,51,10,119,104,105,99,104,32,49,10]
theorem eLines:linesX eScript []=[[118,105,101,119],[116,104,105,110,103,32,48,32,49,49,48,48,32,49,49,48,49,32,57,48,52,32,57,48,53],[109,97,114,107,32,48,32,48,32,51,48,48,48],[116,104,105,110,103,32,48,32,49,48,53,48,32,49,48,53,48,32,57,57,48,32,57,57,50],[102,97,114,32,48,32,49],[116,104,105,110,103,32,48,32,49,48,48,48,32,49,48,48,50,32,49,48,48,53,32,49,48,48,54],[109,111,118,101,100,32,48],[109,97,114,107,32,48,32,49,32,52,48,48,48],[116,114,105,109,32,48],[116,104,105,110,103,32,48,32,48,32,48,32,48,32,48],[100,101,101,112,32,48],[98,111,120,32,49,32,102,97,108,108,115,32,109,105,108,108,32,112,97,115,115],[98,111,120,32,50,32,109,105,108,108,32,108,97,107,101],[99,97,114,100,32,48,32,63,32,109,105,42],[99,97,114,100,32,50,32,42,32,109,105,108,108],[119,104,105,99,104,32,48]]:=by kernel_rfl
theorem eRun:(runL cE noBn (linesX eScript [])).2=eSays:=by
  rw [eLines];have h:=(runL_step eS0 (runL_step eS1 (runL_step eS2 (runL_step eS3 (runL_step eS4 (runL_step eS5 (runL_step eS6 (runL_step eS7 (runL_step eS8 (runL_step eS9 (runL_step eS10 (runL_step eS11 (runL_step eS12 (runL_step eS13 (runL_step eS14 (runL_step eS15 (show runL cE eB16 []=(eB16,[]) from rfl)))))))))))))))));rw [show noBn=eB0 from rfl];refine (congrArg Prod.snd h).trans ?_;exact (show _=eSays by kernel_rfl)
theorem eRunX:runX cE eScript=(eSays,0):=by
  unfold runX;rw [if_neg (by decide +kernel),if_neg (fun h=>h.2 (by decide +kernel)),if_pos (by decide +kernel),show bareC cE=cE from rfl,eRun]
end Go.Dk
namespace Go.Proofs.YtnmkdiagbkkmaaaGreatDoor
open Go Go.Eng
theorem ent_101:Enters Tryz.prog 101:=enters_of Tryz.func101 (by kernel_rfl) rfl
theorem ent_11:Enters Tryz.prog 11:=enters_of Tryz.func11 (by kernel_rfl) rfl
theorem ent_39:Enters Tryz.prog 39:=enters_of Tryz.func39 (by kernel_rfl) rfl
theorem places_26:placesB Tryz.prog 26=some [(0,2),(2,2),(4,1),(5,1),(6,1),(7,1)]:=by kernel_rfl
theorem places_28:placesB Tryz.prog 28=some [(0,8),(8,1),(9,1),(10,1),(11,2),(13,1),(14,1),(15,1),(16,1)]:=by kernel_rfl
theorem zero_26:zeroB Tryz.prog 26=some [.int .i64 0,.int .i64 0,.int .i64 0,.int .i64 0,.int .i64 0,.int .i64 0,.int .i64 0,.slice none 0 0]:=by kernel_rfl
end Go.Proofs.YtnmkdiagbkkmaaaGreatDoor
namespace Go.Proofs.YtnmkdiagbkkmaaaGreatDoor
open Go Go.Eng Go.Dk Go.RowKit Go.Pw1 Go.Hp

theorem Run_calls (c:Cd) (q:Option Addr) (b o cap:Nat) (s:Str) (W:World) (hS:Sl W q b o 9 (c.p.things.map Th.cells)) (hq:q=none→cap=0) (hl:c.p.things.length≤1000) (hL:Lw Tryz.prog W) (hs:s.length≤100000∨131072 < s.length) :
    Calls Tryz.prog 11 #[c.v q cap,.string (bs s)] W (Pure (.tuple #[.string (bs (runX c s).1),.int .i64 (runX c s).2]) W):=by
  by_cases h1:131072 < s.length
  · exact Run_long c q b o cap s W h1
  · have hs2:s.length≤100000:=by omega
    by_cases h2:s ≠ []∧Lib.hasSuffix s [10]=false
    · exact Run_form c q b o cap s W h1 h2.1 h2.2
    · cases hc:cardIs c with
      | false=>exact Run_arg c q b o cap s W hS hq hl hL h1 (ends_of h2) hc
      | true=>exact Run_ok c q b o cap s W hS hq hl hL hs2 (ends_of h2) hc
theorem dspan_calls (lo hi:Int) (W:World):Calls Tryz.prog 101 #[.int .i64 lo,.int .i64 hi] W (Pure (.agg #[.int .i64 lo,.int .i64 hi]) W):=by
  refine calls_start Tryz.func101 rfl rfl ?_;refine st ?_;refine zn (New.alloc zero_23) (fun b4=>?_)
  refine lv (Val.build (parts:=[(0,.tmp 5),(1,.tmp 6)]) rfl zero_23 places_23 rfl) ?_;refine RunL.sto (Sto.store rfl rfl .here ty_23 rfl rfl) rfl rfl ?_;refine su ?_;exact RunE.retP (.r1 rfl (.agg rfl (.head _) ty_23 rfl)) (by first | rfl | simp)
theorem dcard_calls (W:World):Calls Tryz.prog 39 #[] W (Pure (cE.v none 0) W):=by
  refine calls_start Tryz.func39 rfl rfl ?_;refine st ?_;refine zn (New.alloc zero_28) (fun b0=>?_)
  refine zc (zF rfl ent_101) (fun w hm=>dspan_calls _ _ w) ?_;refine zc (zF rfl ent_101) (fun w hm=>dspan_calls _ _ w) ?_;refine lv (Val.build (parts:=[(0,.tmp 2),(1,.tmp 3),(2,.const (.int .i64 5)),(3,.const (.int .i64 2000)),(4,.const (.int .i64 100000))]) rfl zero_26 places_26 rfl) ?_;refine zn (New.alloc zero_26) (fun b1=>?_)
  refine RunL.sto (Sto.store rfl rfl .here ty_26 rfl rfl) rfl rfl ?_;refine st ?_;refine RunC.draw 2 fol_ (.cons .here rfl (.cons .here rfl .nil)) ?_;refine zw 0 ?_;refine zA 1 ?_;refine RunI.callP rfl (zF rfl ent_101) rfl rfl rfl (fun w hm=>dspan_calls _ _ w) (RunK.toA (.cons .here rfl (.cons .here rfl .nil)) (.cons .here rfl (.cons .here rfl .nil)) rfl ?_)
  refine zt ?_;refine zo 2 rfl (Val.build (parts:=[(0,.tmp 5),(1,.const (.int .i64 3200)),(2,.const (.int .i64 50)),(3,.const (.int .i64 20)),(4,.tmp 6),(5,.const (.int .i64 300)),(6,.const (.int .i64 900)),(7,.const (.int .i64 100)),(8,.const (.int .i64 200))]) rfl zero_28 places_28 rfl) ?_;refine zB 3 ?_;refine RunI.sto rfl (Sto.store rfl rfl (.there .here) ty_28 rfl rfl) rfl rfl (RunK.toB ?_)
  refine zd ?_;refine su ?_;exact RunE.retP (.r1 rfl (.agg rfl (.tail _ (.head _)) ty_28 rfl)) (by first | rfl | simp)
theorem eRun_calls (W:World) (hL:Lw Tryz.prog W):Calls Tryz.prog 11 #[cE.v none 0,.string (bs eScript)] W (Pure (.tuple #[.string (bs eSays),.int .i64 0]) W):=by
  have h:=Run_calls cE none 0 0 0 eScript W ⟨fun h=>absurd rfl h,fun x hx=>(by cases hx),fun i h=>(by cases h)⟩ (fun _=>rfl) (by decide) hL (.inl (by decide +kernel));rw [eRunX] at h;exact h
theorem eRun_callsT (t:Str) (ht:t=eSays) (W:World) (hL:Lw Tryz.prog W):Calls Tryz.prog 11 #[cE.v none 0,.string (bs eScript)] W (Pure (.tuple #[.string (bs t),.int .i64 0]) W):=by
  rw [ht];exact eRun_calls W hL
set_option maxRecDepth 100000 in
theorem dawake_calls (W:World) (hL:Lw Tryz.prog W):Calls Tryz.prog 10 #[] W (Pure (.bool true) W):=by
  obtain ⟨t,ht⟩:∃ t,t=eSays:=⟨_,rfl⟩;refine calls_start Tryz.func10 rfl rfl ?_;refine st ?_;refine zc (zF rfl ent_39) (fun w hm=>dcard_calls w) ?_;refine zc (zF rfl ent_11) (fun w hm=>eRun_callsT t ht w (hL.mono hm)) ?_;refine lv (Val.eqlStr (a:=t) (b:=eSays) rfl rfl) ?_;refine RunL.sure (dj:=10) true rfl (by simp [ht]) ?_;refine su ?_;exact RunE.retP (.r1 rfl (.tmp rfl)) (by first | rfl | simp)
end Go.Proofs.YtnmkdiagbkkmaaaGreatDoor
namespace Go.Dk
open Go Go.Eng Go.Pw1 Go.Hp
structure VwRight (c:Cd) (v:Vw):Prop where
  pw:(powerX v.p).2=0
  s1:v.p.focal=c.p.focal
  s2:v.p.base=c.p.base
  s3:v.p.tilt=c.p.tilt
  s4:v.p.near=c.p.near
  s5:v.p.far=c.p.far
  n:v.p.things.length≤12
  up:v.up=true→(hurtsX (cardV c v) v.cuts).2.2=0
  dn:v.up=false→v.cuts=noTr
structure Right (c:Cd) (b:Bn):Prop where
  v:∀ v∈b.views,VwRight c v
  nv:b.views.length≤4
  nb:b.heap.boxes.length≤4
  nc:b.heap.cards.length≤8
  w:(WhyX b.heap).2=0
theorem right_none (c:Cd):Right c noBn:=⟨fun v h=>(by cases h),by decide,by decide,by decide,by kernel_rfl⟩
variable {c:Cd} {b:Bn}
theorem Right.put (h:Right c b) {i:Nat} {v:Vw} (hv:VwRight c v):Right c (putV b i v) :=
  ⟨fun x hx=>by
    rcases List.mem_or_eq_of_mem_set hx with hx | rfl
    · exact h.v x hx
    · exact hv,by show (b.views.set i v).length≤4;rw [List.length_set];exact h.nv,h.nb,h.nc,h.w⟩
theorem Right.at (h:Right c b) {i:Nat} (hi:i < b.views.length):VwRight c (b.views.getD i noVw):=by
  rw [List.getD_eq_getElem?_getD,List.getElem?_eq_getElem hi];exact h.v _ (List.getElem_mem hi)
theorem power_of_why {p:Pr} {n:Int} (h:(whyX p n).2=0) (hk:∀ k,truthsX p [n] = .error k→k ≠ 0):(powerX p).2=0:=by
  unfold whyX at h
  split at h
  · rename_i k hk2
    exact absurd h (hk k hk2)
  · rename_i w hw
    unfold truthsX at hw
    split at hw
    · cases hw
    · rename_i u hu
      have h1:=(openX_ok hu).1;unfold powerX truthsX openX;rw [if_pos h1];simp only [List.any_nil,Bool.false_eq_true,if_false];rw [hw]
theorem truths_ne {p:Pr} {l:List Int} {k:Int} (h:truthsX p l = .error k):k ≠ 0:=by
  unfold truthsX openX lookX at h
  split at h
  · rename_i h1
    cases h
    split at h1
    · split at h1
      · cases h1;decide
      · cases h1
    · cases h1;decide
  · split at h
    · cases h
    · cases h;decide
theorem bare_power (hc:cardIs c=true):(powerX (bareC c).p).2=0:=by
  have h1:isPair c.p=true:=by
    unfold cardIs at hc;simp only [Bool.and_eq_true,Bool.not_eq_true',decide_eq_false_iff_not] at hc;have h2:=hc.1.1
    cases hp:isPair c.p with
    | true=>rfl
    | false =>
      exfalso
      apply h2
      unfold powerX truthsX openX;rw [hp];rfl
  have h3:isPair (bareC c).p=true:=by
    unfold isPair at h1 ⊢;simp only [Bool.and_eq_true] at h1 ⊢;exact ⟨⟨h1.1.1,(show decide (((0:Nat):Int)≤12)=true by decide)⟩,rfl⟩
  unfold powerX truthsX openX;rw [if_pos h3];rfl
theorem right_view (hc:cardIs c=true) (h:Right c b) {b':Bn} {r:Str} (e:viewD (bareC c) b = .ok (b',r)):Right c b':=by
  unfold viewD at e
  split at e
  · rename_i hl
    cases e
    refine ⟨fun v hv=>?_,by simp;omega,h.nb,h.nc,h.w⟩
    rcases List.mem_append.1 hv with hv | hv
    · exact h.v v hv
    · rw [List.mem_singleton] at hv
      subst hv;exact ⟨bare_power hc,rfl,rfl,rfl,rfl,rfl,(show (0:Nat)≤12 by decide),fun h=>(by cases h),fun _=>rfl⟩
  · cases e
theorem right_thing (h:Right c b) {i:Nat} (hi:i < b.views.length) {x1 x2 y1 y2:Int} {b':Bn} {r:Str} (e:thingD b i x1 x2 y1 y2 = .ok (b',r)):Right c b':=by
  have hv:=h.at hi;unfold thingD at e;dsimp only at e
  split at e
  · cases e
  · rename_i hu
    split at e
    · cases e
    · rename_i hl
      split at e
      · rename_i hw
        cases e
        exact h.put ⟨power_of_why hw (fun k hk=>truths_ne hk),hv.s1,hv.s2,hv.s3,hv.s4,hv.s5,by rw [List.length_append,List.length_singleton];omega,fun h2=>absurd h2 hu,hv.dn⟩
      · cases e
theorem right_mark (h:Right c b) {i k:Nat} (hi:i < b.views.length) {far:Int} {b':Bn} {r:Str} (e:markD b i k far = .ok (b',r)):Right c b':=by
  have hv:=h.at hi;unfold markD at e;dsimp only at e
  split at e
  · cases e
  · split at e
    · cases e
    · rename_i hu
      split at e
      · rename_i hw
        cases e
        exact h.put ⟨hw,hv.s1,hv.s2,hv.s3,hv.s4,hv.s5,by rw [List.length_modify];exact hv.n,fun h2=>absurd h2 hu,hv.dn⟩
      · cases e
theorem trim_right {x:Cd} (h:(trimX x).2=0):(hurtsX x (trimX x).1).2.2=0:=by
  unfold trimX at h ⊢
  split at h
  · rename_i ho
    rw [if_pos ho]
    split at h
    · rename_i t ht
      dsimp only;obtain ⟨h1,-,h3⟩:=openM_ok ho;obtain ⟨t1,t2,-⟩:=best_is (cardIs_ok h1).1 ht
      have h5:openM x [t]=0:=by
        unfold openM;rw [if_pos h1,if_pos (by simp [t1]),h3]
      unfold hurtsX;rw [if_pos h5];unfold fitT at t2;rw [if_pos (by simpa using t2)]
    · cases h
  · rename_i ho
    exact absurd h ho
theorem right_trim (h:Right c b) {i:Nat} (hi:i < b.views.length) {b':Bn} {r:Str} (e:trimD (bareC c) b i = .ok (b',r)):Right c b':=by
  have hv:=h.at hi;unfold trimD at e;dsimp only at e
  split at e
  · cases e
  · split at e
    · rename_i ht
      cases e
      refine h.put ⟨hv.pw,hv.s1,hv.s2,hv.s3,hv.s4,hv.s5,hv.n,fun _=>?_,fun h2=>(by cases h2)⟩
      exact trim_right (x:=cardV c (b.views.getD i noVw)) ht
    · cases e
theorem right_off (h:Right c b) {i:Nat} (hi:i < b.views.length) {b':Bn} {r:Str} (e:offD b i = .ok (b',r)):Right c b':=by
  have hv:=h.at hi;unfold offD at e;dsimp only at e
  split at e
  · cases e
  · cases e
    exact h.put ⟨hv.pw,hv.s1,hv.s2,hv.s3,hv.s4,hv.s5,hv.n,fun h2=>(by cases h2),fun _=>rfl⟩
theorem right_box (h:Right c b) {w:List Str} {b':Bn} {r:Str} (e:boxD b w = .ok (b',r)):Right c b':=by
  unfold boxD at e
  split at e
  · cases e
  · split at e
    · cases e
    · split at e
      · cases e
      · rename_i hl
        dsimp only at e
        split at e
        · rename_i hw
          cases e
          exact ⟨h.v,h.nv,by simp;omega,h.nc,hw⟩
        · cases e
theorem right_card (h:Right c b) {w:List Str} {b':Bn} {r:Str} (e:cardD b w = .ok (b',r)):Right c b':=by
  unfold cardD at e
  split at e
  · cases e
  · split at e
    · cases e
    · split at e
      · cases e
      · rename_i hl
        split at e
        · cases e
        · dsimp only at e
          split at e
          · cases e
          · rename_i hw
            split at e
            · cases e
            · cases e
              exact ⟨h.v,h.nv,h.nb,by simp;omega,Classical.not_not.1 hw⟩
theorem q_far_same {i k:Nat} {b':Bn} {r:Str} (e:farD b i k = .ok (b',r)):b'=b:=by
  unfold farD at e;dsimp only at e
  split at e
  · cases e
  · split at e <;> cases e;rfl
theorem q_moved_same {i:Nat} {b':Bn} {r:Str} (e:movedD b i = .ok (b',r)):b'=b:=by
  unfold movedD at e;dsimp only at e
  split at e <;> cases e;rfl
theorem q_hurts_same {i:Nat} {t:Tr} {b':Bn} {r:Str} (e:hurtsD c b i t = .ok (b',r)):b'=b:=by
  unfold hurtsD at e;dsimp only at e
  split at e
  · cases e;rfl
  · split at e <;> cases e;rfl
theorem q_deep_same {i:Nat} {b':Bn} {r:Str} (e:deepD c b i = .ok (b',r)):b'=b:=by
  unfold deepD at e;dsimp only at e
  split at e
  · cases e
  · split at e <;> cases e;rfl
theorem q_ways_same {b':Bn} {r:Str} (e:waysD b = .ok (b',r)):b'=b:=by
  unfold waysD at e
  split at e <;> cases e;rfl
theorem q_which_same {k:Nat} {b':Bn} {r:Str} (e:whichD b k = .ok (b',r)):b'=b:=by
  unfold whichD at e
  split at e
  · cases e
  · split at e
    · cases e
    · cases e;rfl
theorem right_does (hc:cardIs c=true) (h:Right c b) {x:Str} {v:Vb} (hv:verbX x=some v) {n:List Int} (hn:v.about=true→N n 0 < b.views.length) {b':Bn} {r:Str} (e:v.does (bareC c) b n = .ok (b',r)):Right c b':=by
  obtain ⟨k,hk⟩:=verbX_mem hv;simp only [verbsX,List.mem_cons,Prod.mk.injEq,List.not_mem_nil,or_false] at hk
  rcases hk with ⟨-,rfl⟩ | ⟨-,rfl⟩ | ⟨-,rfl⟩ | ⟨-,rfl⟩ | ⟨-,rfl⟩ | ⟨-,rfl⟩ | ⟨-,rfl⟩ | ⟨-,rfl⟩ | ⟨-,rfl⟩ | ⟨-,rfl⟩ | ⟨-,rfl⟩
  · exact right_view hc h e
  · exact right_thing h (hn rfl) e
  · exact right_mark h (hn rfl) e
  · rw [q_far_same e];exact h
  · rw [q_moved_same e];exact h
  · rw [q_hurts_same e];exact h
  · exact right_trim h (hn rfl) e
  · rw [q_deep_same e];exact h
  · exact right_off h (hn rfl) e
  · rw [q_ways_same e];exact h
  · rw [q_which_same e];exact h
theorem right_line (hc:cardIs c=true) (h:Right c b) {s:Str} {b':Bn} {r:Str} (e:lineX (bareC c) b s = .ok (b',r)):Right c b':=by
  unfold lineX at e
  split at e
  · cases e
  · split at e
    · cases e
    · split at e
      · exact right_box h e
      · split at e
        · exact right_card h e
        · split at e
          · cases e
          · rename_i hv
            split at e
            · cases e
            · split at e
              · cases e
              · split at e
                · cases e
                · rename_i hr
                  exact right_does hc h hv (fun h1=>Classical.byContradiction fun h2=>hr ⟨h1,h2⟩) e
theorem right_step (hc:cardIs c=true) (h:Right c b) (s:Str):Right c (stepX (bareC c) b s).1:=by
  unfold stepX
  cases e:lineX (bareC c) b s with
  | ok y=>exact right_line hc h e
  | error k=>exact h
end Go.Dk
namespace Go.Proofs.YtnmkdiagbkkmaaaGreatDoor
open Go Go.Eng Go.Pw1

theorem rin_calls (n lo hi:Int) (W:World):Calls Tryz.prog 143 #[.int .i64 n,.int .i64 lo,.int .i64 hi] W (Pure (.bool (within n lo hi)) W):=by
  refine calls_start Tryz.func143 rfl rfl ?_;refine st ?_
  refine RunL.andPart (dj:=10) (dp:=14) 4 rfl (fun g10=>by
    have g10':=g10;try simp only [nH] at g10'
    refine sv ?_;exact zs g10
  ) (fun g10=>by
    have g10':=g10;try simp only [nH] at g10'
    iterate 3 refine RunL.no rfl rfl rfl ?_
    refine sv ?_;exact zs g10
  ) ?_
  refine su ?_;exact RunE.retP (.r1 rfl (.tmp rfl)) (by first | rfl | simp)
theorem rspan_calls (s:Sp) (lo hi:Int) (W:World):Calls Tryz.prog 144 #[.agg #[.int .i64 s.lo,.int .i64 s.hi],.int .i64 lo,.int .i64 hi] W (Pure (.bool (isSpan s lo hi)) W):=by
  refine calls_start Tryz.func144 rfl rfl ?_;refine st ?_;refine zn (New.box rfl) (fun b3=>?_)
  refine RunL.andPart (dj:=11) (dp:=17) 6 rfl (fun g11=>by
    have g11':=g11;try simp only [nH] at g11'
    refine lv (Val.fieldAddr rfl fld_23_0) ?_;refine lv (Val.load_one rfl (.head _) ty_3 rfl) ?_;refine lv (Val.fieldAddr rfl fld_23_1) ?_;refine RunL.val (Val.load_one rfl (.head _) ty_3 rfl) rfl rfl rfl ?_;refine sv ?_;exact zs g11
  ) (fun g11=>by
    have g11':=g11;try simp only [nH] at g11'
    iterate 5 refine RunL.no rfl rfl rfl ?_
    refine sv ?_;exact zs g11
  ) ?_
  refine st ?_
  refine RunL.andPart (dj:=18) (dp:=23) 5 rfl (fun g18=>by
    have g18':=g18;try simp only [nH] at g18'
    refine lv (Val.fieldAddr rfl fld_23_1) ?_;refine RunL.val (Val.load_one rfl (.head _) ty_3 rfl) rfl rfl rfl ?_;refine sv ?_;exact zs g18
  ) (fun g18=>by
    have g18':=g18;try simp only [nH] at g18'
    iterate 4 refine RunL.no rfl rfl rfl ?_
    refine sv ?_;exact zs g18
  ) ?_
  refine su ?_;exact RunE.retP (.r1 rfl (.tmp rfl)) (by first | rfl | simp)
theorem rplace_calls (x y:Sp) (W:World):Calls Tryz.prog 142 #[.agg #[.int .i64 x.lo,.int .i64 x.hi,.int .i64 y.lo,.int .i64 y.hi]] W (Pure (.bool (isPlace x y)) W):=by
  refine calls_start Tryz.func142 rfl rfl ?_;refine st ?_;refine zn (New.box rfl) (fun b1=>?_)
  refine zc (zF rfl ent_144) (fun w hm=>rspan_calls ⟨_,_⟩ _ _ w) ?_
  refine RunL.andPart (dj:=6) (dp:=10) 4 rfl (fun g6=>by
    have g6':=g6;try simp only [nH] at g6'
    refine su ?_;refine RunL.callP (zF rfl ent_144) rfl rfl rfl (fun w hm=>rspan_calls ⟨_,_⟩ _ _ w) ?_;refine sv ?_;exact zs g6
  ) (fun g6=>by
    have g6':=g6;try simp only [nH] at g6'
    iterate 3 refine RunL.no rfl rfl rfl ?_
    refine sv ?_;exact zs g6
  ) ?_
  refine su ?_;exact RunE.retP (.r1 rfl (.tmp rfl)) (by first | rfl | simp)
theorem rPair_calls (p:Pr) (q:Option Addr) (b o cap:Nat) (W:World) (hS:Sl W q b o 9 (p.things.map Th.cells)) (hl:p.things.length≤100000000000) :
    Calls Tryz.prog 59 #[p.v q cap] W (Pure (.bool (isPair p)) W):=by
  refine calls_start Tryz.func59 rfl rfl ?_;refine st ?_;refine zn (New.box rfl) (fun b1=>?_)
  refine RunC.loopK (p.things.length) (fun k q=>(3,.int .i64 (k:Int))::q) (fun _=>_) (fun _=>[]) (fun k=>(p.things.take k).any (bad p)=false) (by simp) rfl (zE 3 rfl rfl (zS 1 rfl (Sub.nil _))) (.cons .here rfl .nil) ?_;intro k kN kI;refine su ?_;refine cn rfl ?_ ?_
  ·intro c0'
   have hk:k < p.things.length:=by omega
   obtain ⟨t,ht⟩:∃ t,p.things[k]=t:=⟨_,rfl⟩;refine su ?_;refine lv (Val.indexAddr_slp rfl rfl sl_24 (by omega) (by omega) (hS.ptrM hk)) ?_;refine lv (Val.load_gen rfl (fun w hm=>hS.loadX (by decide) hm (by simp) ty_107 hk ht)) ?_;refine zn (New.alloc zero_107) (fun b4=>?_)
   refine RunL.sto (Sto.store rfl rfl .here ty_107 rfl rfl) rfl rfl ?_;refine su ?_;refine zc (zF rfl ent_142) (fun w hm=>rplace_calls ⟨_,_⟩ ⟨_,_⟩ w) ?_
   refine RunL.orPart (dj:=21) (dp:=26) 5 rfl (fun g21=>by
     have g21':=g21;try simp only [nH] at g21'
     refine su ?_;refine RunL.callP (zF rfl ent_142) rfl rfl rfl (fun w hm=>rplace_calls ⟨_,_⟩ ⟨_,_⟩ w) ?_;refine sv ?_;exact zs g21
   ) (fun g21=>by
     have g21':=g21;try simp only [nH] at g21'
     iterate 4 refine RunL.no rfl rfl rfl ?_
     refine sv ?_;exact zs g21
   ) ?_
   refine st ?_
   refine RunL.orPart (dj:=27) (dp:=41) 14 rfl (fun g27=>by
     have g27':=g27;try simp only [nH] at g27'
     refine su ?_
     refine RunL.andPart (dj:=31) (dp:=40) 9 rfl (fun g31=>by
       have g31':=g31;try simp only [nH] at g31'
       refine su ?_;refine RunL.callP (zF rfl ent_143) rfl rfl rfl (fun w hm=>rin_calls _ _ _ w) ?_;refine sv ?_;exact zs g31
     ) (fun g31=>by
       have g31':=g31;try simp only [nH] at g31'
       iterate 8 refine RunL.no rfl rfl rfl ?_
       refine sv ?_;exact zs g31
     ) ?_
     refine sv ?_;exact zs g27
   ) (fun g27=>by
     have g27':=g27;try simp only [nH] at g27'
     iterate 13 refine RunL.no rfl rfl rfl ?_
     refine sv ?_;exact zs g27
   ) ?_
   refine st ?_;refine cn rfl ?_ ?_
   ·intro c1'
    refine su ?_;exact RunE.retP (.r1 rfl (.tmp rfl)) (by have h:=any_hit (f:=bad p) hk (by rw [ht];simpa [bad] using c1');simp [isPair,h])
   intro c1';refine st ?_;refine lv (Val.add rfl rfl (IntWalk.i64_in _ ⟨by omega,by omega⟩)) ?_;exact RunE.round (by omega) (any_snoc hk kI (by rw [ht];obtain ⟨⟨h1,h2⟩,h3⟩:=c1';simp only [bad,Bool.or_eq_false_iff,Bool.not_eq_false',Bool.and_eq_false_iff,decide_eq_true_eq];exact ⟨⟨h1,h2⟩,h3⟩)) rfl (zE 3 rfl rfl (zS 1 rfl (Sub.nil _))) (.cons (.there .here) rfl .nil)
  intro c0';obtain rfl:k=p.things.length:=by omega
  rw [List.take_length] at kI;refine RunC.exit ?_;refine su ?_;refine RunE.block_here ?_;refine su ?_
  refine RunL.andPart (dj:=46) (dp:=50) 4 rfl (fun g46=>by
    have g46':=g46;try simp only [nH] at g46'
    refine su ?_;refine RunL.callP (zF rfl ent_144) rfl rfl rfl (fun w hm=>rspan_calls ⟨_,_⟩ _ _ w) ?_;refine sv ?_;exact zs g46
  ) (fun g46=>by
    have g46':=g46;try simp only [nH] at g46'
    iterate 3 refine RunL.no rfl rfl rfl ?_
    refine sv ?_;exact zs g46
  ) ?_
  refine st ?_
  refine RunL.andPart (dj:=51) (dp:=55) 4 rfl (fun g51=>by
    have g51':=g51;try simp only [nH] at g51'
    refine su ?_;refine RunL.callP (zF rfl ent_144) rfl rfl rfl (fun w hm=>rspan_calls ⟨_,_⟩ _ _ w) ?_;refine sv ?_;exact zs g51
  ) (fun g51=>by
    have g51':=g51;try simp only [nH] at g51'
    iterate 3 refine RunL.no rfl rfl rfl ?_
    refine sv ?_;exact zs g51
  ) ?_
  refine st ?_
  refine RunL.andPart (dj:=56) (dp:=60) 4 rfl (fun g56=>by
    have g56':=g56;try simp only [nH] at g56'
    refine su ?_;refine RunL.callP (zF rfl ent_143) rfl rfl rfl (fun w hm=>rin_calls _ _ _ w) ?_;refine sv ?_;exact zs g56
  ) (fun g56=>by
    have g56':=g56;try simp only [nH] at g56'
    iterate 3 refine RunL.no rfl rfl rfl ?_
    refine sv ?_;exact zs g56
  ) ?_
  refine st ?_
  refine RunL.andPart (dj:=61) (dp:=65) 4 rfl (fun g61=>by
    have g61':=g61;try simp only [nH] at g61'
    refine su ?_;refine RunL.callP (zF rfl ent_143) rfl rfl rfl (fun w hm=>rin_calls _ _ _ w) ?_;refine sv ?_;exact zs g61
  ) (fun g61=>by
    have g61':=g61;try simp only [nH] at g61'
    iterate 3 refine RunL.no rfl rfl rfl ?_
    refine sv ?_;exact zs g61
  ) ?_
  refine st ?_
  refine RunL.andPart (dj:=66) (dp:=72) 6 rfl (fun g66=>by
    have g66':=g66;try simp only [nH] at g66'
    refine su ?_;refine RunL.callP (zF rfl ent_143) rfl rfl rfl (fun w hm=>rin_calls _ _ _ w) ?_;refine sv ?_;exact zs g66
  ) (fun g66=>by
    have g66':=g66;try simp only [nH] at g66'
    iterate 5 refine RunL.no rfl rfl rfl ?_
    refine sv ?_;exact zs g66
  ) ?_
  refine su ?_;exact RunE.retP (.r1 rfl (.tmp rfl)) (by simp only [isPair,kI,Bool.not_false,Bool.and_true];congr 1;cases isSpan p.focal 1 50000 <;> cases isSpan p.base 1 10000 <;> cases within p.tilt 0 1000 <;> cases within p.near 2000 1073741824 <;> cases within p.far p.near 1073741824 <;> simp)
end Go.Proofs.YtnmkdiagbkkmaaaGreatDoor
namespace Go.Pw1
open Go Go.Eng
end Go.Pw1
namespace Go.Proofs.YtnmkdiagbkkmaaaGreatDoor
open Go Go.Eng Go.Pw1

theorem mrin_calls (n lo hi:Int) (W:World):Calls Tryz.prog 58 #[.int .i64 n,.int .i64 lo,.int .i64 hi] W (Pure (.bool (within n lo hi)) W):=by
  refine calls_start Tryz.func58 rfl rfl ?_;refine st ?_
  refine RunL.andPart (dj:=10) (dp:=14) 4 rfl (fun g10=>by
    have g10':=g10;try simp only [nH] at g10'
    refine sv ?_;exact zs g10
  ) (fun g10=>by
    have g10':=g10;try simp only [nH] at g10'
    iterate 3 refine RunL.no rfl rfl rfl ?_
    refine sv ?_;exact zs g10
  ) ?_
  refine su ?_;exact RunE.retP (.r1 rfl (.tmp rfl)) (by first | rfl | simp)
theorem mrCard_calls (c:Cd) (q:Option Addr) (b o cap:Nat) (W:World) (hS:Sl W q b o 9 (c.p.things.map Th.cells)) (hl:c.p.things.length≤100000000000) :
    Calls Tryz.prog 20 #[c.v q cap] W (Pure (.bool (cardR c)) W):=by
  refine calls_start Tryz.func20 rfl rfl ?_;refine st ?_;refine zn (New.box rfl) (fun b1=>?_)
  refine zc (zF rfl ent_58) (fun w hm=>mrin_calls _ _ _ w) ?_
  refine RunL.andPart (dj:=7) (dp:=11) 4 rfl (fun g7=>by
    have g7':=g7;try simp only [nH] at g7'
    refine su ?_;refine RunL.callP (zF rfl ent_58) rfl rfl rfl (fun w hm=>mrin_calls _ _ _ w) ?_;refine sv ?_;exact zs g7
  ) (fun g7=>by
    have g7':=g7;try simp only [nH] at g7'
    iterate 3 refine RunL.no rfl rfl rfl ?_
    refine sv ?_;exact zs g7
  ) ?_
  refine st ?_
  refine RunL.andPart (dj:=12) (dp:=16) 4 rfl (fun g12=>by
    have g12':=g12;try simp only [nH] at g12'
    refine su ?_;refine RunL.callP (zF rfl ent_58) rfl rfl rfl (fun w hm=>mrin_calls _ _ _ w) ?_;refine sv ?_;exact zs g12
  ) (fun g12=>by
    have g12':=g12;try simp only [nH] at g12'
    iterate 3 refine RunL.no rfl rfl rfl ?_
    refine sv ?_;exact zs g12
  ) ?_
  refine st ?_
  refine RunL.andPart (dj:=17) (dp:=22) 5 rfl (fun g17=>by
    have g17':=g17;try simp only [nH] at g17'
    refine lv (Val.fieldAddr rfl fld_28_4) ?_;refine lv (Val.fieldAddr rfl fld_23_0) ?_;refine RunL.val (Val.load_one rfl (.head _) ty_3 rfl) rfl rfl rfl ?_;refine sv ?_;exact zs g17
  ) (fun g17=>by
    have g17':=g17;try simp only [nH] at g17'
    iterate 4 refine RunL.no rfl rfl rfl ?_
    refine sv ?_;exact zs g17
  ) ?_
  refine st ?_
  refine RunL.andPart (dj:=23) (dp:=31) 8 rfl (fun g23=>by
    have g23':=g23;try simp only [nH] at g23'
    refine lv (Val.fieldAddr rfl fld_28_4) ?_;refine lv (Val.fieldAddr rfl fld_23_0) ?_;refine lv (Val.load_one rfl (.head _) ty_3 rfl) ?_;refine lv (Val.fieldAddr rfl fld_28_4) ?_;refine lv (Val.fieldAddr rfl fld_23_1) ?_;refine RunL.val (Val.load_one rfl (.head _) ty_3 rfl) rfl rfl rfl ?_;refine sv ?_;exact zs g23
  ) (fun g23=>by
    have g23':=g23;try simp only [nH] at g23'
    iterate 7 refine RunL.no rfl rfl rfl ?_
    refine sv ?_;exact zs g23
  ) ?_
  refine st ?_
  refine RunL.andPart (dj:=32) (dp:=37) 5 rfl (fun g32=>by
    have g32':=g32;try simp only [nH] at g32'
    refine lv (Val.fieldAddr rfl fld_28_4) ?_;refine lv (Val.fieldAddr rfl fld_23_1) ?_;refine RunL.val (Val.load_one rfl (.head _) ty_3 rfl) rfl rfl rfl ?_;refine sv ?_;exact zs g32
  ) (fun g32=>by
    have g32':=g32;try simp only [nH] at g32'
    iterate 4 refine RunL.no rfl rfl rfl ?_
    refine sv ?_;exact zs g32
  ) ?_
  refine st ?_
  refine RunL.andPart (dj:=39) (dp:=43) 4 rfl (fun g39=>by
    have g39':=g39;try simp only [nH] at g39'
    refine su ?_;refine RunL.callP (zF rfl ent_58) rfl rfl rfl (fun w hm=>mrin_calls _ _ _ w) ?_;refine sv ?_;exact zs g39
  ) (fun g39=>by
    have g39':=g39;try simp only [nH] at g39'
    iterate 3 refine RunL.no rfl rfl rfl ?_
    refine sv ?_;exact zs g39
  ) ?_
  refine st ?_
  refine RunL.andPart (dj:=44) (dp:=48) 4 rfl (fun g44=>by
    have g44':=g44;try simp only [nH] at g44'
    refine su ?_;refine RunL.callP (zF rfl ent_58) rfl rfl rfl (fun w hm=>mrin_calls _ _ _ w) ?_;refine sv ?_;exact zs g44
  ) (fun g44=>by
    have g44':=g44;try simp only [nH] at g44'
    iterate 3 refine RunL.no rfl rfl rfl ?_
    refine sv ?_;exact zs g44
  ) ?_
  refine st ?_
  refine RunL.andPart (dj:=49) (dp:=53) 4 rfl (fun g49=>by
    have g49':=g49;try simp only [nH] at g49'
    refine su ?_;refine RunL.callP (zF rfl ent_58) rfl rfl rfl (fun w hm=>mrin_calls _ _ _ w) ?_;refine sv ?_;exact zs g49
  ) (fun g49=>by
    have g49':=g49;try simp only [nH] at g49'
    iterate 3 refine RunL.no rfl rfl rfl ?_
    refine sv ?_;exact zs g49
  ) ?_
  refine st ?_
  refine RunL.andPart (dj:=54) (dp:=58) 4 rfl (fun g54=>by
    have g54':=g54;try simp only [nH] at g54'
    refine su ?_;refine RunL.callP (zF rfl ent_58) rfl rfl rfl (fun w hm=>mrin_calls _ _ _ w) ?_;refine sv ?_;exact zs g54
  ) (fun g54=>by
    have g54':=g54;try simp only [nH] at g54'
    iterate 3 refine RunL.no rfl rfl rfl ?_
    refine sv ?_;exact zs g54
  ) ?_
  refine st ?_
  refine RunL.andPart (dj:=59) (dp:=63) 4 rfl (fun g59=>by
    have g59':=g59;try simp only [nH] at g59'
    refine su ?_;refine RunL.callP (zF rfl ent_59) rfl rfl rfl (fun w hm=>rPair_calls c.p q b o cap w (hS.mono (by decide) hm (by simp)) hl) ?_;refine sv ?_;exact zs g59
  ) (fun g59=>by
    have g59':=g59;try simp only [nH] at g59'
    iterate 3 refine RunL.no rfl rfl rfl ?_
    refine sv ?_;exact zs g59
  ) ?_
  refine su ?_;exact RunE.retP (.r1 rfl (.tmp rfl)) (by simp [cardR,Bool.and_assoc])
end Go.Proofs.YtnmkdiagbkkmaaaGreatDoor
namespace Go.Proofs.YtnmkdiagbkkmaaaGreatDoor
open Go Go.Eng
theorem ent_20:Enters Tryz.prog 20:=enters_of Tryz.func20 (by kernel_rfl) rfl
end Go.Proofs.YtnmkdiagbkkmaaaGreatDoor
namespace Go.Dk
open Go Go.Eng Go.RowKit Go.Pw1 Go.Hp
def farL (c:Cd) (l:List Str):Bool:=decide (40 < c.p.things.length) || decide (60 < l.length) || l.any fun s=>decide (400 < s.length)
def heavyC (c:Cd):Bool:=decide (20 < c.cuts) && cardR c
theorem farL_no {c:Cd} {l:List Str} (h:farL c l=false):c.p.things.length≤40∧l.length≤60∧∀ s∈l,s.length≤400:=by
  unfold farL at h;simp only [Bool.or_eq_false_iff,decide_eq_false_iff_not,List.any_eq_false,decide_eq_true_eq] at h;exact ⟨by omega,by omega,fun s hs=>by have:=h.2 s hs;omega⟩
theorem farL_a {c:Cd} {l:List Str} (h:40 < (c.p.things.length:Int)∨60 < (l.length:Int)):farL c l=true:=by
  unfold farL
  rcases h with h | h
  · rw [decide_eq_true (show 40 < c.p.things.length by omega)];rfl
  · rw [decide_eq_true (show 60 < l.length by omega),Bool.or_true];rfl
theorem farL_b {c:Cd} {l:List Str} {v:Str} (hv:v∈l) (h:400 < (v.length:Int)):farL c l=true:=by
  unfold farL;rw [show (l.any fun s=>decide (400 < s.length))=true from List.any_eq_true.2 ⟨v,hv,decide_eq_true (by omega)⟩,Bool.or_true]
theorem farL_c {c:Cd} {l:List Str} (h:(c.p.things.length:Int)≤40∧(l.length:Int)≤60) (hl:∀ s∈l,s.length≤400):farL c l=false:=by
  unfold farL;rw [decide_eq_false (show ¬ 40 < c.p.things.length by omega),decide_eq_false (show ¬ 60 < l.length by omega),show (l.any fun s=>decide (400 < s.length))=false from List.any_eq_false.2 fun s hs=>by have:=hl s hs;simp;omega];rfl
end Go.Dk
namespace Go.Proofs.YtnmkdiagbkkmaaaGreatDoor
open Go Go.Eng Go.Dk Go.RowKit Go.Pw1 Go.Hp

theorem lfar_calls (c:Cd) (q:Option Addr) (cap:Nat) (l:List Str) (ql:Option Addr) (bl ol cl:Nat) (W:World) (hls:Sl W ql bl ol 1 (l.map strC)) :
    Calls Tryz.prog 13 #[c.v q cap,.slice ql l.length cl] W (Pure (.bool (farL c l)) W):=by
  refine calls_start Tryz.func13 rfl rfl ?_;refine st ?_;refine zn (New.box rfl) (fun b2=>?_)
  refine RunL.orPart (dj:=11) (dp:=15) 4 rfl (fun g11=>by
    have g11':=g11;try simp only [nH] at g11'
    refine st ?_;refine RunL.val (Val.len_sl rfl sl_36) rfl rfl rfl ?_;refine sv ?_;exact zs g11
  ) (fun g11=>by
    have g11':=g11;try simp only [nH] at g11'
    iterate 3 refine RunL.no rfl rfl rfl ?_
    refine sv ?_;exact zs g11
  ) ?_
  refine st ?_;refine cn rfl ?_ ?_
  ·intro c0'
   refine su ?_;exact RunE.retP (.r1 rfl (.tmp rfl)) (by rw [farL_a c0'])
  intro c0';refine st ?_;refine RunC.loopK (l.length) (fun k q=>(5,.int .i64 (k:Int))::q) (fun _=>_) (fun _=>[]) (fun k=>∀ s∈l.take k,s.length≤400) (by simp) rfl (zE 5 rfl rfl (zS 1 rfl (Sub.nil _))) .nil ?_;intro k kN kI;refine su ?_;refine cn rfl ?_ ?_
  ·intro c1'
   have hk:k < l.length:=by omega
   obtain ⟨v,hv⟩:∃ v,l[k]=v:=⟨_,rfl⟩;refine st ?_;refine lv (Val.indexAddr_slp rfl rfl sl_36 (by omega) (by omega) (hls.ptrM (i:=k) hk)) ?_;refine lv (Val.load_gen rfl (fun w hm=>Sl.loadM1 hls (by decide) hm (by simp) ty_9 hk (v:=.string (bs v)) (by simp [strC,hv]))) ?_;refine lv (Val.lenS rfl und_9) ?_;refine cn rfl ?_ ?_
   ·intro c2'
    refine su ?_;exact RunE.retP (.r1 rfl (.tmp rfl)) (by rw [farL_b (hv ▸ List.getElem_mem hk) c2'])
   intro c2';refine st ?_;refine lv (Val.add rfl rfl (IntWalk.i64_in _ ⟨by omega,by omega⟩)) ?_;exact RunE.round (by omega) (fun s hs=>by rw [List.take_succ_eq_append_getElem hk,hv] at hs;rcases List.mem_append.1 hs with hs | hs;exact kI s hs;rw [List.mem_singleton] at hs;subst hs;omega) rfl (zE 5 rfl rfl (zS 1 rfl (Sub.nil _))) .nil
  intro c1';have hk:k=l.length:=by omega
  rw [hk,List.take_length] at kI;refine RunC.exit ?_;refine su ?_;refine RunE.block_here ?_;refine su ?_;exact RunE.retP (.r1 rfl (.tmp rfl)) (by rw [farL_c c0' kI])
theorem dheavy_calls (c:Cd) (q:Option Addr) (b o cap:Nat) (W:World) (hS:Sl W q b o 9 (c.p.things.map Th.cells)) (hl:c.p.things.length≤100000000000) :
    Calls Tryz.prog 9 #[c.v q cap] W (Pure (.bool (heavyC c)) W):=by
  refine calls_start Tryz.func9 rfl rfl ?_;refine st ?_;refine zn (New.box rfl) (fun b1=>?_)
  refine RunL.andPart (dj:=6) (dp:=9) 3 rfl (fun g6=>by
    have g6':=g6;try simp only [nH] at g6'
    refine su ?_;refine RunL.callP (zF rfl ent_20) rfl rfl rfl (fun w hm=>mrCard_calls c q b o cap w (hS.mono (by decide) hm (by simp)) hl) ?_;refine sv ?_;exact zs g6
  ) (fun g6=>by
    have g6':=g6;try simp only [nH] at g6'
    refine RunL.no rfl rfl rfl ?_;refine RunL.no rfl rfl rfl ?_;refine sv ?_;exact zs g6
  ) ?_
  refine su ?_;exact RunE.retP (.r1 rfl (.tmp rfl)) (by first | rfl | simp)
theorem dof_calls (c:Cd) (q:Option Addr) (cap:Nat) (v:VwX) (W:World):Calls Tryz.prog 23 #[c.v q cap,.agg v.cellsS.toArray] W (Pure ((cardV c v.pl).v (ownQ v.t) (ownC v.t)) W):=by
  refine calls_start Tryz.func23 rfl rfl ?_;refine st ?_;refine zn (New.box rfl) (fun b2=>?_)
  refine zn (New.box rfl) (fun b3=>?_)
  refine zn (New.alloc zero_28) (fun b4=>?_)
  refine RunL.sto (Sto.store rfl rfl (.there (.there .here)) ty_26 rfl rfl) rfl rfl ?_;refine su ?_;refine RunL.sto (Sto.store rfl rfl .here ty_28 rfl rfl) rfl rfl ?_;refine su ?_;exact RunE.retP (.r1 rfl (.agg rfl (.head _) ty_28 rfl)) (by first | rfl | simp)
end Go.Proofs.YtnmkdiagbkkmaaaGreatDoor
namespace Go.Proofs.YtnmkdiagbkkmaaaGreatDoor
open Go Go.Eng
theorem ent_10:Enters Tryz.prog 10:=enters_of Tryz.func10 (by kernel_rfl) rfl
theorem ent_13:Enters Tryz.prog 13:=enters_of Tryz.func13 (by kernel_rfl) rfl
theorem ent_9:Enters Tryz.prog 9:=enters_of Tryz.func9 (by kernel_rfl) rfl
end Go.Proofs.YtnmkdiagbkkmaaaGreatDoor
namespace Go.Proofs.YtnmkdiagbkkmaaaGreatDoor
open Go Go.Eng Go.Dk Go.RowKit Go.Pw1 Go.Hp

theorem lright_far (c:Cd) (q:Option Addr) (b o cap:Nat) (l:List Str) (ql:Option Addr) (bl ol cl:Nat) (W:World) (hL:Lw Tryz.prog W) (hS:Sl W q b o 9 (c.p.things.map Th.cells)) (hls:Sl W ql bl ol 1 (l.map strC)) (h1:farL c l=true) :
    Calls Tryz.prog 5 #[c.v q cap,.slice ql l.length cl] W (Pure (.bool true) W):=by
  refine calls_start Tryz.func5 rfl rfl ?_;refine st ?_;refine zn (New.box rfl) (fun b2=>?_)
  refine zc (zF rfl ent_13) (fun w hm=>lfar_calls c q cap l ql bl ol cl w (hls.mono (by decide) hm (by simp))) ?_;refine RunL.sure (dj:=24) true rfl h1 ?_;refine su ?_;refine RunC.cond rfl ?_ (fun h=>absurd h (by simp))
  intro c0;clear c0;refine st ?_;refine zc (zF rfl ent_10) (fun w hm=>dawake_calls w (hL.mono hm)) ?_;exact RunE.retP (.r1 rfl (.tmp rfl)) (by first | rfl | simp)
theorem lright_heavy (c:Cd) (q:Option Addr) (b o cap:Nat) (l:List Str) (ql:Option Addr) (bl ol cl:Nat) (W:World) (hL:Lw Tryz.prog W) (hS:Sl W q b o 9 (c.p.things.map Th.cells)) (hls:Sl W ql bl ol 1 (l.map strC)) (h1:farL c l=false) (h2:heavyC c=true) :
    Calls Tryz.prog 5 #[c.v q cap,.slice ql l.length cl] W (Pure (.bool true) W):=by
  have hl3:=(farL_no h1).1;refine calls_start Tryz.func5 rfl rfl ?_;refine st ?_;refine zn (New.box rfl) (fun b2=>?_)
  refine zc (zF rfl ent_13) (fun w hm=>lfar_calls c q cap l ql bl ol cl w (hls.mono (by decide) hm (by simp))) ?_;refine RunL.sure (dj:=24) false rfl h1 ?_;refine su ?_;refine zc (zF rfl ent_9) (fun w hm=>dheavy_calls c q b o cap w (hS.mono (by decide) hm (by simp)) (by omega)) ?_;refine RunC.cond rfl ?_ (fun h=>absurd h (by simp [h2]))
  intro c0;clear c0;refine st ?_;refine zc (zF rfl ent_10) (fun w hm=>dawake_calls w (hL.mono hm)) ?_;exact RunE.retP (.r1 rfl (.tmp rfl)) (by first | rfl | simp)
theorem lright_no (c:Cd) (q:Option Addr) (b o cap:Nat) (hq:q=none→cap=0) (l:List Str) (ql:Option Addr) (bl ol cl:Nat) (W:World) (hL:Lw Tryz.prog W) (hS:Sl W q b o 9 (c.p.things.map Th.cells)) (hls:Sl W ql bl ol 1 (l.map strC)) (h1:farL c l=false) (h2:heavyC c=false) (hc:cardIs c=false) :
    Calls Tryz.prog 5 #[c.v q cap,.slice ql l.length cl] W (Pure (.bool true) W):=by
  have hl3:=(farL_no h1).1;have hcR:cardR c=false:=(cardR_eq c).trans hc;have hund:Tryz.prog.underlying 38=some (.pointer 111):=by kernel_rfl
  refine calls_start Tryz.func5 rfl rfl ?_;refine st ?_;refine zn (New.box rfl) (fun b2=>?_)
  refine zc (zF rfl ent_13) (fun w hm=>lfar_calls c q cap l ql bl ol cl w (hls.mono (by decide) hm (by simp))) ?_;refine RunL.sure (dj:=24) false rfl h1 ?_;refine su ?_;refine zc (zF rfl ent_9) (fun w hm=>dheavy_calls c q b o cap w (hS.mono (by decide) hm (by simp)) (by omega)) ?_;refine RunC.cond rfl (fun h=>absurd h (by simp [h2])) ?_;intro c0;clear c0;refine su ?_;refine zc (zF rfl ent_14) (fun w hm=>New_no c q b o cap w (hS.mono (by decide) hm (by simp)) hq (by omega) hc) ?_;refine RunC.cond_true rfl ?_;refine st ?_;refine lu (Val.eqlNilptr rfl hund) ?_;refine zc (zF rfl ent_20) (fun w hm=>mrCard_calls c q b o cap w (hS.mono (by decide) hm (by simp)) (by omega)) ?_;refine RunL.sure (dj:=51) true rfl (by simp [hcR]) ?_;refine zc (zF rfl ent_10) (fun w hm=>dawake_calls w (hL.mono hm)) ?_;exact RunE.retP (.r1 rfl (.tmp rfl)) (by first | rfl | simp)
end Go.Proofs.YtnmkdiagbkkmaaaGreatDoor
namespace Go.Proofs.YtnmkdiagbkkmaaaGreatDoor
open Go Go.Eng
theorem ent_19:Enters Tryz.prog 19:=enters_of Tryz.func19 (by kernel_rfl) rfl
theorem ent_23:Enters Tryz.prog 23:=enters_of Tryz.func23 (by kernel_rfl) rfl
theorem eqB_58:aggB Tryz.prog 58=true:=by kernel_rfl
theorem kl_58 (a0:Int) (a1:Int) (a2:Int) (a3:Int) (c0:Int) (c1:Int) (c2:Int) (c3:Int):eqF Tryz.prog 8 58 [.int .i64 a0,.int .i64 a1,.int .i64 a2,.int .i64 a3] [.int .i64 c0,.int .i64 c1,.int .i64 c2,.int .i64 c3]=some (decide (a0=c0) && (decide (a1=c1) && (decide (a2=c2) && (decide (a3=c3) && true)))):=by kernel_rfl
theorem pair_23:pairB Tryz.prog 23=true:=by kernel_rfl
theorem ty_60:tyB Tryz.prog 60=some (true,13):=by kernel_rfl
instance:Tyc Tryz.prog 60 true 13:=⟨ty_60⟩
end Go.Proofs.YtnmkdiagbkkmaaaGreatDoor
namespace Go.Dk
open Go Go.Eng Go.RowKit Go.Pw1 Go.Hp
structure BenA (W:World) (d:DkX):Prop where
  v:Sl W (ownQ d.v) (ownK d.v) 0 13 (d.vs.map VwX.cellsS)
  t:∀ x∈d.vs,Sl W (ownQ x.t) (ownK x.t) 0 9 (x.p.things.map Th.cells)
  m:MOk W d.mx
  sm:MSm d.mx
end Go.Dk
namespace Go.Proofs.YtnmkdiagbkkmaaaGreatDoor
open Go Go.Eng Go.Dk Go.RowKit Go.Pw1 Go.Hp

theorem ben_in {W0 w:World} {d:DkX} {tl:Blks} (hd:DkOk d) (hm:Mem W0 [] (dkB d++tl) w):BenA w d:=by
  have hat:∀ b o,(b,o)∈dkB d→w.heap[b]? = some o:=fun b o hb=>(hm.newd b o (List.mem_append_left _ hb)).2
  have e1:d.vs.map VwX.cells=d.vs.map VwX.cellsS:=List.map_congr_left fun x hx=>VwX.cells_eq (hd.vs x hx)
  have e2:d.bs.map BoX.cells=(d.bs.map BoX.a).map BxA.cells:=by
    rw [List.map_map];exact List.map_congr_left fun x hx=>BoX.cells_eq (hd.bs x hx)
  refine ⟨?_,fun x hx=>?_,⟨?_,fun x hx=>?_,?_⟩,⟨?_,?_,fun x hx=>?_,fun t ht=>?_⟩⟩
  · rw [← e1]
    exact own_sl (f:=VwX.cells) (e:=60) (fun _=>rfl) (by decide) hd.v (fun b o h=>hat b o (dkB_v h))
  · exact own_sl (f:=Th.cells) (e:=107) (fun _=>rfl) (by decide) (hd.vs x hx) (fun b o h=>hat b o (dkB_t hx h))
  · show Sl w (ownQ d.b) (ownK d.b) 0 2 ((d.bs.map BoX.a).map BxA.cells)
    rw [← e2];exact own_sl (f:=BoX.cells) (e:=126) (fun _=>rfl) (by decide) hd.b (fun b o h=>hat b o (dkB_b h))
  · obtain ⟨y,hy,rfl⟩:=List.mem_map.1 hx
    have h1:=hd.bs y hy;rw [strsC_eq] at h1;exact own_sl (f:=strC) (e:=9) (fun _=>rfl) (by decide) h1 (fun b o h=>hat b o (dkB_bt hy (by rw [boB,strsC_eq];exact h)))
  · exact own_sl (f:=Tn.cells) (e:=128) (fun _=>rfl) (by decide) hd.c (fun b o h=>hat b o (dkB_c h))
  · show (d.bs.map BoX.a).length≤1000
    rw [List.length_map]
    have:=hd.few
    omega
  · have:=hd.few
    show d.cs.length≤1000
    omega
  · obtain ⟨y,hy,rfl⟩:=List.mem_map.1 hx
    exact ⟨(hd.ti y hy).1,(hd.ti y hy).2⟩
  · exact hd.tx t ht
theorem whyB_calls {w:World} {d:DkX} (hd:DkOk d) (hD:BenA w d):Calls Tryz.prog 24 #[.agg [ownV d.b d.bs.length,ownV d.c d.cs.length].toArray] w (Pure (.tuple #[.int .i64 (WhyX d.pl.heap).1,.int .i64 (WhyX d.pl.heap).2]) w):=by
  have h:=why_calls d.mx hD.sm w hD.m
  have e:d.mx.v = .agg [ownV d.b d.bs.length,ownV d.c d.cs.length].toArray:=by
    show Value.agg [.slice (ownQ d.b) (d.bs.map BoX.a).length (ownC d.b),.slice (ownQ d.c) d.cs.length (ownC d.c)].toArray=_
    rw [List.length_map,ownV_slice hd.b,ownV_slice hd.c]
  rw [e] at h
  have e2:d.mx.pl=d.pl.heap:=by
    show (⟨(d.bs.map BoX.a).map (·.bx),d.cs⟩:Mx)=⟨d.bs.map BoX.pl,d.cs⟩
    rw [List.map_map];rfl
  rw [e2] at h;exact h
set_option maxHeartbeats 2000000 in
theorem lright_ok (c:Cd) (q:Option Addr) (b o cap:Nat) (hq:q=none→cap=0) (l:List Str) (ql:Option Addr) (bl ol cl:Nat) (W:World) (hL:Lw Tryz.prog W) (hS:Sl W q b o 9 (c.p.things.map Th.cells)) (hls:Sl W ql bl ol 1 (l.map strC)) (h1:farL c l=false) (h2:heavyC c=false) (hc:cardIs c=true) :
    Calls Tryz.prog 5 #[c.v q cap,.slice ql l.length cl] W (Pure (.bool true) W):=by
  obtain ⟨hl3,hl4,hl5⟩:=farL_no h1;have hund:Tryz.prog.underlying 38=some (.pointer 111):=by kernel_rfl
  refine calls_start Tryz.func5 rfl rfl ?_;refine st ?_;refine zn (New.box rfl) (fun b2=>?_)
  refine zc (zF rfl ent_13) (fun w hm=>lfar_calls c q cap l ql bl ol cl w (hls.mono (by decide) hm (by simp))) ?_;refine RunL.sure (dj:=24) false rfl h1 ?_;refine su ?_;refine zc (zF rfl ent_9) (fun w hm=>dheavy_calls c q b o cap w (hS.mono (by decide) hm (by simp)) (by omega)) ?_;refine RunC.cond rfl (fun h=>absurd h (by simp [h2])) ?_;intro c0;clear c0;refine su ?_;refine RunL.callN (zF rfl ent_14) rfl rfl rfl (fun w hm=>New_ok c q b o cap w (hS.mono (by decide) hm (by simp)) hq (by omega) hc) (fun b31=>?_)
  refine st ?_;refine lv (Val.eqlNilptr rfl hund) ?_;refine RunC.cond rfl (fun h=>absurd h (by simp)) ?_;intro c1;clear c1;refine su ?_;refine RunC.loopX (X:=DkX) (n0:=[(b2,_)]) (l.length) (fun k y q=>(56,.int .i64 (k:Int))::q) (fun _ _=>_) (fun k y=>[(b31,dkO y c)]) (fun k y=>dkB y++[]) (fun k y=>DkOk y∧Right c y.pl) noDk ⟨noDk_ok,right_none c⟩ rfl (zE 56 rfl rfl (zS 1 rfl (zS 2 rfl (zS 5 rfl (zS 54 rfl (zS 55 rfl (Sub.nil _))))))) (.cons .here rfl (.cons .here rfl (Pick.same rfl))) ?_;intro k y kN kI;obtain ⟨hyd,hyr⟩:=kI;refine st ?_;refine cn rfl ?_ ?_
  ·intro c2'
   have hk:k < l.length:=by omega
   obtain ⟨v,hv⟩:∃ v,l[k]=v:=⟨_,rfl⟩;have hvm:v∈l:=hv ▸ List.getElem_mem hk;refine st ?_;refine lv (Val.indexAddr_slp rfl rfl sl_36 (by omega) (by omega) (hls.ptrM hk)) ?_;refine lv (Val.load_gen rfl (fun w hm=>Sl.loadM1 hls (by decide) hm (by simp) ty_9 hk (v:=.string (bs v)) (by simp [strC,hv]))) ?_;refine RunL.callG (zF rfl ent_16) rfl rfl rfl (fun w hm=>(calls_re (nw':=fun z:DkX×Str×Int=>(b31,dkO z.1 c)::(b2,.cells (cellsL (c.v q cap)).toArray 28 (0,0))::(dkB z.1++[])) (Line_calls v (by have:=hl5 v hvm;omega) b31 y c ((b2,.cells (cellsL (c.v q cap)).toArray 28 (0,0))::[]) W w hL hyd (hm.pick (Pick.cnt fun x=>by simp only [nC,dkM];omega))) (fun _=>(Pick.cnt fun x=>by simp only [nC,dkM];omega)))) (fun z62 hz62=>?_)
   obtain ⟨hzd,hzs⟩:=hz62;have hzr:Right c z62.1.pl:=by (have h9:=right_step hc hyr v;rw [← hzs] at h9;exact h9)
   refine st ?_;refine RunL.callNA [(b31,_),(b2,_)] _ rfl (zF rfl ent_19) rfl rfl rfl (fun w hm=>Bench_calls b31 z62.1 c hzd w (dkAt_in hzd (hm.pick (news':=dkM b31 z62.1 c []) (Pick.cnt fun x=>by simp only [nC,dkM];omega)))) (fun z64=>?_)
   have hzf:=z64.2.1.few;have hzr2:Right c z64.1.pl:=by rw [z64.2.2];exact hzr
   refine zn (New.alloc zero_47) (fun b9=>?_)
   refine RunL.sto (Sto.store (cs:=[.slice none 0 0,.slice none 0 0,.slice none 0 0]) (cs':=[ownV z64.1.v z64.1.vs.length,ownV z64.1.b z64.1.bs.length,ownV z64.1.c z64.1.cs.length]) rfl rfl .here ty_47 rfl (by have h:=paste_three (ownV z64.1.v z64.1.vs.length) (ownV z64.1.b z64.1.bs.length) (ownV z64.1.c z64.1.cs.length) (own_one _ _) (own_one _ _) (own_one _ _);exact h)) rfl rfl ?_;refine su ?_;refine lv (Val.len_own rfl sl_41 z64.2.1.v) ?_;refine RunL.sure (dj:=69) false rfl (by simp;omega) ?_;refine su ?_;refine lv (Val.len_own rfl sl_42 z64.2.1.b) ?_;refine RunL.sure (dj:=76) false rfl (by simp;omega) ?_;refine su ?_;refine lv (Val.len_own rfl sl_43 z64.2.1.c) ?_;refine RunC.cond rfl (fun h=>absurd h (by simp;omega)) ?_;intro c3;clear c3;refine su ?_;refine lv (Val.len_own rfl sl_41 z64.2.1.v) ?_;refine RunC.loopK (z64.1.vs.length) (fun j q=>(86,.int .i64 (j:Int))::q) (fun _=>_) (fun _=>[]) (fun _=>True) trivial rfl (zE 86 rfl rfl (zS 1 rfl (zS 2 rfl (zS 5 rfl (zS 9 rfl (zS 54 rfl (zS 55 rfl (zS 56 rfl (zS 84 rfl (zS 85 rfl (Sub.nil _))))))))))) (.cons .here rfl (.cons .here rfl (.cons .here rfl (Pick.refl _)))) ?_;intro j jN jI;clear jI;refine st ?_;refine cn rfl ?_ ?_
   ·intro c4'
    have hj:j < z64.1.vs.length:=by omega
    obtain ⟨u,hu⟩:∃ u,z64.1.vs[j]=u:=⟨_,rfl⟩;have hum:u∈z64.1.vs:=hu ▸ List.getElem_mem hj;have hur:VwRight c u.pl:=hzr2.v _ (List.mem_map_of_mem hum);have hun:u.p.things.length≤12:=hur.n;have hf0:(powerX u.p).2=0:=hur.pw;have hup:u.up=true→(hurtsX (cardV c u.pl) u.cuts).2.2=0:=hur.up;have hdn:u.up=false→u.cuts.ll=0∧u.cuts.lr=0∧u.cuts.rl=0∧u.cuts.rr=0:=fun h=>by (rw [show u.cuts=noTr from hur.dn h];exact ⟨rfl,rfl,rfl,rfl⟩)
    have hf1:u.p.focal=c.p.focal:=hur.s1;have hf2:u.p.base=c.p.base:=hur.s2;have hf3:u.p.tilt=c.p.tilt:=hur.s3;have hf4:u.p.near=c.p.near:=hur.s4;have hf5:u.p.far=c.p.far:=hur.s5;refine st ?_;refine lv (Val.indexAddr_slp (by show some (ownV z64.1.v z64.1.vs.length)=_;rw [ownV_slice z64.2.1.v]) rfl sl_41 (by omega) (by omega) (own_ptrD z64.2.1.v (by omega))) ?_;refine lv (Val.load_gen rfl (fun w hm=>(ben_in z64.2.1 (hm.pick (news':=dkB z64.1++[]) (Pick.cnt fun x=>by simp only [nC,dkM];omega))).v.loadX (by decide) (Mem.refl w) (by simp) ty_60 hj hu)) ?_;refine zn (New.alloc zero_60) (fun b11=>?_)
    refine RunL.sto (Sto.store rfl rfl .here ty_60 rfl rfl) rfl rfl ?_;refine nnx ?_;refine RunC.seq ?_
    apply RunC.drawJ (J:=J2 _ _ _ _ _ _) 7 fol_ (.cons .here rfl (.cons .here rfl (.cons .here rfl (.cons .here rfl .nil))))
    ·refine zw 0 ?_
     refine zw 1 ?_;refine zw 2 ?_;refine zw 3 ?_;refine RunA.all (rs:=[4,5]) (by kernel_rfl) (by simp) (by kernel_rfl) (fun m hm=>?_)
     simp only [List.mem_cons,List.not_mem_nil,or_false] at hm
     rcases hm with rfl | rfl
     ·refine RunI.new rfl (New.alloc zero_26) rfl rfl rfl (fun b12=>(RunK.toA (.cons (.there .here) rfl (.cons (.there .here) rfl (.cons (.there .here) rfl (.cons (.there .here) rfl .nil)))) (.cons .here rfl (.cons .here rfl (.cons .here rfl (.cons .here rfl .nil)))) rfl ?_))
      refine zA 5 ?_;refine RunI.new rfl (New.alloc zero_26) rfl rfl rfl (fun b13=>(RunK.toA (.cons .here rfl (.cons (.there .here) rfl (.cons (.there .here) rfl (.cons (.there .here) rfl (.cons (.there .here) rfl .nil))))) (.cons (.there .here) rfl (.cons (.there .here) rfl (.cons (.there .here) rfl (.cons (.there .here) rfl .nil)))) rfl ?_))
      refine zA 6 ?_;refine RunI.sto rfl (Sto.store rfl rfl (.there .here) ty_26 rfl rfl) rfl rfl (RunK.toA (.cons .here rfl (.cons (.there .here) rfl (.cons (.there .here) rfl (.cons (.there .here) rfl (.cons (.there .here) rfl .nil))))) (.cons .here rfl (.cons .here rfl (.cons .here rfl (.cons .here rfl (.cons .here rfl .nil))))) rfl ?_)
      refine zt ?_;refine zB 7 ?_;refine RunI.sto rfl (Sto.store rfl rfl .here ty_26 rfl rfl) rfl rfl (RunK.toB ?_)
      refine zd ?_;exact RunE.join2 b12 b13 (Sub.refl _) (Pick.refl _)
     refine RunI.new rfl (New.alloc zero_26) rfl rfl rfl (fun b13=>(RunK.toA (.cons .here rfl (.cons .here rfl (.cons .here rfl (.cons .here rfl (.cons .here rfl .nil))))) (.cons (.there .here) rfl (.cons (.there .here) rfl (.cons (.there .here) rfl (.cons (.there .here) rfl .nil)))) rfl ?_))
     refine zA 4 ?_;refine RunI.new rfl (New.alloc zero_26) rfl rfl rfl (fun b12=>(RunK.toA (.cons (.there .here) rfl (.cons (.there .here) rfl (.cons (.there .here) rfl (.cons (.there .here) rfl (.cons (.there .here) rfl .nil))))) (.cons .here rfl (.cons .here rfl (.cons .here rfl (.cons .here rfl (.cons .here rfl .nil))))) rfl ?_))
     refine zA 6 ?_;refine RunI.sto rfl (Sto.store rfl rfl .here ty_26 rfl rfl) rfl rfl (RunK.toA (.cons (.there .here) rfl (.cons (.there .here) rfl (.cons (.there .here) rfl (.cons (.there .here) rfl (.cons (.there .here) rfl .nil))))) (.cons .here rfl (.cons .here rfl (.cons .here rfl (.cons .here rfl (.cons .here rfl .nil))))) rfl ?_)
     refine zt ?_;refine zB 7 ?_;refine RunI.sto rfl (Sto.store rfl rfl (.there .here) ty_26 rfl rfl) rfl rfl (RunK.toB ?_)
     refine zd ?_;exact RunE.join2 b12 b13 (zS 13 rfl (zS 12 rfl (zS 93 rfl (zS 92 rfl (zS 91 rfl (zS 90 rfl (Sub.skip rfl (Sub.skip rfl (Sub.skip rfl (Sub.skip rfl (Sub.skip rfl (Sub.skip rfl (Sub.refl _))))))))))))) (.cons (.there .here) rfl (.cons .here rfl (.cons .here rfl (.cons .here rfl (.cons .here rfl (.cons .here rfl (Pick.refl _)))))))
    refine J2.out (fun b12 b13=>?_)
    refine su ?_;refine zc (zF rfl ent_21) (fun w hm=>Power_calls u.p (ownQ u.t) (ownK u.t) 0 (ownC u.t) w ((ben_in z64.2.1 (hm.pick (news':=dkB z64.1++[]) (Pick.cnt fun x=>by simp only [nC,dkM];omega))).t u hum) (by omega)) ?_;refine zn (New.alloc zero_23) (fun b14=>?_)
    refine RunL.sto (Sto.store rfl rfl .here ty_23 rfl rfl) rfl rfl ?_;refine st ?_;refine RunL.sure (dj:=101) false rfl (by simp [hf0]) ?_;refine su ?_;refine lv (Val.neq_pair rfl rfl pair_23) ?_;refine RunL.sure (dj:=108) false rfl (by simp [hf1]) ?_;refine su ?_;refine lv (Val.neq_pair rfl rfl pair_23) ?_;refine RunL.sure (dj:=115) false rfl (by simp [hf2]) ?_;refine su ?_;refine RunL.sure (dj:=122) false rfl (by simp [hf3]) ?_;refine su ?_;refine RunL.sure (dj:=129) false rfl (by simp [hf4]) ?_;refine su ?_;refine RunL.sure (dj:=136) false rfl (by simp [hf5]) ?_;refine su ?_;refine RunC.cond rfl (fun h=>absurd h (by simp;omega)) ?_;intro c5;clear c5;refine st ?_;refine RunC.draw 12 fol_ (.cons .here rfl (.cons .here rfl (.cons .here rfl (.cons .here rfl (.cons .here rfl (.cons .here rfl (.cons .here rfl .nil))))))) ?_;refine zv 0 rfl (Val.load_agg rfl (.tail _ (.tail _ (.tail _ (.tail _ (.tail _ (.tail _ (.head _))))))) ty_28 rfl) ?_;refine zw 1 ?_;refine zw 3 ?_;refine zw 4 ?_;refine zA 2 ?_;refine RunI.callP rfl (zF rfl ent_23) rfl rfl rfl (fun w hm=>dof_calls c q cap u w) (RunK.toA (.cons .here rfl (.cons .here rfl (.cons .here rfl (.cons .here rfl (.cons .here rfl (.cons .here rfl (.cons .here rfl .nil))))))) (.cons .here rfl (.cons .here rfl (.cons .here rfl (.cons .here rfl (.cons .here rfl (.cons .here rfl (.cons .here rfl .nil))))))) rfl ?_)
    refine zA 5 ?_;refine RunI.callP rfl (zF rfl ent_22) rfl rfl rfl (fun w hm=>Hurts_calls (cardV c u.pl) u.cuts (ownQ u.t) (ownK u.t) 0 (ownC u.t) w ((ben_in z64.2.1 (hm.pick (news':=dkB z64.1++[]) (Pick.cnt fun x=>by simp only [nC,dkM];omega))).t u hum) (by show u.p.things.length≤_;omega)) (RunK.toA (.cons .here rfl (.cons .here rfl (.cons .here rfl (.cons .here rfl (.cons .here rfl (.cons .here rfl (.cons .here rfl .nil))))))) (.cons .here rfl (.cons .here rfl (.cons .here rfl (.cons .here rfl (.cons .here rfl (.cons .here rfl (.cons .here rfl .nil))))))) rfl ?_)
    refine zw 6 ?_;refine zw 7 ?_;refine zw 8 ?_;refine zw 9 ?_;refine zw 10 ?_;refine zw 11 ?_;refine zt ?_;refine zp 12 ?_;refine zd ?_;refine su ?_
    refine RunL.andPart (dj:=154) (dp:=157) 3 rfl (fun g154=>by
      have g154':=g154;try simp only [nH] at g154'
      refine sv ?_;exact zs g154
    ) (fun g154=>by
      have g154':=g154;try simp only [nH] at g154'
      refine RunL.no rfl rfl rfl ?_;refine RunL.no rfl rfl rfl ?_;refine sv ?_;exact zs g154
    ) ?_
    refine st ?_
    refine RunL.orPart (dj:=158) (dp:=168) 10 rfl (fun g158=>by
      have g158':=g158;try simp only [nH] at g158'
      refine su ?_
      refine RunL.andPart (dj:=162) (dp:=167) 5 rfl (fun g162=>by
        have g162':=g162;try simp only [nH] at g162'
        refine su ?_;refine lv (Val.build (parts:=[]) rfl zero_58 places_58 rfl) ?_;refine RunL.val (Val.neq_flat rfl rfl eqB_58 (kl_58 _ _ _ _ _ _ _ _ )) rfl rfl rfl ?_;refine sv ?_;exact zs g162
      ) (fun g162=>by
        have g162':=g162;try simp only [nH] at g162'
        iterate 4 refine RunL.no rfl rfl rfl ?_
        refine sv ?_;exact zs g162
      ) ?_
      refine sv ?_;exact zs g158
    ) (fun g158=>by
      have g158':=g158;try simp only [nH] at g158'
      iterate 9 refine RunL.no rfl rfl rfl ?_
      refine sv ?_;exact zs g158
    ) ?_
    refine st ?_;refine RunC.cond rfl (fun h=>absurd h (by simp;exact ⟨hup,hdn⟩)) ?_;intro c6;clear c6;refine st ?_;refine lv (Val.add rfl rfl (IntWalk.i64_in _ ⟨by omega,by omega⟩)) ?_;exact RunE.round (by omega) trivial rfl (zE 86 rfl rfl (zS 1 rfl (zS 2 rfl (zS 5 rfl (zS 9 rfl (zS 54 rfl (zS 55 rfl (zS 56 rfl (zS 84 rfl (zS 85 rfl (Sub.nil _))))))))))) (.cons (.there (.there (.there (.there .here)))) rfl (.cons (.there (.there (.there (.there .here)))) rfl (.cons (.there (.there (.there (.there .here)))) rfl (Pick.skip (Pick.skip (Pick.skip (Pick.skip (Pick.refl _))))))))
   intro c4';refine RunC.exit ?_;refine su ?_;refine RunE.block_here ?_;refine su ?_;refine zc (zF rfl ent_24) (fun w hm=>whyB_calls z64.2.1 (ben_in z64.2.1 (hm.pick (news':=dkB z64.1++[]) (Pick.cnt fun x=>by simp only [nC,dkM];omega)))) ?_;refine RunC.cond rfl (fun h=>absurd h (by simp [hzr2.w])) ?_;intro c7;clear c7;refine st ?_;refine lv (Val.add rfl rfl (IntWalk.i64_in _ ⟨by omega,by omega⟩)) ?_;exact RunE.roundX z62.1 (by omega) ⟨hzd,hzr⟩ rfl (zE 56 rfl rfl (zS 1 rfl (zS 2 rfl (zS 5 rfl (zS 54 rfl (zS 55 rfl (Sub.nil _))))))) (.cons (.there .here) rfl (.cons (.there .here) rfl (Pick.cnt fun x=>by simp only [nC,dkM];omega)))
  intro c2';refine RunC.exit ?_;refine su ?_;refine RunE.block_here ?_;refine st ?_;refine zc (zF rfl ent_10) (fun w hm=>dawake_calls w (hL.mono hm)) ?_;exact RunE.retP (.r1 rfl (.tmp rfl)) (by first | rfl | simp)
end Go.Proofs.YtnmkdiagbkkmaaaGreatDoor
namespace Go.Proofs.YtnmkdiagbkkmaaaGreatDoor
open Go Go.Eng Go.Pw1

abbrev spSh:Sh:=.st [.int .i64,.int .i64]
abbrev plSh:Sh:=.st [spSh,spSh]
abbrev thSh:Sh:=.st [plSh,plSh,.int .i64]
abbrev prSh:Sh:=.st [spSh,spSh,.int .i64,.int .i64,.int .i64,.sl thSh]
theorem rd_sp {w:World} {cs:List Value} (h:Rd w spSh cs):∃ s:Sp,cs=[.int .i64 s.lo,.int .i64 s.hi]:=by
  cases h with
  | recS h1 h2 =>
    cases h1
    cases h2 with
    | recS h3 h4 =>
      cases h3
      cases h4
      exact ⟨⟨_,_⟩,rfl⟩
theorem rd_pl {w:World} {cs:List Value} (h:Rd w plSh cs):∃ s t:Sp,cs=[.int .i64 s.lo,.int .i64 s.hi,.int .i64 t.lo,.int .i64 t.hi]:=by
  cases h with
  | recS h1 h2 =>
    obtain ⟨s,rfl⟩:=rd_sp h1
    cases h2 with
    | recS h3 h4 =>
      obtain ⟨t,rfl⟩:=rd_sp h3
      cases h4
      exact ⟨s,t,rfl⟩
theorem rd_th {w:World} {cs:List Value} (h:Rd w thSh cs):∃ t:Th,cs=t.cells:=by
  cases h with
  | recS h1 h2 =>
    obtain ⟨a,b,rfl⟩:=rd_pl h1
    cases h2 with
    | recS h3 h4 =>
      obtain ⟨c,d,rfl⟩:=rd_pl h3
      cases h4 with
      | recS h5 h6 =>
        cases h5
        cases h6
        exact ⟨⟨a,b,c,d,_⟩,rfl⟩
theorem rows_of {α:Type} {f:α→List Value}:∀ {xs:List (List Value)},(∀ x∈xs,∃ a,x=f a)→∃ l:List α,xs=l.map f
  | [],_=>⟨[],rfl⟩
  | x::xs,h=>by
    obtain ⟨a,rfl⟩:=h x (by simp);obtain ⟨l,rfl⟩:=rows_of (xs:=xs) (fun y hy=>h y (List.mem_cons_of_mem _ hy));exact ⟨a::l,rfl⟩
structure In (w:World) (p:Pr) (q:Option Addr) (b o cap:Nat):Prop where
  s:Sl w q b o 9 (p.things.map Th.cells)
  n:q=none→p.things.length=0∧cap=0
theorem rd_pr {w:World} {cs:List Value} (h:Rd w prSh cs):∃ (p:Pr) (q:Option Addr) (b o cap:Nat),cs=p.cells q cap∧In w p q b o cap:=by
  cases h with
  | recS h1 h2 =>
  obtain ⟨f,rfl⟩:=rd_sp h1
  cases h2 with
  | recS h1 h2 =>
  obtain ⟨g,rfl⟩:=rd_sp h1
  cases h2 with
  | recS h1 h2 =>
  cases h1
  cases h2 with
  | recS h1 h2 =>
  cases h1
  cases h2 with
  | recS h1 h2 =>
  cases h1
  cases h2 with
  | recS h1 h2 =>
  cases h2
  cases h1 with
  | slNil=>exact ⟨⟨f,g,_,_,_,[]⟩,none,0,0,0,rfl,⟨Sl.emp,fun _=>⟨rfl,rfl⟩⟩⟩
  | sl hs hl hc hx =>
    obtain ⟨ts,rfl⟩:=rows_of (f:=Th.cells) (fun x hx'=>rd_th (hx x hx'));exact ⟨⟨f,g,_,_,_,ts⟩,some _,_,_,_,by rw [List.length_map];rfl,⟨hs,fun h=>by cases h⟩⟩
abbrev cdSh:Sh:=.st [prSh,.int .i64,.int .i64,.int .i64,spSh,.int .i64,.int .i64,.int .i64,.int .i64]
theorem rd_cd {w:World} {cs:List Value} (h:Rd w cdSh cs):∃ (c:Cd) (q:Option Addr) (b o cap:Nat),cs=c.cells q cap∧In w c.p q b o cap:=by
  cases h with
  | recS h1 h2 =>
  obtain ⟨p,q,b,o,cap,rfl,hp⟩:=rd_pr h1
  cases h2 with
  | recS h1 h2 =>
  cases h1
  cases h2 with
  | recS h1 h2 =>
  cases h1
  cases h2 with
  | recS h1 h2 =>
  cases h1
  cases h2 with
  | recS h1 h2 =>
  obtain ⟨e,rfl⟩:=rd_sp h1
  cases h2 with
  | recS h1 h2 =>
  cases h1
  cases h2 with
  | recS h1 h2 =>
  cases h1
  cases h2 with
  | recS h1 h2 =>
  cases h1
  cases h2 with
  | recS h1 h2 =>
  cases h1
  cases h2
  exact ⟨⟨p,_,_,_,e,_,_,_,_⟩,q,b,o,cap,rfl,hp⟩
end Go.Proofs.YtnmkdiagbkkmaaaGreatDoor
namespace Go.Eng
open Go Go.RowKit Go.ChangeShapes Go.WideShapes Go.ChangeAt
theorem handed_shaped_and {H:Type} {enc:TypeId×Value→H} {a:Assume} {C:Checked} {os:Os} {f:FuncId} {fn:Func} {s:ChangeSpec} {conds:List PathCond} {apart fresh handsOn again:Bool} {X:World→Array Value→Prop}
    (hX:∀ (w w':World) (args:Array Value),w.heap=w'.heap→X w args→X w' args)
    (own:ownKnob C.prog.godebug=none) (started:os.Started) (noInit:C.prog.inits.idxOf? f=none) (hfn:C.prog.funcs[f]? = some fn)
    (witness:∃ (w:World) (tape:Tape) (i:Input),w.os=os∧(w.forCall tape i).Shaped C.prog∧i.vars=[]∧Input.okWide C.prog (w.forCall tape i) .any w.heap.size f i ∧
      ((s.pre enc C.prog fn conds apart (w.forCall tape i).memory i.args∧X (w.forCall tape i).memory i.args)∧sizedMet enc C.prog fn (OpenSpec.ofChange s) apart (w.forCall tape i).memory i.args)∧a.holds C.prog (lone (Frame.enter C.prog f i.args .normal) [] (w.forCall tape i)))
    (contract:∀ (W:World) (base:Nat) (args:Array Value) (ds gs:List (DataW H)) (before:List MemPlace),
      (∀ (j:Nat) t v,fn.params[j]? = some t→args[j]? = some v→Value.okWide C.prog W .any base t v) →
      DataW.Whole enc C.prog fn.params.toList s.vars apart W args.toList ds gs before→W.ShapedOpen C.prog→X W args →
      Calls C.prog f args W fun e W'=>∃ v,e = .returned v∧s.post enc C.prog fn apart fresh handsOn again W args v W') :
    ReturnsInHanded a C os f .any (fun w args=>(s.pre enc C.prog fn conds apart w args∧X w args)∧sizedMet enc C.prog fn (OpenSpec.ofChange s) apart w args) (s.post enc C.prog fn apart fresh handsOn again):=by
  refine returnsInHanded_of_calls own started noInit witness ?_;intro w tape i _ hsh _ hok hpre hholds;obtain ⟨_,_,_,fn',hfn',_,_,_,_,hval⟩:=hok;have e:fn'=fn:=Option.some.inj (hfn'.symm.trans hfn);subst e;obtain ⟨⟨⟨ds,gs,before,hw,hc⟩,hx⟩,hz⟩:=hpre;have hw':=DataW.Whole.of_heap (w':=w.forCall tape i) (by rfl) hw;refine (contract (w.forCall tape i) w.heap.size i.args ds gs before hval hw' hsh (hX _ _ _ (by rfl) hx)).mono fun e W' ⟨v,he,hp⟩=>?_
  subst he;exact ChangeSpec.post_blind hp
theorem law_contractW {H:Type} {enc:TypeId×Value→H} {P:Program} {f:Func} {s:ChangeSpec} {n:Nat} {shs:List Sh} {tb:TypeId} {F:FuncId} (hl:laidOutB P=true) (hsh:f.params.toList.mapM (shapeB P n)=some shs)
    (hp:f.params.toList.all (fun t=>P.readableRec t && decide (t < P.types.size))=true) (hr:f.resultTypes = #[tb]) (hb:P.underlying tb=some .bool) (hvars:s.vars=[])
    (hfn:∀ ds:List (DataW H),ds.length=f.params.toList.length→s.fn H (ds++[])={ results:=[.lit (.bool true)],args:=ds })
    {W:World} (walk:∀ vs:List Value,RdAll W shs vs→Calls P F vs.toArray W (Pure (.bool true) W)) {base:Nat} {args:Array Value} {ds gs:List (DataW H)} {before:List MemPlace} (hval:∀ (j:Nat) t v,f.params[j]? = some t→args[j]? = some v→Value.okWide P W .any base t v)
    (hW:DataW.Whole enc P f.params.toList s.vars false W args.toList ds gs before) :
    Calls P F args W fun e W'=>∃ v,e = .returned v∧s.post enc P f false true false false W args v W':=by
  have hW':=hW;obtain ⟨p,q,hA,hV,rfl,hfz,hnd⟩:=hW;rw [hvars] at hV;obtain ⟨rfl,rfl⟩:=trodVars_none hV;have hrd:RdAll W shs args.toList:=rdAll_of hsh (fun j t v hj hv=>hval j t v (by simpa using hj) (by simpa using hv)) hA
  have hlen:ds.length=f.params.toList.length:=by
    clear hW' hval hrd hfn hp hsh hfz hnd hV
    generalize f.params.toList=ts at hA
    generalize args.toList=vs at hA
    induction ts generalizing vs ds p with
    | nil=>obtain ⟨_,rfl,_⟩:=trodAll_nil hA;rfl
    | cons t ts ih =>
      obtain ⟨v,vs',d,ds',p,q,rfl,rfl,rfl,h0,hr⟩:=trodAll_cons hA;simp [ih _ _ hr]
  refine (walk args.toList hrd).mono fun e W' ⟨he,hm⟩=>?_
  subst he;have bel:=hm.below;refine ⟨_,rfl,ds,[],p++[],[],p,[],hW',?_,?_,?_,bel.frame _,fun h=>by cases h⟩
  · rw [hfn ds hlen,hr]
    exact trodAll_mk1 (shut_bool hb _)
  · rw [hfn ds hlen]
    exact trodAll_below hl bel hp hA
  · rw [hvars,hfn ds hlen]
    rfl
theorem laid_iface {P:Program} {n nm:String} {d:DataW Unit} {r:List (String×DataW Unit)} {W:World} {g:Nat} {ti:TypeId} {ms:Array (String×TypeId)}
    (h:laidMet P ((n,.iface nm d)::r) W) (hg:P.globalNamed n=some g) (ht:(P.globals[g]?).map (·.type)=some ti) (hi:P.underlying ti=some (.interface ms)):∃ te pe,W.cell? ⟨g,0,none⟩=some (.iface te pe):=by
  obtain ⟨ps,⟨g0,t0,cs0,f0,p0,q0,hg0,ht0,hv0,hd0,_,e0⟩,_,hrows⟩:=h;obtain rfl:=Option.some.inj (hg.symm.trans hg0);obtain rfl:=Option.some.inj (ht.symm.trans ht0);obtain ⟨f',u,v,hcs,_,_⟩:=iface_of_trod hi hd0;have h1:=World.var?_cell hg0 hv0 0
  have e:cs0 = #[.iface u v]:=by
    obtain ⟨l⟩:=cs0;simp only at hcs
    rw [hcs]
  rw [e] at h1;exact ⟨u,v,by simpa using h1⟩
end Go.Eng
namespace Go.Proofs.YtnmkdiagbkkmaaaGreatDoor
open Go Go.Eng Go.Dk Go.RowKit Go.Pw1 Go.Hp

abbrev laidL:List (String×DataW Unit):=[("math/bits.deBruijn32tab",Rows.laid_math_bits_deBruijn32tab),("math/bits.deBruijn64tab",Rows.laid_math_bits_deBruijn64tab),("internal/strconv.uint64pow10",Rows.laid_internal_strconv_uint64pow10),("unicode/utf8.acceptRanges",Rows.laid_unicode_utf8_acceptRanges),("strconv.ErrRange",Rows.laid_strconv_ErrRange),("strconv.ErrSyntax",Rows.laid_strconv_ErrSyntax),("unicode/utf8.first",Rows.laid_unicode_utf8_first)]
theorem gMax:((begin Tryz.prog (fun _ _=>0) default).world.heap[0]?).bind Obj.row? = some (#[.int .i64 0],3):=by kernel_rfl
theorem lw_of {W:World} (hsh:W.ShapedOpen Tryz.prog) (hL:laidMetH Tryz.prog laidL W):Lw Tryz.prog W:=by
  rw [MakeChecks.laidMetH_plain _ _ _ (by kernel_rfl)] at hL;have h3:=hL.tail.tail;have h5:=h3.tail.tail;obtain ⟨te,pe,h1⟩:=laid_iface h5 (g:=3) (by kernel_rfl) (by kernel_rfl) Tryz.underlying98;obtain ⟨te2,pe2,h2⟩:=laid_iface h5.tail (g:=2) (by kernel_rfl) (by kernel_rfl) Tryz.underlying98
  exact ⟨cell_of_shapedOpen_int hsh (by decide) gMax rfl (by kernel_rfl) (by kernel_rfl) Tryz.underlying3,
    Lib.tabIs_of_head (g:=1) (t:=353) (n:=20) (e:=299) (by kernel_rfl) (by kernel_rfl) (by kernel_rfl) (by kernel_rfl) (by kernel_rfl) (by kernel_rfl) h3,
    ⟨_,h2,.inr ⟨_,_,rfl⟩⟩,⟨_,h1,.inr ⟨_,_,rfl⟩⟩⟩
theorem laid_fits (os:Os):(World.holding Tryz.prog os ⟨#[],#[],[]⟩).layFits Tryz.prog laidL []=true:=by kernel_rfl
theorem laid_ifaces (os:Os):(World.holding Tryz.prog os ⟨#[],#[],[]⟩).layIfaces Tryz.prog laidL (World.laidAll Tryz.prog os laidL)=true:=by kernel_rfl
theorem rd_str {w:World} {cs:List Value} (h:Rd w .str cs):∃ s:Str,cs=strC s:=by
  cases h with
  | @str v=>exact ⟨v.data.toList,rfl⟩
theorem rd_strs {w:World} {cs:List Value} (h:Rd w (.sl .str) cs):∃ (l:List Str) (q:Option Addr) (b o cap:Nat),cs=[Value.slice q l.length cap]∧Sl w q b o 1 (l.map strC):=by
  cases h with
  | slNil=>exact ⟨[],none,0,0,0,rfl,Sl.emp⟩
  | @sl _ ad cap2 _ hs hl hc hx =>
    obtain ⟨l,rfl⟩:=rows_of (f:=strC) (fun x hx'=>rd_str (hx x hx'));exact ⟨l,some ad,_,_,cap2,by rw [List.length_map],hs⟩
theorem deskRight_walk (W:World) (vs:List Value) (hL:Lw Tryz.prog W) (h:RdAll W [cdSh,.sl .str] vs):Calls Tryz.prog 5 vs.toArray W (Pure (.bool true) W):=by
  cases h with
  | cons h1 h =>
  cases h with
  | cons h2 h =>
  cases h
  obtain ⟨c,q,b,o,cap,rfl,hp⟩:=rd_cd h1;obtain ⟨l,ql,bl,ol,cl,rfl,hl⟩:=rd_strs h2
  cases hf:farL c l with
  | true=>exact lright_far c q b o cap l ql bl ol cl W hL hp.s hl hf
  | false =>
    cases hh:heavyC c with
    | true=>exact lright_heavy c q b o cap l ql bl ol cl W hL hp.s hl hf hh
    | false =>
      cases hc:cardIs c with
      | true=>exact lright_ok c q b o cap (fun h=>(hp.n h).2) l ql bl ol cl W hL hp.s hl hf hh hc
      | false=>exact lright_no c q b o cap (fun h=>(hp.n h).2) l ql bl ol cl W hL hp.s hl hf hh hc
end Go.Proofs.YtnmkdiagbkkmaaaGreatDoor
