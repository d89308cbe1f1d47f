/- Printed by our programs. -/
import Derived.Test.YtbflhimigloapaaGreatDoorS04
import Derived.Test.YtbflhimigloapaaGreatDoorProg
set_option linter.unusedSimpArgs false
set_option linter.unusedVariables false
set_option linter.unusedSectionVars false
open Go.Proofs.Tryz
open Go.Proofs.Tryz renaming prog→π
namespace Go.Q
open Go Go.Eng Go.Dk Go.RowKit Go.Pw1 Go.Hp
theorem Ba8 {sz n:Nat} {x:Eng.Own} {xs:LV} (h:OwnOk sz x n xs) (hn:0 < n):ownQ x=some ⟨ownK x,0,none⟩:=by
 match x,h with
 | none,h=>have:=h.nil rfl;omega
 | some _,_=>rfl
theorem AI0 {α:Type} {f:α→LV} (p:OA) (b o off:Nat) (l:List α) (i:Nat) (x:α) (m:Bool) (W:World) (hS:Sl W p b o 13 (l.map f)) (hi:i < l.length) (hx:l[i]=x) (hc:nth (f x) 12=some (.bool m)) (ho:off=o + i * 13):CC 130 #[.pointer (some ⟨b,off,none⟩)] W (Try dmis (needX (!m) 6) W):=by
 refine cS func130 ?_;refine su ?_;refine lv (Aa5 rfl (fun w hm=>hS.cellE hm (by simp) Cm9 hi hx (j:=12) (by decide) hc (by rw [ho]))) ?_;refine Xh (zF rfl Al1) (fun w hm=>Ad7 _ _ w) (fun e7 he7=>?_) (fun v7 hv7=>?_)
 ·obtain ⟨er7,rfl⟩:=Ac9 he7
  exact Ae2 (by simp_all [needX])
 obtain ⟨ok7,rfl⟩:=Ad9 hv7;refine st ?_;exact At4 (.r0 rfl) (by simp_all [needX])
theorem AX9 {α:Type} {f:α→LV} (p:OA) (b o off:Nat) (l:List α) (i:Nat) (x:α) (m:Bool) (W:World) (hS:Sl W p b o 13 (l.map f)) (hi:i < l.length) (hx:l[i]=x) (hc:nth (f x) 12=some (.bool m)) (ho:off=o + i * 13):CC 139 #[.pointer (some ⟨b,off,none⟩)] W (Try dmis (needX m 6) W):=by
 refine cS func139 ?_;refine su ?_;refine lv (Aa5 rfl (fun w hm=>hS.cellE hm (by simp) Cm9 hi hx (j:=12) (by decide) hc (by rw [ho]))) ?_;refine Xh (zF rfl Al1) (fun w hm=>Ad7 _ _ w) (fun e6 he6=>?_) (fun v6 hv6=>?_)
 ·obtain ⟨er6,rfl⟩:=Ac9 he6
  exact Ae2 (by simp_all [needX])
 obtain ⟨ok6,rfl⟩:=Ad9 hv6;refine st ?_;exact At4 (.r0 rfl) (by simp_all [needX])
section
variable (xb:Nat) (d:DkX) (c:Cd) (W:World) (hL:Lw π W) (hD:DkA W xb d c)
include hD
theorem AB2 (i k:Nat) (v:VwX) (hi:i < d.vs.length) (hv:d.vs[i]=v):CC 133 #[pV xb,.I (i:Int),.I (k:Int)] W (Try dmis (needX (decide ((k:Int) < (v.p.things.length:Int))) 2) W):=by
 refine cS func133 ?_;refine su ?_;refine lv (Aa0 rfl hD.ob (by simp) BD1 rfl) ?_;refine lu (Aa3 rfl rfl AL6 (by omega) (by omega) (hD.v.ptrM hi)) ?_;refine lu (Aa5 rfl (fun w hm=>hD.v.cellE hm (by simp) AD3 hi hv (j:=7) (by decide) rfl (by simp))) ?_;refine Xh (zF rfl Al1) (fun w hm=>Ad7 _ _ w) (fun e19 he19=>?_) (fun v19 hv19=>?_)
 ·obtain ⟨er19,rfl⟩:=Ac9 he19
  exact Ae2 (by unfold needX;rw [if_neg (by rw [er19];decide)])
 obtain ⟨ok19,rfl⟩:=Ad9 hv19;refine st ?_;exact At4 (.r0 rfl) (by unfold needX;rw [if_pos ok19])
theorem Av5 (i:Nat) (v:VwX) (hi:i < d.vs.length) (hv:d.vs[i]=v):CC 137 #[pV xb,.I (i:Int)] W (Pure ((cardV (bareC c) v.pl).v (ownQ v.t) (ownC v.t)) W):=by
 refine cS func137 ?_;refine st ?_;refine zn (Lp Bt6) (fun b4=>?_)
 refine lv (Ag2 rfl hD.ob (by simp) CA3 rfl) ?_;refine zn (Lp Bt6) (fun b5=>?_)
 refine sQ .here ?_;refine su ?_;refine lv (Aa0 rfl hD.ob (by simp) BD1 rfl) ?_;refine lu (Aa3 rfl rfl AL6 (by omega) (by omega) (hD.v.ptrM hi)) ?_;refine lu (Aa5 rfl (fun w hm=>hD.v.loadPart hm (by simp) Bc7 hi hv (j:=0) (by decide) (vs:=v.p.cells (ownQ v.t) (ownC v.t)) rfl (by decide) (by simp))) ?_;refine sQ .here ?_;refine su ?_;refine sQ (.there .here) ?_;refine su ?_;exact Aa9 (.r1 rfl (.agg rfl mm1 CA3 rfl)) (by first | rfl | simp)
theorem Cj7 (h:waysE d.mx.pl ≠ 0):CC 142 #[pV xb] W (Try dmis (.error (waysE d.mx.pl)) W):=by
 refine cS func142 ?_;refine su ?_;refine lv (Ag2 rfl hD.ob (by simp) BS6 rfl) ?_;refine zc (zF rfl CR3) (fun w hm=>Dc7 d.mx hD.sm w (hD.m.mono0 hm) h) ?_;refine Xh (zF rfl Au5) (fun w hm=>Ah2 _ w) (fun e15 he15=>?_) (fun v15 hv15=>?_)
 ·have er15:=An2 he15
  refine Aa1 ?_;exact Ae2 (by rw [er15.2])
 obtain ⟨ok15,rfl⟩:=Au3 hv15;refine su ?_;exact Ak4 rZ (absurd ok15 h)
theorem Bz2 (h:waysE d.mx.pl=0):CC 142 #[pV xb] W (News (fun z:IO (SureX d.mx.pl).1=>.slice (ownQ z.1) (SureX d.mx.pl).1.length (ownC z.1)) (fun z=>ownB 3 z.1 (intsW (SureX d.mx.pl).1).flatten++[]) W):=by
 refine cS func142 ?_;refine su ?_;refine lv (Ag2 rfl hD.ob (by simp) BS6 rfl) ?_;refine Xl (zF rfl CR3) (fun w hm=>Cn8 d.mx hD.sm w (hD.m.mono0 hm) h) (fun z11=>?_)
 obtain ⟨y11,hy11⟩:=z11;dsimp only;rw [Ad3 hy11];refine st ?_;refine Xh (zF rfl Au5) (fun w hm=>Ah2 _ w) (fun e15 he15=>?_) (fun v15 hv15=>?_)
 ·have er15:=An2 he15
  refine Aa1 ?_;exact absurd rfl er15.1
 obtain ⟨ok15,rfl⟩:=Au3 hv15;refine su ?_;exact Ld (chg:=[]) rZ (fun _ hm=>⟨⟨y11,hy11⟩,rfl,hm.pick (Pick.refl _)⟩)
include hL
theorem Cv1 (i k:Nat) (hi:i < d.vs.length) (wv:Value) (q:OA) (b o cap:Nat) (hN:Sl W q b o 1 ([(i:Int),(k:Int)].map intC)):CC 89 #[pV xb,wv,.slice q 2 cap] W (Try dmis (ansV (farD d.pl i k)) W):=by
 obtain ⟨v,hv⟩:∃ v,d.vs[i]=v:=⟨_,rfl⟩;have hvm:v∈d.vs:=hv ▸ List.getElem_mem hi;have hth:=hD.th v hvm;have hpl:=pl_view hi hv;have hS:=fun (w:World) (hm:Mem W [] [] w)=>(hD.t v hvm).mono (by decide) hm (by simp)
 refine cS func89 ?_;refine st ?_;refine Ab9 7 Ah8 .nil ?_;refine zv 0 rfl (Aa8 rfl) ?_;refine zv 1 rfl (Aa8 rfl) ?_;refine zv 2 rfl (Aa3 rfl rfl Af6 (by omega) (by omega) (hN.ptrM (i:=0) (by simp))) ?_;refine zv 3 rfl (Aa5 rfl (fun w hm=>hN.cellE hm (by simp) Ae0 (i:=0) (by simp) (x:=(i:Int)) rfl (j:=0) (by decide) rfl (by simp))) ?_;refine zv 4 rfl (Aa8 rfl) ?_;refine zv 5 rfl (Aa3 rfl rfl Af6 (by omega) (by omega) (hN.ptrM (i:=1) (by simp))) ?_;refine zv 6 rfl (Aa5 rfl (fun w hm=>hN.cellE hm (by simp) Ae0 (i:=1) (by simp) (x:=(k:Int)) rfl (j:=0) (by decide) rfl (by simp))) ?_;refine zt ?_;refine zB 7 ?_;refine Xi rfl (zF rfl BZ4) (fun w hm=>AB2 xb d c w (hD.mono hm) i k v hi hv) (fun e16 he16=>?_) (fun v16 hv16=>(Ab2 ?_))
 ·obtain ⟨er16,rfl⟩:=Ac9 he16
  have hk:¬ k < v.p.things.length:=by have:=of_decide_eq_false er16;omega
  refine Aa1 ?_;exact Ae2 (by unfold farD;rw [hpl];simp [VwX.pl,ansV,hk])
 obtain ⟨ok16,rfl⟩:=Ad9 hv16;have hk:k < v.p.things.length:=by have:=of_decide_eq_true ok16;omega
 refine zd ?_;refine Ke ?_;refine Lx ?_
 apply Ak7 (J:=J1 _ _ _ _ _ _) 20 Ah8 .nil
 ·refine zv 0 rfl (Aa8 rfl) ?_
  refine zv 1 rfl (Aa8 rfl) ?_;refine zv 2 rfl (Lo rfl AE5) ?_;refine zv 3 rfl (Lo rfl AR1) ?_;refine zv 4 rfl (Aa0 rfl hD.ob (by simp) BD1 rfl) ?_;refine zv 5 rfl (Aa8 rfl) ?_;refine zv 6 rfl (Aa3 rfl rfl Af6 (by omega) (by omega) (hN.ptrM (i:=0) (by simp))) ?_;refine zv 7 rfl (Aa5 rfl (fun w hm=>hN.cellE hm (by simp) Ae0 (i:=0) (by simp) (x:=(i:Int)) rfl (j:=0) (by decide) rfl (by simp))) ?_;refine zv 8 rfl (Aa3 rfl rfl AL6 (by omega) (by omega) (hD.v.ptrM hi)) ?_;refine zv 9 rfl (Lo rfl Bx3) ?_;refine zv 10 rfl (Aa5 rfl (fun w hm=>hD.v.loadPart hm (by simp) Bc7 hi hv (j:=0) (by decide) (vs:=v.p.cells (ownQ v.t) (ownC v.t)) rfl (by decide) (by simp))) ?_;refine zv 11 rfl (Aa8 rfl) ?_;refine zv 12 rfl (Aa3 rfl rfl Af6 (by omega) (by omega) (hN.ptrM (i:=1) (by simp))) ?_;refine zv 13 rfl (Aa5 rfl (fun w hm=>hN.cellE hm (by simp) Ae0 (i:=1) (by simp) (x:=(k:Int)) rfl (j:=0) (by decide) rfl (by simp))) ?_;refine Af7 (rs:=[14,18]) (by kernel_rfl) (by simp) (by kernel_rfl) (fun m hm=>?_)
  simp only [List.mem_cons,List.not_mem_nil,or_false] at hm
  rcases hm with rfl | rfl
  ·refine Xd rfl (zF rfl By9) (fun w hm=>Ar6 v.p k (ownQ v.t) (ownK v.t) 0 (ownC v.t) w ((hD.t v hvm).mono (by decide) hm (by simp)) (by omega)) (Aa2 .nil .nil rfl ?_)
   refine zv 15 rfl (Aa8 rfl) ?_;refine zv 16 rfl (Aa8 rfl) ?_;refine zv 17 rfl (Aa8 rfl) ?_;refine zA 18 ?_;refine Xf rfl (Lp Ad6) (fun b7=>(Aa2 .nil .nil rfl ?_))
   refine zA 19 ?_;refine Xr rfl (Lt rfl rfl .here Ai6 rfl rfl) (Aa2 .nil .nil rfl ?_)
   refine zt ?_;refine zp 20 ?_;refine zd ?_;exact Af1 b7 (Ab3 _) (Pick.refl _)
  refine Xf rfl (Lp Ad6) (fun b7=>(Aa2 .nil .nil rfl ?_))
  refine zA 14 ?_;refine Xd rfl (zF rfl By9) (fun w hm=>Ar6 v.p k (ownQ v.t) (ownK v.t) 0 (ownC v.t) w ((hD.t v hvm).mono (by decide) hm (by simp)) (by omega)) (Aa2 .nil .nil rfl ?_)
  refine zv 15 rfl (Aa8 rfl) ?_;refine zv 16 rfl (Aa8 rfl) ?_;refine zv 17 rfl (Aa8 rfl) ?_;refine zA 19 ?_;refine Xr rfl (Lt rfl rfl .here Ai6 rfl rfl) (Aa2 .nil .nil rfl ?_)
  refine zt ?_;refine zp 20 ?_;refine zd ?_;exact Af1 b7 (zS 8 rfl (zS 7 rfl (zS 34 rfl (zS 33 rfl (zS 17 rfl (zS 32 rfl (zS 31 rfl (zS 30 rfl (zS 29 rfl (zS 28 rfl (zS 27 rfl (zS 26 rfl (zS 25 rfl (zS 24 rfl (zS 23 rfl (zS 22 rfl (zS 21 rfl (zS 20 rfl (zS 19 rfl (zS 18 rfl (qU (qU (qU (qU (qU (Ab3 _)))))))))))))))))))))))))) (qC .nil)
 refine J1.out (fun b7=>?_)
 refine st ?_;refine Xh (zF rfl Au5) (fun w hm=>Ah2 _ w) (fun e36 he36=>?_) (fun v36 hv36=>?_)
 ·obtain ⟨er36,rfl⟩:=An2 he36
  refine Aa1 ?_;exact Ae2 (by unfold farD;rw [hpl];simp [VwX.pl,ansV,hk,er36])
 obtain ⟨ok36,rfl⟩:=Au3 hv36;refine st ?_;refine lu (Lz rfl Ap9) ?_;refine lv (Lz rfl BV7) ?_;refine zn (Lu (parts:=[(0,.tmp 37),(1,.tmp 39)]) rfl Ap8 Am6 rfl rfl rfl rfl) (fun b40=>?_)
 refine zc (zF rfl An5) (fun w hm=>Ag4 [.s wFar,.sp (distX v.p k).1.1 (distX v.p k).1.2] _ (An1 wFar [_,_]) b40 w (hL.mono hm) (hm.at mm0) (by simp) (by intro p hp;simp only [List.mem_cons,List.not_mem_nil,or_false] at hp;rcases hp with rfl | rfl;exact (show wFar.length≤40 by decide);exact DG4 v.p k) (by simp [Prt.words])) ?_;exact Ak4 rZ (by unfold farD;rw [hpl];simp [VwX.pl,ansV,hk,ok36])
theorem BM2 (i:Nat) (hi:i < d.vs.length) (wv:Value) (q:OA) (b o cap:Nat) (hN:Sl W q b o 1 ([(i:Int)].map intC)):CC 90 #[pV xb,wv,.slice q 1 cap] W (Try dmis (ansV (movedD d.pl i)) W):=by
 obtain ⟨v,hv⟩:∃ v,d.vs[i]=v:=⟨_,rfl⟩;have hvm:v∈d.vs:=hv ▸ List.getElem_mem hi;have hth:=hD.th v hvm;have hpl:=pl_view hi hv;have hS:=fun (w:World) (hm:Mem W [] [] w)=>(hD.t v hvm).mono (by decide) hm (by simp)
 refine cS func90 ?_;refine csr ?_;refine vQ ?_;refine nnx ?_;refine Lx ?_
 apply Ak7 (J:=J1 _ _ _ _ _ _) 19 Ah8 .nil
 ·refine zv 0 rfl (Aa8 rfl) ?_
  refine zv 1 rfl (Aa8 rfl) ?_;refine zv 2 rfl (Lo rfl AE5) ?_;refine zv 3 rfl (Lo rfl AR1) ?_;refine zv 4 rfl (Aa0 rfl hD.ob (by simp) BD1 rfl) ?_;refine zv 5 rfl (Aa8 rfl) ?_;refine zv 6 rfl (Aa3 rfl rfl Af6 (by omega) (by omega) (hN.ptrM (i:=0) (by simp))) ?_;refine zv 7 rfl (Aa5 rfl (fun w hm=>hN.cellE hm (by simp) Ae0 (i:=0) (by simp) (x:=(i:Int)) rfl (j:=0) (by decide) rfl (by simp))) ?_;refine zv 8 rfl (Aa3 rfl rfl AL6 (by omega) (by omega) (hD.v.ptrM hi)) ?_;refine zv 9 rfl (Lo rfl Bx3) ?_;refine zv 10 rfl (Aa5 rfl (fun w hm=>hD.v.loadPart hm (by simp) Bc7 hi hv (j:=0) (by decide) (vs:=v.p.cells (ownQ v.t) (ownC v.t)) rfl (by decide) (by simp))) ?_;refine Af7 (rs:=[11,16]) (by kernel_rfl) (by simp) (by kernel_rfl) (fun m hm=>?_)
  simp only [List.mem_cons,List.not_mem_nil,or_false] at hm
  rcases hm with rfl | rfl
  ·refine Xd rfl (zF rfl CT1) (fun w hm=>AY9 v.p (ownQ v.t) (ownK v.t) 0 (ownC v.t) w ((hD.t v hvm).mono (by decide) hm (by simp)) (by omega)) (Aa2 .nil .nil rfl ?_)
   refine zv 12 rfl (Aa8 rfl) ?_;refine zv 13 rfl (Aa8 rfl) ?_;refine zv 14 rfl (Aa8 rfl) ?_;refine zv 15 rfl (Aa8 rfl) ?_;refine zA 16 ?_;refine Xf rfl (Lp Ad6) (fun b8=>(Aa2 .nil .nil rfl ?_))
   refine zv 17 rfl (Aa8 rfl) ?_;refine zA 18 ?_;refine Xr rfl (Lt rfl rfl .here Ai6 rfl rfl) (Aa2 .nil .nil rfl ?_)
   refine zt ?_;refine zp 19 ?_;refine zd ?_;exact Af1 b8 (Ab3 _) (Pick.refl _)
  refine Xf rfl (Lp Ad6) (fun b8=>(Aa2 .nil .nil rfl ?_))
  refine zA 11 ?_;refine Xd rfl (zF rfl CT1) (fun w hm=>AY9 v.p (ownQ v.t) (ownK v.t) 0 (ownC v.t) w ((hD.t v hvm).mono (by decide) hm (by simp)) (by omega)) (Aa2 .nil .nil rfl ?_)
  refine zv 12 rfl (Aa8 rfl) ?_;refine zv 13 rfl (Aa8 rfl) ?_;refine zv 14 rfl (Aa8 rfl) ?_;refine zv 15 rfl (Aa8 rfl) ?_;refine zv 17 rfl (Aa8 rfl) ?_;refine zA 18 ?_;refine Xr rfl (Lt rfl rfl .here Ai6 rfl rfl) (Aa2 .nil .nil rfl ?_)
  refine zt ?_;refine zp 19 ?_;refine zd ?_;exact Af1 b8 (zS 9 rfl (zS 7 rfl (zS 8 rfl (zS 25 rfl (zS 24 rfl (zS 23 rfl (zS 10 rfl (zS 22 rfl (zS 21 rfl (zS 20 rfl (zS 19 rfl (zS 18 rfl (zS 17 rfl (zS 16 rfl (zS 15 rfl (zS 14 rfl (zS 13 rfl (zS 12 rfl (zS 11 rfl (qU (qU (qU (qU (qT (qS (Ab3 _)))))))))))))))))))))))))) (qC .nil)
 refine J1.out (fun b8=>?_)
 refine st ?_;refine Xh (zF rfl Au5) (fun w hm=>Ah2 _ w) (fun e27 he27=>?_) (fun v27 hv27=>?_)
 ·obtain ⟨er27,rfl⟩:=An2 he27
  refine Aa1 ?_;exact Ae2 (by unfold movedD;rw [hpl];simp [VwX.pl,ansV,er27])
 obtain ⟨ok27,rfl⟩:=Au3 hv27;refine st ?_;refine lv (Lz rfl Ap9) ?_;refine lv (Lz rfl Aw9) ?_;refine zn (Lu (parts:=[(0,.tmp 28),(1,.tmp 30)]) rfl Ap8 Am6 rfl rfl rfl rfl) (fun b31=>?_)
 refine zc (zF rfl An5) (fun w hm=>Ag4 [.s wMoved,.n (fewestX v.p).1] _ (An1 wMoved [_]) b31 w (hL.mono hm) (hm.at mm0) (by simp) (by intro p hp;simp only [List.mem_cons,List.not_mem_nil,or_false] at hp;rcases hp with rfl | rfl;exact (show wMoved.length≤40 by decide);exact CP1 v.p) (by simp [Prt.words])) ?_;exact Ak4 rZ (by unfold movedD;rw [hpl];simp [VwX.pl,ansV,ok27])
theorem BM4 (i:Nat) (a1 a2 a3 a4:Int) (hi:i < d.vs.length) (wv:Value) (q:OA) (b o cap:Nat) (hN:Sl W q b o 1 ([(i:Int),a1,a2,a3,a4].map intC)):CC 91 #[pV xb,wv,.slice q 5 cap] W (Try dmis (ansV (hurtsD (bareC c) d.pl i ⟨a1,a2,a3,a4⟩)) W):=by
 obtain ⟨v,hv⟩:∃ v,d.vs[i]=v:=⟨_,rfl⟩;have hvm:v∈d.vs:=hv ▸ List.getElem_mem hi;have hth:=hD.th v hvm;have hpl:=pl_view hi hv;have hS:=fun (w:World) (hm:Mem W [] [] w)=>(hD.t v hvm).mono (by decide) hm (by simp)
 have hbd:=Dh8 (cardV (bareC c) v.pl) ⟨a1,a2,a3,a4⟩ (show v.p.things.length≤1000 by omega);refine cS func91 ?_;refine st ?_;refine Ab9 25 Ah8 .nil ?_;refine zv 0 rfl (Aa8 rfl) ?_;refine zv 1 rfl (Aa8 rfl) ?_;refine zv 2 rfl (Aa3 rfl rfl Af6 (by omega) (by omega) (hN.ptrM (i:=0) (by simp))) ?_;refine zv 3 rfl (Aa5 rfl (fun w hm=>hN.cellE hm (by simp) Ae0 (i:=0) (by simp) (x:=(i:Int)) rfl (j:=0) (by decide) rfl (by simp))) ?_;refine zv 5 rfl (Aa8 rfl) ?_;refine zv 6 rfl (Aa3 rfl rfl Af6 (by omega) (by omega) (hN.ptrM (i:=1) (by simp))) ?_;refine zv 7 rfl (Aa5 rfl (fun w hm=>hN.cellE hm (by simp) Ae0 (i:=1) (by simp) (x:=a1) rfl (j:=0) (by decide) rfl (by simp))) ?_;refine zv 8 rfl (Aa8 rfl) ?_;refine zv 9 rfl (Aa3 rfl rfl Af6 (by omega) (by omega) (hN.ptrM (i:=2) (by simp))) ?_;refine zv 10 rfl (Aa5 rfl (fun w hm=>hN.cellE hm (by simp) Ae0 (i:=2) (by simp) (x:=a2) rfl (j:=0) (by decide) rfl (by simp))) ?_;refine zv 11 rfl (Aa8 rfl) ?_;refine zv 12 rfl (Aa3 rfl rfl Af6 (by omega) (by omega) (hN.ptrM (i:=3) (by simp))) ?_;refine zv 13 rfl (Aa5 rfl (fun w hm=>hN.cellE hm (by simp) Ae0 (i:=3) (by simp) (x:=a3) rfl (j:=0) (by decide) rfl (by simp))) ?_;refine zv 14 rfl (Aa8 rfl) ?_;refine zv 15 rfl (Aa3 rfl rfl Af6 (by omega) (by omega) (hN.ptrM (i:=4) (by simp))) ?_;refine zv 16 rfl (Aa5 rfl (fun w hm=>hN.cellE hm (by simp) Ae0 (i:=4) (by simp) (x:=a4) rfl (j:=0) (by decide) rfl (by simp))) ?_;refine zv 17 rfl (Lr (parts:=[(0,.tmp 18),(1,.tmp 21),(2,.tmp 24),(3,.tmp 27)]) rfl An3 AG8 rfl) ?_;refine zA 4 ?_;refine Xd rfl (zF rfl By8) (fun w hm=>Av5 xb d c w (hD.mono hm) i v hi hv) (Aa2 .nil .nil rfl ?_)
 refine zA 18 ?_;refine Xd rfl (zF rfl DF7) (fun w hm=>Cd6 (cardV (bareC c) v.pl) ⟨a1,a2,a3,a4⟩ (ownQ v.t) (ownK v.t) 0 (ownC v.t) w ((show Sl W (ownQ v.t) (ownK v.t) 0 9 ((cardV (bareC c) v.pl).p.things.map Th.cells) from hD.t v hvm).mono (by decide) hm (by simp)) (show v.p.things.length≤100000000000 by omega)) (Aa2 .nil .nil rfl ?_)
 refine zv 19 rfl (Aa8 rfl) ?_;refine zv 20 rfl (Aa8 rfl) ?_;refine zv 21 rfl (Aa8 rfl) ?_;refine zv 22 rfl (Aa8 rfl) ?_;refine zv 23 rfl (Aa8 rfl) ?_;refine zv 24 rfl (Aa8 rfl) ?_;refine zt ?_;refine zp 25 ?_;refine zd ?_;refine st ?_;refine cn rfl ?_ ?_
 ·intro c0'
  refine st ?_;refine lv (Lz rfl Ap9) ?_;refine lv (Lz rfl Aw9) ?_;refine lv (Lz rfl Aw9) ?_;refine zn (Lu (parts:=[(0,.tmp 35),(1,.tmp 37),(2,.tmp 39)]) rfl Ap8 Am6 rfl rfl rfl rfl) (fun b40=>?_)
  refine zc (zF rfl An5) (fun w hm=>Ag4 [.s wHurts,.n (hurtsX (cardV (bareC c) v.pl) ⟨a1,a2,a3,a4⟩).1,.n (hurtsX (cardV (bareC c) v.pl) ⟨a1,a2,a3,a4⟩).2.1] _ (An1 wHurts [_,_]) b40 w (hL.mono hm) (hm.at mm0) (by simp) (by intro p hp;simp only [List.mem_cons,List.not_mem_nil,or_false] at hp;rcases hp with rfl | rfl | rfl;exact (show wHurts.length≤40 by decide);exact hbd.1;exact hbd.2) (by simp [Prt.words])) ?_;exact Ak4 rZ (by have c0x:=c0';unfold hurtsD;rw [hpl];simp [ansV,c0x])
 intro c0';refine st ?_;refine Xh (zF rfl Au5) (fun w hm=>Ah2 _ w) (fun e43 he43=>?_) (fun v43 hv43=>?_)
 ·obtain ⟨er43,rfl⟩:=An2 he43
  refine Aa1 ?_;exact Ae2 (by have c0x:=c0';unfold hurtsD;rw [hpl];simp [ansV,er43,c0x])
 obtain ⟨ok43,rfl⟩:=Au3 hv43;refine st ?_;refine lv (Lz rfl Ap9) ?_;refine lv (Lz rfl Ap9) ?_;refine zn (Lu (parts:=[(0,.tmp 44),(1,.tmp 45)]) rfl Ap8 Am6 rfl rfl rfl rfl) (fun b46=>?_)
 refine zc (zF rfl An5) (fun w hm=>Ag4 [.s wHurts,.s wNone] _ (Bg2 wHurts [wNone]) b46 w (hL.mono hm) (hm.at mm0) (by simp) (by intro p hp;simp only [List.mem_cons,List.not_mem_nil,or_false] at hp;rcases hp with rfl | rfl;exact (show wHurts.length≤40 by decide);exact (show wNone.length≤40 by decide)) (by simp [Prt.words])) ?_;exact Ak4 rZ (by have c0x:=c0';unfold hurtsD;rw [hpl];simp [ansV,ok43,wHurts,wNone])
theorem Ca6 (i:Nat) (hi:i < d.vs.length) (wv:Value) (q:OA) (b o cap:Nat) (hN:Sl W q b o 1 ([(i:Int)].map intC)):CC 93 #[pV xb,wv,.slice q 1 cap] W (Try dmis (ansV (deepD (bareC c) d.pl i)) W):=by
 obtain ⟨v,hv⟩:∃ v,d.vs[i]=v:=⟨_,rfl⟩;have hvm:v∈d.vs:=hv ▸ List.getElem_mem hi;have hth:=hD.th v hvm;have hpl:=pl_view hi hv;have hS:=fun (w:World) (hm:Mem W [] [] w)=>(hD.t v hvm).mono (by decide) hm (by simp)
 refine cS func93 ?_;refine st ?_;refine Ab9 8 Ah8 .nil ?_;refine zv 0 rfl (Aa8 rfl) ?_;refine zv 1 rfl (Aa8 rfl) ?_;refine zv 2 rfl (Lo rfl AE5) ?_;refine zv 3 rfl (Lo rfl AR1) ?_;refine zv 4 rfl (Aa0 rfl hD.ob (by simp) BD1 rfl) ?_;refine zv 5 rfl (Aa8 rfl) ?_;refine zv 6 rfl (Aa3 rfl rfl Af6 (by omega) (by omega) (hN.ptrM (i:=0) (by simp))) ?_;refine zv 7 rfl (Aa5 rfl (fun w hm=>hN.cellE hm (by simp) Ae0 (i:=0) (by simp) (x:=(i:Int)) rfl (j:=0) (by decide) rfl (by simp))) ?_;refine zt ?_;refine zo 8 rfl (Aa3 rfl rfl AL6 (by omega) (by omega) (hD.v.ptrM hi)) ?_;refine zp 9 ?_;refine zd ?_;refine st ?_;refine Xh (zF rfl CT0) (fun w hm=>AX9 (ownQ d.v) (ownK d.v) 0 _ d.vs i v v.up w (hD.v.mono (by decide) hm (by simp)) hi hv rfl (by simp)) (fun e20 he20=>?_) (fun v20 hv20=>?_)
 ·obtain ⟨er20,rfl⟩:=Ac9 he20
  refine Aa1 ?_;exact Ae2 (by unfold deepD;rw [hpl];simp [VwX.pl,ansV,er20])
 obtain ⟨ok20,rfl⟩:=Ad9 hv20;refine nnx ?_;refine Lx ?_
 apply Ak7 (J:=J1 _ _ _ _ _ _) 15 Ah8 .nil
 ·refine zv 0 rfl (Aa8 rfl) ?_
  refine zv 1 rfl (Aa8 rfl) ?_;refine zv 2 rfl (Aa3 rfl rfl Af6 (by omega) (by omega) (hN.ptrM (i:=0) (by simp))) ?_;refine zv 3 rfl (Aa5 rfl (fun w hm=>hN.cellE hm (by simp) Ae0 (i:=0) (by simp) (x:=(i:Int)) rfl (j:=0) (by decide) rfl (by simp))) ?_;refine zv 5 rfl (Aa8 rfl) ?_;refine zv 6 rfl (Aa8 rfl) ?_;refine zv 7 rfl (Lo rfl Ci7) ?_;refine zv 8 rfl (Aa5 rfl (fun w hm=>hD.v.loadPart hm (by simp) Bl5 hi hv (j:=8) (by decide) (vs:=v.cuts.cells) rfl (by decide) (by simp))) ?_;refine Af7 (rs:=[4,13]) (by kernel_rfl) (by simp) (by kernel_rfl) (fun m hm=>?_)
  simp only [List.mem_cons,List.not_mem_nil,or_false] at hm
  rcases hm with rfl | rfl
  ·refine Xd rfl (zF rfl By8) (fun w hm=>Av5 xb d c w (hD.mono hm) i v hi hv) (Aa2 .nil .nil rfl ?_)
   refine Af7 (rs:=[9,13]) (by kernel_rfl) (by simp) (by kernel_rfl) (fun m hm=>?_)
   simp only [List.mem_cons,List.not_mem_nil,or_false] at hm
   rcases hm with rfl | rfl
   ·refine Xd rfl (zF rfl BZ3) (fun w hm=>AI9 (cardV (bareC c) v.pl) v.cuts (ownQ v.t) (ownK v.t) 0 (ownC v.t) w ((show Sl W (ownQ v.t) (ownK v.t) 0 9 ((cardV (bareC c) v.pl).p.things.map Th.cells) from hD.t v hvm).mono (by decide) hm (by simp)) (show v.p.things.length≤100000000000 by omega)) (Aa2 .nil .nil rfl ?_)
    refine zv 10 rfl (Aa8 rfl) ?_;refine zv 11 rfl (Aa8 rfl) ?_;refine zv 12 rfl (Aa8 rfl) ?_;refine zA 13 ?_;refine Xf rfl (Lp Ad6) (fun b8=>(Aa2 .nil .nil rfl ?_))
    refine zA 14 ?_;refine Xr rfl (Lt rfl rfl .here Ai6 rfl rfl) (Aa2 .nil .nil rfl ?_)
    refine zt ?_;refine zp 15 ?_;refine zd ?_;exact Af1 b8 (Ab3 _) (Pick.refl _)
   refine Xf rfl (Lp Ad6) (fun b8=>(Aa2 .nil .nil rfl ?_))
   refine zA 9 ?_;refine Xd rfl (zF rfl BZ3) (fun w hm=>AI9 (cardV (bareC c) v.pl) v.cuts (ownQ v.t) (ownK v.t) 0 (ownC v.t) w ((show Sl W (ownQ v.t) (ownK v.t) 0 9 ((cardV (bareC c) v.pl).p.things.map Th.cells) from hD.t v hvm).mono (by decide) hm (by simp)) (show v.p.things.length≤100000000000 by omega)) (Aa2 .nil .nil rfl ?_)
   refine zv 10 rfl (Aa8 rfl) ?_;refine zv 11 rfl (Aa8 rfl) ?_;refine zv 12 rfl (Aa8 rfl) ?_;refine zA 14 ?_;refine Xr rfl (Lt rfl rfl .here Ai6 rfl rfl) (Aa2 .nil .nil rfl ?_)
   refine zt ?_;refine zp 15 ?_;refine zd ?_;exact Af1 b8 (zS 9 rfl (zS 8 rfl (zS 33 rfl (zS 32 rfl (zS 21 rfl (zS 31 rfl (zS 26 rfl (zS 30 rfl (zS 29 rfl (zS 28 rfl (zS 27 rfl (zS 25 rfl (zS 24 rfl (zS 23 rfl (zS 22 rfl (qU (qU (qU (qT (qS (Ab3 _))))))))))))))))))))) (qC .nil)
  refine Xf rfl (Lp Ad6) (fun b8=>(Aa2 .nil .nil rfl ?_))
  refine zA 4 ?_;refine Xd rfl (zF rfl By8) (fun w hm=>Av5 xb d c w (hD.mono hm) i v hi hv) (Aa2 .nil .nil rfl ?_)
  refine zA 9 ?_;refine Xd rfl (zF rfl BZ3) (fun w hm=>AI9 (cardV (bareC c) v.pl) v.cuts (ownQ v.t) (ownK v.t) 0 (ownC v.t) w ((show Sl W (ownQ v.t) (ownK v.t) 0 9 ((cardV (bareC c) v.pl).p.things.map Th.cells) from hD.t v hvm).mono (by decide) hm (by simp)) (show v.p.things.length≤100000000000 by omega)) (Aa2 .nil .nil rfl ?_)
  refine zv 10 rfl (Aa8 rfl) ?_;refine zv 11 rfl (Aa8 rfl) ?_;refine zv 12 rfl (Aa8 rfl) ?_;refine zA 14 ?_;refine Xr rfl (Lt rfl rfl .here Ai6 rfl rfl) (Aa2 .nil .nil rfl ?_)
  refine zt ?_;refine zp 15 ?_;refine zd ?_;exact Af1 b8 (zS 9 rfl (zS 8 rfl (zS 33 rfl (zS 32 rfl (zS 21 rfl (zS 31 rfl (zS 26 rfl (zS 30 rfl (zS 29 rfl (zS 28 rfl (zS 27 rfl (zS 25 rfl (zS 24 rfl (zS 23 rfl (zS 22 rfl (qU (qU (qU (qT (qS (Ab3 _))))))))))))))))))))) (qC .nil)
 refine J1.out (fun b8=>?_)
 refine st ?_;refine Xh (zF rfl Au5) (fun w hm=>Ah2 _ w) (fun e35 he35=>?_) (fun v35 hv35=>?_)
 ·obtain ⟨er35,rfl⟩:=An2 he35
  refine Aa1 ?_;exact Ae2 (by unfold deepD;rw [hpl];simp [ansV,show v.pl.up=true from ok20,show (depthsX (cardV (bareC c) v.pl) v.pl.cuts).2 ≠ 0 from er35];rfl)
 obtain ⟨ok35,rfl⟩:=Au3 hv35;refine st ?_;refine lu (Lz rfl Ap9) ?_;refine lv (Lz rfl BV7) ?_;refine zn (Lu (parts:=[(0,.tmp 36),(1,.tmp 38)]) rfl Ap8 Am6 rfl rfl rfl rfl) (fun b39=>?_)
 refine zc (zF rfl An5) (fun w hm=>Ag4 [.s wDeep,.sp (depthsX (cardV (bareC c) v.pl) v.cuts).1.1 (depthsX (cardV (bareC c) v.pl) v.cuts).1.2] _ (An1 wDeep [_,_]) b39 w (hL.mono hm) (hm.at mm0) (by simp) (by intro p hp;simp only [List.mem_cons,List.not_mem_nil,or_false] at hp;rcases hp with rfl | rfl;exact (show wDeep.length≤40 by decide);exact CU7 _ _) (by simp [Prt.words])) ?_;exact Ak4 rZ (by unfold deepD;rw [hpl];simp [ansV,show v.pl.up=true from ok20,show (depthsX (cardV (bareC c) v.pl) v.pl.cuts).2=0 from ok35];rfl)
theorem Ca1 (wv nv:Value):CC 97 #[pV xb,wv,nv] W (Try dmis (ansV (waysD d.pl)) W):=by
 have hpl:=d.mx_pl;refine cS func97 ?_;refine su ?_;refine lv (Ag2 rfl hD.ob (by simp) BS6 rfl) ?_;refine zc (zF rfl Dr0) (fun w hm=>AY1 d.mx hD.sm w (hD.m.mono0 hm)) ?_;refine Xh (zF rfl Au5) (fun w hm=>Ah2 _ w) (fun e19 he19=>?_) (fun v19 hv19=>?_)
 ·obtain ⟨er19,rfl⟩:=An2 he19
  refine Aa1 ?_;exact Ae2 (by unfold waysD;rw [← hpl];simp [ansV,er19])
 obtain ⟨ok19,rfl⟩:=Au3 hv19;refine st ?_;refine lv (Lz rfl Ap9) ?_;refine lv (Lz rfl Aw9) ?_;refine zn (Lu (parts:=[(0,.tmp 20),(1,.tmp 22)]) rfl Ap8 Am6 rfl rfl rfl rfl) (fun b23=>?_)
 refine zc (zF rfl An5) (fun w hm=>Ag4 [.s wWays,.n (CountX d.mx.pl).1] _ (An1 wWays [_]) b23 w (hL.mono hm) (hm.at mm0) (by simp) (by intro p hp;simp only [List.mem_cons,List.not_mem_nil,or_false] at hp;rcases hp with rfl | rfl;exact (show wWays.length≤40 by decide);exact Dk8 d.mx) (by simp [Prt.words])) ?_;exact Ak4 rZ (by unfold waysD;rw [← hpl];simp [ansV,ok19])
theorem BM0 (k:Nat) (wv:Value) (q:OA) (b o cap:Nat) (hN:Sl W q b o 1 ([(k:Int)].map intC)):CC 98 #[pV xb,wv,.slice q 1 cap] W (Try dmis (ansV (whichD d.pl k)) W):=by
 have hpl:=d.mx_pl;have hpc:d.pl.heap.cards=d.cs:=rfl
 by_cases hw:waysE d.mx.pl=0
 · have hs0:(SureX d.mx.pl).2=0:=by unfold SureX;rw [if_pos hw]
   have hsl:(SureX d.mx.pl).1.length=d.cs.length:=by unfold SureX;rw [if_pos hw];simp [DkX.mx,MxA.pl]
   have hsb:=CC0 d.mx;refine cS func98 ?_;refine st ?_;refine Ab9 10 Ah8 .nil ?_;refine zv 0 rfl (Aa8 rfl) ?_;refine zv 1 rfl (Aa3 rfl rfl Af6 (by omega) (by omega) (hN.ptrM (i:=0) (by simp))) ?_;refine zv 2 rfl (Aa5 rfl (fun w hm=>hN.cellE hm (by simp) Ae0 (i:=0) (by simp) (x:=(k:Int)) rfl (j:=0) (by decide) rfl (by simp))) ?_;refine zv 3 rfl (Aa8 rfl) ?_;refine zv 4 rfl (Aa8 rfl) ?_;refine zv 5 rfl (Lo rfl AE5) ?_;refine zv 6 rfl (Lo rfl Bw8) ?_;refine zv 7 rfl (Lo rfl AK7) ?_;refine zv 8 rfl (Aa0 rfl hD.ob (by simp) Bu5 rfl) ?_;refine zv 9 rfl (Ae3 rfl AZ0) ?_;refine zt ?_;refine zp 10 ?_;refine zB 11 ?_;refine Xi rfl (zF rfl Al1) (fun w hm=>Ad7 _ _ w) (fun e19 he19=>?_) (fun v19 hv19=>(Ab2 ?_))
   ·obtain ⟨er19,rfl⟩:=Ac9 he19
    have hk:¬ k < d.cs.length:=by have:=of_decide_eq_false er19;omega
    refine Aa1 ?_;exact Ae2 (by unfold whichD;rw [hpc,if_pos hk];rfl)
   obtain ⟨ok19,rfl⟩:=Ad9 hv19;have hk:k < d.cs.length:=by have:=of_decide_eq_true ok19;omega
   refine zd ?_;refine st ?_;refine Ab9 5 Ah8 .nil ?_;refine zv 0 rfl (Aa8 rfl) ?_;refine zv 2 rfl (Aa8 rfl) ?_;refine zv 3 rfl (Aa3 rfl rfl Af6 (by omega) (by omega) (hN.ptrM (i:=0) (by simp))) ?_;refine zv 4 rfl (Aa5 rfl (fun w hm=>hN.cellE hm (by simp) Ae0 (i:=0) (by simp) (x:=(k:Int)) rfl (j:=0) (by decide) rfl (by simp))) ?_;refine zA 1 ?_;refine Xp [] _ rfl rfl (zF rfl Bi6) (fun w hm=>Bz2 xb d c w (hD.mono hm) hw) (fun z21=>(Aa2 .nil .nil rfl ?_))
   obtain ⟨y21,hy21⟩:=z21;dsimp only;refine zt ?_;refine zo 5 rfl (Aa3 rfl rfl Af6 (by omega) (by omega) (Ba8 hy21 (by omega))) ?_;refine zo 6 rfl (Aa5 rfl (fun w hm=>Sl.loadM1 (Am3 (f:=fun x:Int=>[Value.int .i64 x]) (e:=3) (fun _=>rfl) (by decide) hy21 (fun b o h=>hm.at (show (b,o)∈ownB 3 y21 (intsW (SureX d.mx.pl).1).flatten++[] from List.mem_append_left _ h))) (by decide) (Mem.refl w) (by simp) Ae0 (i:=k) (by rw [hsl];exact hk) (v:=.int .i64 ((SureX d.mx.pl).1.getD k 0)) (by simp [List.getD_eq_getElem?_getD,hsl,hk]))) ?_;refine zp 7 ?_;refine zd ?_;refine st ?_;refine cn rfl ?_ ?_
   ·intro c0'
    have hin:(SureX d.mx.pl).1.getD k 0∈(SureX d.mx.pl).1:=by (rw [List.getD_eq_getElem?_getD,List.getElem?_eq_getElem (by omega)];exact List.getElem_mem _)
    have c0x:¬ (SureX d.mx.pl).1.getD k 0 = -1:=by simpa using c0'
    refine st ?_;refine lv (Lz rfl Ap9) ?_;refine lv (Lz rfl Aw9) ?_;refine zn (Lu (parts:=[(0,.tmp 29),(1,.tmp 31)]) rfl Ap8 Am6 rfl rfl rfl rfl) (fun b32=>?_)
    refine zc (zF rfl An5) (fun w hm=>Ag4 [.s wWhich,.n ((SureX d.mx.pl).1.getD k 0)] _ (An1 wWhich [_]) b32 w (hL.mono hm) (hm.at mm0) (by simp) (by intro p hp;simp only [List.mem_cons,List.not_mem_nil,or_false] at hp;rcases hp with rfl | rfl;exact (show wWhich.length≤40 by decide);exact hsb _ hin) (by simp [Prt.words])) ?_;exact Ak4 rZ (by unfold whichD;rw [← hpl,hs0,if_neg (fun h=>h (by rw [hpl,hpc];exact hk)),if_neg (by decide)];dsimp only;rw [if_neg c0x];rfl)
   intro c0';have c0x:(SureX d.mx.pl).1.getD k 0 = -1:=by simpa using c0'
   refine st ?_;refine lv (Lz rfl Ap9) ?_;refine lv (Lz rfl Ap9) ?_;refine zn (Lu (parts:=[(0,.tmp 34),(1,.tmp 35)]) rfl Ap8 Am6 rfl rfl rfl rfl) (fun b36=>?_)
   refine zc (zF rfl An5) (fun w hm=>Ag4 [.s wWhich,.s wDoubt] _ (Bg2 wWhich [wDoubt]) b36 w (hL.mono hm) (hm.at mm0) (by simp) (by intro p hp;simp only [List.mem_cons,List.not_mem_nil,or_false] at hp;rcases hp with rfl | rfl;exact (show wWhich.length≤40 by decide);exact (show wDoubt.length≤40 by decide)) (by simp [Prt.words])) ?_;exact Ak4 rZ (by unfold whichD;rw [← hpl,hs0,if_neg (fun h=>h (by rw [hpl,hpc];exact hk)),if_neg (by decide)];dsimp only;rw [if_pos c0x];rfl)
 · have hs0:(SureX d.mx.pl).2=waysE d.mx.pl:=by unfold SureX;rw [if_neg hw]
   refine cS func98 ?_;refine st ?_;refine Ab9 10 Ah8 .nil ?_;refine zv 0 rfl (Aa8 rfl) ?_;refine zv 1 rfl (Aa3 rfl rfl Af6 (by omega) (by omega) (hN.ptrM (i:=0) (by simp))) ?_;refine zv 2 rfl (Aa5 rfl (fun w hm=>hN.cellE hm (by simp) Ae0 (i:=0) (by simp) (x:=(k:Int)) rfl (j:=0) (by decide) rfl (by simp))) ?_;refine zv 3 rfl (Aa8 rfl) ?_;refine zv 4 rfl (Aa8 rfl) ?_;refine zv 5 rfl (Lo rfl AE5) ?_;refine zv 6 rfl (Lo rfl Bw8) ?_;refine zv 7 rfl (Lo rfl AK7) ?_;refine zv 8 rfl (Aa0 rfl hD.ob (by simp) Bu5 rfl) ?_;refine zv 9 rfl (Ae3 rfl AZ0) ?_;refine zt ?_;refine zp 10 ?_;refine zB 11 ?_;refine Xi rfl (zF rfl Al1) (fun w hm=>Ad7 _ _ w) (fun e19 he19=>?_) (fun v19 hv19=>(Ab2 ?_))
   ·obtain ⟨er19,rfl⟩:=Ac9 he19
    have hk:¬ k < d.cs.length:=by have:=of_decide_eq_false er19;omega
    refine Aa1 ?_;exact Ae2 (by unfold whichD;rw [hpc,if_pos hk];rfl)
   obtain ⟨ok19,rfl⟩:=Ad9 hv19;have hk:k < d.cs.length:=by have:=of_decide_eq_true ok19;omega
   refine zd ?_;refine st ?_;refine Ab9 5 Ah8 .nil ?_;refine zv 0 rfl (Aa8 rfl) ?_;refine zv 2 rfl (Aa8 rfl) ?_;refine zv 3 rfl (Aa3 rfl rfl Af6 (by omega) (by omega) (hN.ptrM (i:=0) (by simp))) ?_;refine zv 4 rfl (Aa5 rfl (fun w hm=>hN.cellE hm (by simp) Ae0 (i:=0) (by simp) (x:=(k:Int)) rfl (j:=0) (by decide) rfl (by simp))) ?_;refine zA 1 ?_;refine Xi rfl (zF rfl Bi6) (fun w hm=>Cj7 xb d c w (hD.mono hm) hw) (fun e21 he21=>?_) (fun v21 hv21=>(Aa2 .nil .nil rfl ?_))
   ·refine Aa1 ?_
    refine Aa1 ?_;exact Ae2 (by cases he21;unfold whichD;rw [← hpl,hs0,if_neg (fun h=>h (by rw [hpl,hpc];exact hk)),if_pos hw];rfl)
   cases hv21
end
theorem DH6:apB π 24=some (145,9,72):=by kernel_rfl
theorem DU1:apB π 37=some (165,3,40):=by kernel_rfl
theorem DL6:π.underlying 24=some (.slice 145):=by kernel_rfl
theorem DL5:π.underlying 29=some (.slice 9):=by kernel_rfl
theorem DL4:π.underlying 37=some (.slice 165):=by kernel_rfl
end Go.Q
namespace Go.Dk
open Go Go.Eng Go.RowKit Go.Pw1 Go.Hp
abbrev OC (sz:Nat) (n:Nat) (xs:LV):={ x:Eng.Own // OwnOk sz x n xs }
theorem DkX.pl_set {d:DkX} {i:Nat} {v:VwX}:(DkX.pl { d with vs:=d.vs.set i v })=putV d.pl i v.pl:=by
 unfold DkX.pl putV;dsimp only;rw [List.map_set]
theorem Bc3 (vs:List VwX):(vs.map VwX.cells).flatten.length=vs.length * 13:=Aj8 (f:=VwX.cells) (fun _=>rfl) vs
theorem DkOk.set {d:DkX} (h:DkOk d) {i:Nat} {v:VwX} (hv:OwnOk 9 v.t v.p.things.length (v.p.things.map Th.cells).flatten) (ht:v.p.things.length≤12):DkOk { d with vs:=d.vs.set i v }:=by
 refine ⟨?_,fun x hx=>?_,h.b,h.bs,h.c,?_,fun x hx=>?_,h.ti,h.tx⟩
 · show OwnOk 13 d.v (d.vs.set i v).length ((d.vs.set i v).map VwX.cells).flatten
   rw [List.length_set];exact BV4 h.v (by rw [Bc3,Bc3,List.length_set])
 · rcases List.mem_or_eq_of_mem_set hx with hx | rfl
   · exact h.vs x hx
   · exact hv
 · show (d.vs.set i v).length≤4∧_
   rw [List.length_set];exact h.few
 · rcases List.mem_or_eq_of_mem_set hx with hx | rfl
   · exact h.things x hx
   · exact ht
theorem Cs6 {α:Type} {l:List α} {k:Nat} (hk:k < l.length) {x:α} (hx:l[k]=x) (f:α→α):l.modify k f=l.set k (f x):=by
 subst hx;refine List.ext_getElem (by simp) fun i h1 h2=>?_
 rw [List.getElem_modify,List.getElem_set]
 by_cases h:k=i
 · subst h;simp
 · rw [if_neg h,if_neg h]
end Go.Dk
namespace Go.Q
open Go Go.Eng Go.Dk Go.RowKit Go.Pw1 Go.Hp
theorem AF0 (l:List Th) (hl:l.length≤1000) (q:OA) (b o cap:Nat) (W:World) (hS:Sl W q b o 9 (l.map Th.cells)) (hq0:q=none→cap=0):CC 70 #[.slice q l.length cap] W (News (fun z:OC 9 l.length (l.map Th.cells).flatten=>.slice (ownQ z.1) l.length (ownC z.1)) (fun z=>ownB 145 z.1 (l.map Th.cells).flatten++[]) W):=by
 cases q with
 | none =>
   have hn:l=[]:=by
    cases l with
    | nil=>rfl
    | cons a l=>exact absurd (hS.at' (by simp)) (by simp)
   subst hn;obtain rfl:=hq0 rfl;refine cS func70 ?_;refine st ?_;refine lv (AF2 (e:=145) rfl (by kernel_rfl)) ?_;refine Ly rfl ?_ (fun h=>absurd h (by simp))
   intro c0;clear c0;refine su ?_;exact Ld (chg:=[]) rZ (fun _ hm=>⟨⟨none,OwnOk.start⟩,rfl,hm⟩)
 | some ad =>
   have hfl:(l.map Th.cells).flatten.length=l.length * 9:=Aj8 (f:=Th.cells) (fun _=>rfl) l;refine cS func70 ?_;refine st ?_;refine lv (AA4 rfl DL6) ?_;refine Ly rfl (fun h=>absurd h (by simp)) ?_;intro c0;clear c0;refine st ?_;refine zn (Ap6 Ax9) (fun b5=>?_)
   refine Kh (A:=[]) (B:=_) (x:=(some (b5,0,[]))) (ys:=(l.map Th.cells).flatten) DH6 rfl rfl rfl OwnOk.empty hfl (fun h=>by cases h) (fun w hm=>(hS.mono (by decide) hm (by simp)).flat (by decide)) (AK1 (fun _=>rfl) _) (by simp only [maxLen];omega) (by omega) rfl (fun z7 hz7=>?_)
   refine su ?_;exact Ld (chg:=[]) rZ (fun _ hm=>⟨⟨z7,by simpa using hz7⟩,by rw [Ad3 hz7];simp,hm.pick (Pick.refl _)⟩)
theorem AS1 (l:List Str) (hl:l.length≤1000) (q:OA) (b o cap:Nat) (W:World) (hS:Sl W q b o 1 (l.map strC)) (hq0:q=none→cap=0):CC 79 #[.slice q l.length cap] W (News (fun z:OC 1 l.length (l.map strC).flatten=>.slice (ownQ z.1) l.length (ownC z.1)) (fun z=>ownB 9 z.1 (l.map strC).flatten++[]) W):=by
 cases q with
 | none =>
   have hn:l=[]:=by
    cases l with
    | nil=>rfl
    | cons a l=>exact absurd (hS.at' (by simp)) (by simp)
   subst hn;obtain rfl:=hq0 rfl;refine cS func79 ?_;refine st ?_;refine lv (AF2 (e:=9) rfl (by kernel_rfl)) ?_;refine Ly rfl ?_ (fun h=>absurd h (by simp))
   intro c0;clear c0;refine su ?_;exact Ld (chg:=[]) rZ (fun _ hm=>⟨⟨none,OwnOk.start⟩,rfl,hm⟩)
 | some ad =>
   have hfl:(l.map strC).flatten.length=l.length * 1:=Aj8 (f:=strC) (fun _=>rfl) l;refine cS func79 ?_;refine st ?_;refine lv (AA4 rfl DL5) ?_;refine Ly rfl (fun h=>absurd h (by simp)) ?_;intro c0;clear c0;refine st ?_;refine zn (Ap6 An4) (fun b5=>?_)
   refine Kh (A:=[]) (B:=_) (x:=(some (b5,0,[]))) (ys:=(l.map strC).flatten) CW6 rfl rfl rfl OwnOk.empty hfl (fun h=>by cases h) (fun w hm=>(hS.mono (by decide) hm (by simp)).flat (by decide)) (AK1 (fun _=>rfl) _) (by simp only [maxLen];omega) (by omega) rfl (fun z7 hz7=>?_)
   refine su ?_;exact Ld (chg:=[]) rZ (fun _ hm=>⟨⟨z7,by simpa using hz7⟩,by rw [Ad3 hz7];simp,hm.pick (Pick.refl _)⟩)
theorem Bz8 (l:List Tn) (hl:l.length≤1000) (q:OA) (b o cap:Nat) (W:World) (hS:Sl W q b o 3 (l.map Tn.cells)) (hq0:q=none→cap=0):CC 80 #[.slice q l.length cap] W (News (fun z:OC 3 l.length (l.map Tn.cells).flatten=>.slice (ownQ z.1) l.length (ownC z.1)) (fun z=>ownB 165 z.1 (l.map Tn.cells).flatten++[]) W):=by
 cases q with
 | none =>
   have hn:l=[]:=by
    cases l with
    | nil=>rfl
    | cons a l=>exact absurd (hS.at' (by simp)) (by simp)
   subst hn;obtain rfl:=hq0 rfl;refine cS func80 ?_;refine st ?_;refine lv (AF2 (e:=165) rfl (by kernel_rfl)) ?_;refine Ly rfl ?_ (fun h=>absurd h (by simp))
   intro c0;clear c0;refine su ?_;exact Ld (chg:=[]) rZ (fun _ hm=>⟨⟨none,OwnOk.start⟩,rfl,hm⟩)
 | some ad =>
   have hfl:(l.map Tn.cells).flatten.length=l.length * 3:=Aj8 (f:=Tn.cells) (fun _=>rfl) l;refine cS func80 ?_;refine st ?_;refine lv (AA4 rfl DL4) ?_;refine Ly rfl (fun h=>absurd h (by simp)) ?_;intro c0;clear c0;refine st ?_;refine zn (Ap6 AZ0) (fun b5=>?_)
   refine Kh (A:=[]) (B:=_) (x:=(some (b5,0,[]))) (ys:=(l.map Tn.cells).flatten) DU1 rfl rfl rfl OwnOk.empty hfl (fun h=>by cases h) (fun w hm=>(hS.mono (by decide) hm (by simp)).flat (by decide)) (AK1 (fun _=>rfl) _) (by simp only [maxLen];omega) (by omega) rfl (fun z7 hz7=>?_)
   refine su ?_;exact Ld (chg:=[]) rZ (fun _ hm=>⟨⟨z7,by simpa using hz7⟩,by rw [Ad3 hz7];simp,hm.pick (Pick.refl _)⟩)
theorem BZ5:Enters π 130:=eZ func130
theorem DF6:Enters π 138:=eZ func138
end Go.Q
namespace Go.Dk
open Go Go.Eng Go.RowKit Go.Pw1 Go.Hp
theorem _root_.Go.Eng.Mem.zero {W w:World} {news:Blks} (h:Mem W [] news w):Mem W [] [] w:=h.drop
theorem CB1 {c:Cd} {b:Bn} {i:Nat} {v:Vw} (h:b.views.getD i noVw=v) (hu:v.up=true):trimD c b i = .error 6:=by unfold trimD;rw [h];dsimp only;rw [if_pos hu]
theorem CB0 {c:Cd} {b:Bn} {i:Nat} {v:Vw} (h:b.views.getD i noVw=v) (hu:v.up=false) (he:(trimX (cardV c v)).2 ≠ 0):trimD c b i = .error (trimX (cardV c v)).2:=by unfold trimD;rw [h];dsimp only;rw [if_neg (by rw [hu];decide),if_neg he]
theorem Dc1 {c:Cd} {b:Bn} {i:Nat} {v:Vw} (h:b.views.getD i noVw=v) (hu:v.up=false) (he:(trimX (cardV c v)).2=0):trimD c b i = .ok (putV b i ⟨v.p,(trimX (cardV c v)).1,true⟩,sayX wTrim [(trimX (cardV c v)).1.ll,(trimX (cardV c v)).1.lr,(trimX (cardV c v)).1.rl,(trimX (cardV c v)).1.rr]):=by unfold trimD;rw [h];dsimp only;rw [if_neg (by rw [hu];decide),if_pos he]
theorem Dv6 {b:Bn} {i:Nat} {v:Vw} (h:b.views.getD i noVw=v) (hu:v.up=false):offD b i = .error 6:=by unfold offD;rw [h];dsimp only;rw [if_pos (by rw [hu];decide)]
theorem Dv5 {b:Bn} {i:Nat} {v:Vw} (h:b.views.getD i noVw=v) (hu:v.up=true):offD b i = .ok (putV b i ⟨v.p,noTr,false⟩,sayX wOff [i]):=by unfold offD;rw [h];dsimp only;rw [if_neg (by rw [hu];decide)]
end Go.Dk
namespace Go.Q
open Go Go.Eng Go.Dk Go.RowKit Go.Pw1 Go.Hp
abbrev nO (l:List Int) (r:LV):Obj:=.cells ((l.map intC).flatten++r).toArray 3 (0,0)
abbrev vwsO (vs:List VwX) (r:LV):Obj:=.cells ((vs.map VwX.cells).flatten++r).toArray 46 (0,0)
abbrev dkS (d:DkX):Blks:=ownB 65 d.b (d.bs.map BoX.cells).flatten++((d.bs.map boB).flatten++ownB 165 d.c (d.cs.map Tn.cells).flatten)
abbrev dkG (a b e:Value) (c:Cd):Obj:=.cells ([a,b,e]++(bareC c).cells none 0++[Value.bool true]).toArray 88 (0,0)
abbrev VerbT (W0:World) (xb:Nat) (c:Cd) (ans:Ans) (rest:Blks):Ending→World→Prop :=
 GrowT W0 [] (fun z:DkX×Str=>.string (bs z.2)) (fun z=>dkM xb z.1 c (rest++[])) (fun z=>DkOk z.1∧ans = .ok (z.1.pl,z.2)) dmis (fun z:(Value×Value×Value)×Int=>z.2) (fun z=>(xb,dkG z.1.1 z.1.2.1 z.1.2.2 c)::(rest++[])) (fun z=>ans = .error z.2)
theorem Aq0 {f:FuncId} {args:Array Value} {W0 w:World} {xb:Nat} {d:DkX} {c:Cd} {rest:Blks} {ans:Ans} (hd:DkOk d) (hm:Mem W0 [] (dkM xb d c (rest++[])) w) (h:CC f args w (Try dmis (ansV ans) w)) (hb:∀ b r,ans = .ok (b,r)→b=d.pl):CC f args w (VerbT W0 xb c ans rest) :=
 Ag8 h (by
  rintro e w' ⟨he,hm'⟩
  cases ha:ans with
  | ok z =>
    rw [ha] at he;obtain ⟨b,r⟩:=z;exact .inl ⟨(d,r),⟨hd,by rw [hb b r ha]⟩,he,hm.pass hm'⟩
  | error k =>
    rw [ha] at he;exact .inr ⟨((ownV d.v d.vs.length,ownV d.b d.bs.length,ownV d.c d.cs.length),k),rfl,he,(hm.pass hm').pick (qC (Pick.cnt fun x=>by simp only [List.count_append];omega))⟩)
theorem Bl4 {w:World} {vb:Nat} {vs:List VwX} {vr:LV} (h:w.heap[vb]? = some (vwsO vs vr)):Sl w (some ⟨vb,0,none⟩) vb 0 13 (vs.map VwX.cells):=Sl.rowsR h (fun x hx=>by obtain ⟨v,_,rfl⟩:=List.mem_map.1 hx;rfl)
theorem Cz1 {vs:List VwX} {i:Nat} (hi:i < vs.length) {v v':VwX} (hv:vs[i]=v) (h:vwB v'=vwB v):((vs.set i v').map vwB)=vs.map vwB:=by
 rw [List.map_set,h];subst hv;refine List.ext_getElem (by simp) fun j h1 h2=>?_
 rw [List.getElem_set]
 split
 · rename_i he;subst he;simp
 · rfl
section
variable (xb vb vc:Nat) (vr:LV) (vs:List VwX) (db:Eng.Own) (bs0:List BoX) (dc:Eng.Own) (cs:List Tn) (c:Cd) (nb nc:Nat) (nr:LV) (wv:Value) (rest:Blks) (W0 w:World) (hL:Lw π W0) (hd:DkOk ⟨some (vb,vc,vr),vs,db,bs0,dc,cs⟩)
include hL hd
theorem Cu7 (i:Nat) (hi:i < vs.length) (hm0:Mem W0 [] (dkM xb ⟨some (vb,vc,vr),vs,db,bs0,dc,cs⟩ c ((nb,nO [(i:Int)] nr)::(rest++[]))) w) :
  CC 92 #[pV xb,wv,.slice (some ⟨nb,0,none⟩) 1 nc] w (VerbT W0 xb c (trimD (bareC c) (DkX.pl ⟨some (vb,vc,vr),vs,db,bs0,dc,cs⟩) i) rest):=by
 obtain ⟨v,hv⟩:∃ v,vs[i]=v:=⟨_,rfl⟩;have hvm:v∈vs:=hv ▸ List.getElem_mem hi;have hth:v.p.things.length≤12:=hd.things v hvm;have hpl:(DkX.pl ⟨some (vb,vc,vr),vs,db,bs0,dc,cs⟩).views.getD i noVw=v.pl:=pl_view (d:=⟨some (vb,vc,vr),vs,db,bs0,dc,cs⟩) hi hv;have hok:OwnOk 9 v.t v.p.things.length (v.p.things.map Th.cells).flatten:=hd.vs v hvm;have hm1:Mem W0 [] ((xb,dkO ⟨some (vb,vc,vr),vs,db,bs0,dc,cs⟩ c)::(vb,vwsO vs vr)::(nb,nO [(i:Int)] nr)::((vs.map vwB).flatten++(dkS ⟨some (vb,vc,vr),vs,db,bs0,dc,cs⟩++(rest++[])))) w:=hm0.pick (Pick.cnt fun x=>by simp only [dkM,dkB,dkS,vwsO,ownB,List.count_cons,List.count_append,List.count_nil,Value.I];omega);have hi0:i < (DkX.mk (some (vb,vc,vr)) vs db bs0 dc cs).vs.length:=hi;obtain ⟨t,ht⟩:∃ t,trimX (cardV (bareC c) v.pl)=t:=⟨_,rfl⟩;have hbd:=Dt3 (cardV (bareC c) v.pl);rw [ht] at hbd;have hi1:i < (vs.set i { v with cuts:=t.1 }).length:=by rw [List.length_set];exact hi
 have hv1:(vs.set i { v with cuts:=t.1 })[i]={ v with cuts:=t.1 }:=by simp
 have hsame:((vs.set i { v with cuts:=t.1,up:=true }).map vwB)=vs.map vwB:=Cz1 hi hv rfl;refine Ag9 hm1 func92 rfl rfl ?_;refine st ?_;refine Ab9 8 Ah8 (qE (qC .nil)) ?_;refine zw 0 ?_;refine zw 1 ?_;refine zw 2 ?_;refine zw 3 ?_;refine zw 4 ?_;refine zw 5 ?_;refine zv 6 rfl (Ab1 rfl rfl Af6 (by omega) (by omega)) ?_;refine zw 7 ?_;refine zt ?_;refine zo 8 rfl (Ab1 rfl rfl AL6 (by omega) (by omega)) ?_;refine zp 9 ?_;refine zd ?_;refine st ?_;refine Xh (zF rfl BZ5) (fun w hm=>AI0 (some ⟨vb,0,none⟩) vb 0 _ vs i v v.up w (Bl4 (hm.at mm1)) hi hv rfl (by simp)) (fun e20 he20=>?_) (fun v20 hv20=>?_)
 ·obtain ⟨er20,rfl⟩:=Ac9 he20
  have hu:v.pl.up=true:=(show v.up=true by simpa using er20);refine Aa1 ?_;exact Ae7 ((ownV (some (vb,vc,vr)) vs.length,ownV db bs0.length,ownV dc cs.length),6) (CB1 hpl hu) rfl (qC (Pick.cnt fun x=>by simp only [nC,dkM,dkB,vwsO,nO,dkS,ownB,List.set_set,hsame,Value.I];omega))
 obtain ⟨ok20,rfl⟩:=Ad9 hv20;have hu:v.pl.up=false:=(show v.up=false by simpa using ok20);refine st ?_;refine lu (Ab1 rfl rfl Af6 (by omega) (by omega)) ?_;refine zc (zF rfl By8) (fun w hm=>Av5 xb ⟨some (vb,vc,vr),vs,db,bs0,dc,cs⟩ c w (Am7 hd (hm.pick (news':=dkM xb ⟨some (vb,vc,vr),vs,db,bs0,dc,cs⟩ c (rest++[])) (Pick.cnt fun x=>by simp only [nC,dkM,dkB,vwsO,nO,dkS,ownB,List.set_set,hsame,Value.I];omega))) i v hi hv) ?_;refine zc (zF rfl DF6) (fun w hm=>(by have h:=Cw7 (cardV (bareC c) v.pl) (ownQ v.t) (ownK v.t) 0 (ownC v.t) w ((Am7 hd (hm.pick (news':=dkM xb ⟨some (vb,vc,vr),vs,db,bs0,dc,cs⟩ c (rest++[])) (Pick.cnt fun x=>by simp only [nC,dkM,dkB,vwsO,nO,dkS,ownB,List.set_set,hsame,Value.I];omega))).t v hvm) (show v.p.things.length≤100000000000 by omega);rw [ht] at h;exact h)) ?_;refine zn (Lp An3) (fun b8=>?_)
 refine sQ .here ?_;refine st ?_;refine Xh (zF rfl Au5) (fun w hm=>Ah2 _ w) (fun e31 he31=>?_) (fun v31 hv31=>?_)
 ·obtain ⟨er31,rfl⟩:=An2 he31
  refine Aa1 ?_;exact Ae7 ((ownV (some (vb,vc,vr)) vs.length,ownV db bs0.length,ownV dc cs.length),t.2) (by rw [← ht];exact CB0 hpl hu (by rw [ht];exact er31)) rfl (qD (Pick.cnt fun x=>by simp only [nC,dkM,dkB,vwsO,nO,dkS,ownB,List.set_set,hsame,Value.I];omega))
 obtain ⟨ok31,rfl⟩:=Au3 hv31;refine su ?_;refine Xs (Lt (cs:=(vs.map VwX.cells).flatten++vr) (cs':=((vs.set i { v with cuts:=t.1 }).map VwX.cells).flatten++vr) rfl rfl (.there (.there .here)) Bl5 rfl (Aq1 VwX.cells_len hi hv (j:=8) (by simp) rfl)) ?_;refine su ?_;refine Xs (Lt (cs:=((vs.set i { v with cuts:=t.1 }).map VwX.cells).flatten++vr) (cs':=(((vs.set i { v with cuts:=t.1 }).set i { v with cuts:=t.1,up:=true }).map VwX.cells).flatten++vr) rfl rfl (.there (.there .here)) Cm9 rfl (Aq1 VwX.cells_len hi1 hv1 (j:=12) (by simp) rfl)) ?_;refine st ?_;refine lu (Lz rfl Ap9) ?_
 iterate 3 refine lu (Lz rfl Aw9) ?_
 refine lv (Lz rfl Aw9) ?_;refine zn (Lu (parts:=[(0,.tmp 39),(1,.tmp 42),(2,.tmp 45),(3,.tmp 48),(4,.tmp 51)]) rfl Ap8 Am6 rfl rfl rfl rfl) (fun b52=>?_)
 refine zc (zF rfl An5) (fun w hm=>Ag4 [.s wTrim,.n t.1.ll,.n t.1.lr,.n t.1.rl,.n t.1.rr] _ (An1 wTrim [_,_,_,_]) b52 w (hL.mono (hm.zero)) (hm.at mm0) (by simp) (by intro p hp;simp only [List.mem_cons,List.not_mem_nil,or_false] at hp;rcases hp with rfl | rfl | rfl | rfl | rfl;exact (show wTrim.length≤40 by decide);exact hbd.1;exact hbd.2.1;exact hbd.2.2.1;exact hbd.2.2.2) (by simp [Prt.words])) ?_;exact Am0 (DkX.mk (some (vb,vc,vr)) (vs.set i { v with cuts:=t.1,up:=true }) db bs0 dc cs,sayX wTrim [t.1.ll,t.1.lr,t.1.rl,t.1.rr]) ⟨hd.set (i:=i) (v:={ v with cuts:=t.1,up:=true }) hok hth,by rw [Dc1 hpl hu (by rw [ht];exact ok31),ht];exact congrArg (fun b=>Except.ok (b,sayX wTrim [t.1.ll,t.1.lr,t.1.rl,t.1.rr])) (DkX.pl_set (d:=⟨some (vb,vc,vr),vs,db,bs0,dc,cs⟩) (i:=i) (v:={ v with cuts:=t.1,up:=true })).symm⟩ rZ rfl (by simp only [List.set_set,dkM,dkO,DkX.cells,List.length_set,Value.I];exact (Pick.cnt fun x=>by simp only [nC,dkM,dkB,vwsO,nO,dkS,ownB,List.set_set,hsame,Value.I];omega))
theorem CU4 (i:Nat) (hi:i < vs.length) (hm0:Mem W0 [] (dkM xb ⟨some (vb,vc,vr),vs,db,bs0,dc,cs⟩ c ((nb,nO [(i:Int)] nr)::(rest++[]))) w) :
  CC 94 #[pV xb,wv,.slice (some ⟨nb,0,none⟩) 1 nc] w (VerbT W0 xb c (offD (DkX.pl ⟨some (vb,vc,vr),vs,db,bs0,dc,cs⟩) i) rest):=by
 obtain ⟨v,hv⟩:∃ v,vs[i]=v:=⟨_,rfl⟩;have hvm:v∈vs:=hv ▸ List.getElem_mem hi;have hth:v.p.things.length≤12:=hd.things v hvm;have hpl:(DkX.pl ⟨some (vb,vc,vr),vs,db,bs0,dc,cs⟩).views.getD i noVw=v.pl:=pl_view (d:=⟨some (vb,vc,vr),vs,db,bs0,dc,cs⟩) hi hv;have hok:OwnOk 9 v.t v.p.things.length (v.p.things.map Th.cells).flatten:=hd.vs v hvm;have hm1:Mem W0 [] ((xb,dkO ⟨some (vb,vc,vr),vs,db,bs0,dc,cs⟩ c)::(vb,vwsO vs vr)::(nb,nO [(i:Int)] nr)::((vs.map vwB).flatten++(dkS ⟨some (vb,vc,vr),vs,db,bs0,dc,cs⟩++(rest++[])))) w:=hm0.pick (Pick.cnt fun x=>by simp only [dkM,dkB,dkS,vwsO,ownB,List.count_cons,List.count_append,List.count_nil,Value.I];omega);have hi0:i < (DkX.mk (some (vb,vc,vr)) vs db bs0 dc cs).vs.length:=hi;have hfew:=hd.few.1;have hi1:i < (vs.set i { v with cuts:=noTr }).length:=by rw [List.length_set];exact hi
 have hv1:(vs.set i { v with cuts:=noTr })[i]={ v with cuts:=noTr }:=by simp
 have hsame:((vs.set i { v with cuts:=noTr,up:=false }).map vwB)=vs.map vwB:=Cz1 hi hv rfl;refine Ag9 hm1 func94 rfl rfl ?_;refine st ?_;refine Ab9 8 Ah8 (qE (qC .nil)) ?_;refine zw 0 ?_;refine zw 1 ?_;refine zw 2 ?_;refine zw 3 ?_;refine zw 4 ?_;refine zw 5 ?_;refine zv 6 rfl (Ab1 rfl rfl Af6 (by omega) (by omega)) ?_;refine zw 7 ?_;refine zt ?_;refine zo 8 rfl (Ab1 rfl rfl AL6 (by omega) (by omega)) ?_;refine zp 9 ?_;refine zd ?_;refine st ?_;refine Xh (zF rfl CT0) (fun w hm=>AX9 (some ⟨vb,0,none⟩) vb 0 _ vs i v v.up w (Bl4 (hm.at mm1)) hi hv rfl (by simp)) (fun e18 he18=>?_) (fun v18 hv18=>?_)
 ·obtain ⟨er18,rfl⟩:=Ac9 he18
  have hu:v.pl.up=false:=er18;refine Aa1 ?_;exact Ae7 ((ownV (some (vb,vc,vr)) vs.length,ownV db bs0.length,ownV dc cs.length),6) (Dv6 hpl hu) rfl (qC (Pick.cnt fun x=>by simp only [nC,dkM,dkB,vwsO,nO,dkS,ownB,List.set_set,hsame,Value.I];omega))
 obtain ⟨ok18,rfl⟩:=Ad9 hv18;have hu:v.pl.up=true:=ok18;refine st ?_;refine lu (Lr (parts:=[]) rfl An3 AG8 rfl) ?_;refine Xs (Lt (cs:=(vs.map VwX.cells).flatten++vr) (cs':=((vs.set i { v with cuts:=noTr }).map VwX.cells).flatten++vr) rfl rfl (.there .here) Bl5 rfl (Aq1 VwX.cells_len hi hv (j:=8) (by simp) rfl)) ?_;refine su ?_;refine Xs (Lt (cs:=((vs.set i { v with cuts:=noTr }).map VwX.cells).flatten++vr) (cs':=(((vs.set i { v with cuts:=noTr }).set i { v with cuts:=noTr,up:=false }).map VwX.cells).flatten++vr) rfl rfl (.there .here) Cm9 rfl (Aq1 VwX.cells_len hi1 hv1 (j:=12) (by simp) rfl)) ?_;refine st ?_;refine lv (Lz rfl Ap9) ?_;refine lu (Ab1 rfl rfl Af6 (by omega) (by omega)) ?_;refine lv (Lz rfl Aw9) ?_;refine zn (Lu (parts:=[(0,.tmp 26),(1,.tmp 30)]) rfl Ap8 Am6 rfl rfl rfl rfl) (fun b31=>?_)
 refine zc (zF rfl An5) (fun w hm=>Ag4 [.s wOff,.n (i:Int)] _ (An1 wOff [_]) b31 w (hL.mono (hm.zero)) (hm.at mm0) (by simp) (by intro p hp;simp only [List.mem_cons,List.not_mem_nil,or_false] at hp;rcases hp with rfl | rfl;exact (show wOff.length≤40 by decide);exact (show In64 (i:Int) from ⟨by omega,by simp only at hfew;omega⟩)) (by simp [Prt.words])) ?_;exact Am0 (DkX.mk (some (vb,vc,vr)) (vs.set i { v with cuts:=noTr,up:=false }) db bs0 dc cs,sayX wOff [(i:Int)]) ⟨hd.set (i:=i) (v:={ v with cuts:=noTr,up:=false }) hok hth,by rw [Dv5 hpl hu];exact congrArg (fun b=>Except.ok (b,sayX wOff [(i:Int)])) (DkX.pl_set (d:=⟨some (vb,vc,vr),vs,db,bs0,dc,cs⟩) (i:=i) (v:={ v with cuts:=noTr,up:=false })).symm⟩ rZ rfl (by simp only [List.set_set,dkM,dkO,DkX.cells,List.length_set,Value.I];exact (Pick.cnt fun x=>by simp only [nC,dkM,dkB,vwsO,nO,dkS,ownB,List.set_set,hsame,Value.I];omega))
end
theorem AJ7:placesB π 143=some [(0,2),(2,2)]:=by kernel_rfl
theorem Bo5:placesB π 145=some [(0,4),(4,4),(8,1)]:=by kernel_rfl
theorem Ba0:zeroB π 143=some [.I 0,.I 0,.I 0,.I 0]:=by kernel_rfl
end Go.Q
namespace Go.Dk
open Go Go.Eng Go.RowKit Go.Pw1 Go.Hp
theorem BG8 {α β:Type} {f:α→β} {l:List α} {i:Nat} (hi:i < l.length) {a a':α} (ha:l[i]=a) (h:f a'=f a):(l.set i a').map f=l.map f:=by
 rw [List.map_set,h];subst ha;refine List.ext_getElem (by simp) fun j h1 h2=>?_
 rw [List.getElem_set]
 split
 · rename_i he;subst he;simp
 · rfl
section
variable {b:Bn} {i k:Nat} {v:Vw} {far:Int} (h:b.views.getD i noVw=v)
include h
theorem CJ2 (hk:¬ k < v.p.things.length):markD b i k far = .error 2:=by unfold markD;rw [h];dsimp only;rw [if_pos hk]
theorem CJ1 (hk:k < v.p.things.length) (hu:v.up=true):markD b i k far = .error 6:=by unfold markD;rw [h];dsimp only;rw [if_neg (fun h=>h hk),if_pos hu]
theorem CJ0 (hk:k < v.p.things.length) (hu:v.up=false) {p:Pr} (hp:{ v.p with things:=v.p.things.modify k fun t=>{ t with far:=far } }=p) (he:(powerX p).2 ≠ 0):markD b i k far = .error (powerX p).2:=by subst hp;unfold markD;rw [h];dsimp only;rw [if_neg (fun h=>h hk),if_neg (by rw [hu];decide),if_neg he]
theorem Dg9 (hk:k < v.p.things.length) (hu:v.up=false) {p:Pr} (hp:{ v.p with things:=v.p.things.modify k fun t=>{ t with far:=far } }=p) (he:(powerX p).2=0):markD b i k far = .ok (putV b i { v with p:=p },sayX wMark [(powerX p).1.1,(powerX p).1.2]):=by subst hp;unfold markD;rw [h];dsimp only;rw [if_neg (fun h=>h hk),if_neg (by rw [hu];decide),if_pos he]
variable {x1 x2 y1 y2:Int}
theorem Cn5 (hu:v.up=true):thingD b i x1 x2 y1 y2 = .error 6:=by unfold thingD;rw [h];dsimp only;rw [if_pos hu]
theorem Cn4 (hu:v.up=false) (hk:¬ v.p.things.length < 12):thingD b i x1 x2 y1 y2 = .error 9:=by unfold thingD;rw [h];dsimp only;rw [if_neg (by rw [hu];decide),if_pos hk]
theorem Cn3 (hu:v.up=false) (hk:v.p.things.length < 12) {p:Pr} (hp:{ v.p with things:=v.p.things++[⟨⟨x1,x2⟩,⟨0,0⟩,⟨y1,y2⟩,⟨0,0⟩,0⟩] }=p) (he:(whyX p v.p.things.length).2 ≠ 0):thingD b i x1 x2 y1 y2 = .error (whyX p v.p.things.length).2:=by subst hp;unfold thingD;rw [h];dsimp only;rw [if_neg (by rw [hu];decide),if_neg (fun h=>h hk),if_neg he]
theorem CB4 (hu:v.up=false) (hk:v.p.things.length < 12) {p:Pr} (hp:{ v.p with things:=v.p.things++[⟨⟨x1,x2⟩,⟨0,0⟩,⟨y1,y2⟩,⟨0,0⟩,0⟩] }=p) (he:(whyX p v.p.things.length).2=0):thingD b i x1 x2 y1 y2 = .ok (putV b i { v with p:=p },sayX wThing [v.p.things.length,(whyX p v.p.things.length).1]):=by subst hp;unfold thingD;rw [h];dsimp only;rw [if_neg (by rw [hu];decide),if_neg (fun h=>h hk),if_pos he]
end
end Go.Dk
namespace Go.Q
open Go Go.Eng Go.Dk Go.RowKit Go.Pw1 Go.Hp
def othV (vs:List VwX) (i:Nat):Blks:=((vs.take i).map vwB).flatten++((vs.drop (i + 1)).map vwB).flatten
theorem Ch0 (vs:List VwX) (i:Nat) (v:VwX):othV (vs.set i v) i=othV vs i:=by
 unfold othV;rw [List.take_set_of_le (Nat.le_refl i),List.drop_set_of_lt (Nat.lt_succ_self i)]
open Classical in
theorem AO9 {vs:List VwX} {i:Nat} (hi:i < vs.length) {v:VwX} (hv:vs[i]=v) (x:Nat×Obj):(vs.map vwB).flatten.count x=(vwB v).count x + (othV vs i).count x:=by
 subst hv;unfold othV
 conv=>lhs;rw [← List.take_append_drop i vs,List.drop_eq_getElem_cons hi]
 simp only [List.map_append,List.map_cons,List.flatten_append,List.flatten_cons,List.count_append];omega
abbrev dthO (l:List Th) (r:LV):Obj:=.cells ((l.map Th.cells).flatten++r).toArray 145 (0,0)
theorem BF2 (p p2:Pr) (l:List Th) (hp:p2={ p with things:=l }) (n:Nat) (hn:l.length=n) (q:OA) (b o cap:Nat) (W:World) (hS:Sl W q b o 9 (l.map Th.cells)) (hl:l.length≤100000000000) :
  CC 110 #[.agg [.I p.focal.lo,.I p.focal.hi,.I p.base.lo,.I p.base.hi,.I p.tilt,.I p.near,.I p.far,.slice q n cap].toArray] W (Pure (.tuple #[b2v (powerX p2).1,.I (powerX p2).2]) W):=by
 subst hn hp;exact AF4 { p with things:=l } q b o cap W hS hl
theorem Cm2 (p:Pr) (n:Int) (z:Eng.Own) (h:OwnOk 9 z p.things.length (p.things.map Th.cells).flatten) (W:World) (hS:∀ b o,(b,o)∈ownB 145 z (p.things.map Th.cells).flatten→W.heap[b]? = some o) (hl:p.things.length≤100000000000) :
  CC 131 #[.agg [.I p.focal.lo,.I p.focal.hi,.I p.base.lo,.I p.base.hi,.I p.tilt,.I p.near,.I p.far,ownV z p.things.length].toArray,.I n] W (Pure (.tuple #[.I (whyX p n).1,.I (whyX p n).2]) W):=by
 rw [Ad3 h];exact BO6 p n (ownQ z) (ownK z) 0 (ownC z) W (Am3 (f:=Th.cells) (e:=145) (fun _=>rfl) (by decide) h hS) hl
section
variable (xb vb vc:Nat) (vr:LV) (vs:List VwX) (db:Eng.Own) (bs0:List BoX) (dc:Eng.Own) (cs:List Tn) (c:Cd) (nb nc:Nat) (nr:LV) (wv:Value) (rest:Blks) (W0 w:World) (hL:Lw π W0) (hd:DkOk ⟨some (vb,vc,vr),vs,db,bs0,dc,cs⟩)
include hL hd
theorem Dk7 (i k:Nat) (far:Int) (hi:i < vs.length) (hk:¬ k < (vs[i]).p.things.length) (hm0:Mem W0 [] (dkM xb ⟨some (vb,vc,vr),vs,db,bs0,dc,cs⟩ c ((nb,nO [(i:Int),(k:Int),far] nr)::(rest++[]))) w) :
  CC 88 #[pV xb,wv,.slice (some ⟨nb,0,none⟩) 3 nc] w (VerbT W0 xb c (markD (DkX.pl ⟨some (vb,vc,vr),vs,db,bs0,dc,cs⟩) i k far) rest):=by
 obtain ⟨v,hv⟩:∃ v,vs[i]=v:=⟨_,rfl⟩;have hvm:v∈vs:=hv ▸ List.getElem_mem hi;have hth:v.p.things.length≤12:=hd.things v hvm;have hpl:(DkX.pl ⟨some (vb,vc,vr),vs,db,bs0,dc,cs⟩).views.getD i noVw=v.pl:=pl_view (d:=⟨some (vb,vc,vr),vs,db,bs0,dc,cs⟩) hi hv;have hok:OwnOk 9 v.t v.p.things.length (v.p.things.map Th.cells).flatten:=hd.vs v hvm;have hi0:i < (DkX.mk (some (vb,vc,vr)) vs db bs0 dc cs).vs.length:=hi;have hcn:=AO9 hi hv;have hm1:Mem W0 [] ((xb,dkO ⟨some (vb,vc,vr),vs,db,bs0,dc,cs⟩ c)::(vb,vwsO vs vr)::(nb,nO [(i:Int),(k:Int),far] nr)::(vwB v++(othV vs i++(dkS ⟨some (vb,vc,vr),vs,db,bs0,dc,cs⟩++(rest++[]))))) w:=hm0.pick (Pick.cnt fun x=>by have:=hcn x;simp only [dkM,dkB,dkS,vwsO,ownB,List.count_cons,List.count_append,List.count_nil,Value.I] at this ⊢;omega);rw [hv] at hk;refine Ag9 hm1 func88 rfl rfl ?_;refine st ?_;refine Ab9 7 Ah8 (qE (qC .nil)) ?_;refine zw 0 ?_;refine zw 1 ?_;refine zv 2 rfl (Ab1 rfl rfl Af6 (by omega) (by omega)) ?_;refine zw 3 ?_;refine zw 4 ?_;refine zv 5 rfl (Ab1 rfl rfl Af6 (by omega) (by omega)) ?_;refine zw 6 ?_;refine zt ?_;refine zB 7 ?_;refine Xi rfl (zF rfl BZ4) (fun w hm=>AB2 xb ⟨some (vb,vc,vr),vs,db,bs0,dc,cs⟩ c w (Am7 hd (hm.pick (news':=dkM xb ⟨some (vb,vc,vr),vs,db,bs0,dc,cs⟩ c (rest++[])) (Pick.cnt fun x=>by simp only [nC,dkM,dkB,vwsO,nO,dkS,ownB,hcn,Value.I];omega))) i k v hi hv) (fun e17 he17=>?_) (fun v17 hv17=>(Ab2 ?_))
 ·obtain ⟨er17,rfl⟩:=Ac9 he17
  refine Aa1 ?_;exact Ae7 ((ownV (some (vb,vc,vr)) vs.length,ownV db bs0.length,ownV dc cs.length),2) (CJ2 hpl hk) rfl (qC (Pick.cnt fun x=>by simp only [nC,dkM,dkB,vwsO,nO,dkS,ownB,hcn,Value.I];omega))
 exact absurd (of_decide_eq_true (Ad9 hv17).1) (by omega)
theorem Cu9 (i k:Nat) (far:Int) (hi:i < vs.length) (hm0:Mem W0 [] (dkM xb ⟨some (vb,vc,vr),vs,db,bs0,dc,cs⟩ c ((nb,nO [(i:Int),(k:Int),far] nr)::(rest++[]))) w) :
  CC 88 #[pV xb,wv,.slice (some ⟨nb,0,none⟩) 3 nc] w (VerbT W0 xb c (markD (DkX.pl ⟨some (vb,vc,vr),vs,db,bs0,dc,cs⟩) i k far) rest):=by
 by_cases hk:k < (vs[i]).p.things.length
 case neg=>exact Dk7 xb vb vc vr vs db bs0 dc cs c nb nc nr wv rest W0 w hL hd i k far hi hk hm0
 obtain ⟨v,hv⟩:∃ v,vs[i]=v:=⟨_,rfl⟩;have hvm:v∈vs:=hv ▸ List.getElem_mem hi;have hth:v.p.things.length≤12:=hd.things v hvm;have hpl:(DkX.pl ⟨some (vb,vc,vr),vs,db,bs0,dc,cs⟩).views.getD i noVw=v.pl:=pl_view (d:=⟨some (vb,vc,vr),vs,db,bs0,dc,cs⟩) hi hv;have hok:OwnOk 9 v.t v.p.things.length (v.p.things.map Th.cells).flatten:=hd.vs v hvm;have hi0:i < (DkX.mk (some (vb,vc,vr)) vs db bs0 dc cs).vs.length:=hi;have hcn:=AO9 hi hv;have hm1:Mem W0 [] ((xb,dkO ⟨some (vb,vc,vr),vs,db,bs0,dc,cs⟩ c)::(vb,vwsO vs vr)::(nb,nO [(i:Int),(k:Int),far] nr)::(vwB v++(othV vs i++(dkS ⟨some (vb,vc,vr),vs,db,bs0,dc,cs⟩++(rest++[]))))) w:=hm0.pick (Pick.cnt fun x=>by have:=hcn x;simp only [dkM,dkB,dkS,vwsO,ownB,List.count_cons,List.count_append,List.count_nil,Value.I] at this ⊢;omega);rw [hv] at hk;obtain ⟨tb,tc,tr,ht,-,-,-⟩:=hok.has (by omega);obtain ⟨p,vt,vcu,vup⟩:=v;dsimp only at ht hk hok hth;subst ht;obtain ⟨th,hthk⟩:∃ th,p.things[k]=th:=⟨_,rfl⟩;obtain ⟨p2,hp2⟩:∃ p2:Pr,p2={ p with things:=p.things.set k { th with far:=far } }:=⟨_,rfl⟩;have hpm:{ p with things:=p.things.modify k fun t=>{ t with far:=far } }=p2:=by rw [hp2,Cs6 hk hthk]
 have hpn:p2.things.length=p.things.length:=by rw [hp2];exact List.length_set
 have hpt:p2.things=p.things.set k { th with far:=far }:=by rw [hp2]
 have hbd:=De7 p2;obtain ⟨v2,hv2⟩:∃ v2:VwX,v2=⟨p2,some (tb,tc,tr),vcu,vup⟩:=⟨_,rfl⟩;have hcs:v2.cells=VwX.cells ⟨p,some (tb,tc,tr),vcu,vup⟩:=by rw [hv2,hp2];simp only [VwX.cells,List.length_set]
 have hvs:(vs.set i v2).map VwX.cells=vs.map VwX.cells:=BG8 hi hv hcs
 have hok2:OwnOk 9 v2.t v2.p.things.length (v2.p.things.map Th.cells).flatten:=by
  rw [hv2]
  show OwnOk 9 _ p2.things.length (p2.things.map Th.cells).flatten
  rw [hpn];exact BV4 hok (by rw [Aj8 (f:=Th.cells) (sz:=9) (fun _=>rfl),Aj8 (f:=Th.cells) (sz:=9) (fun _=>rfl),hpn])
 have hcn2:=AO9 (vs:=vs.set i v2) (i:=i) (by rw [List.length_set];exact hi) (v:=v2) (by simp);have hb2:vwB v2=[(tb,dthO (p.things.set k { th with far:=far }) tr)]:=by rw [hv2,hp2];rfl
 rw [Ch0,hb2] at hcn2;refine Ag9 hm1 func88 rfl rfl ?_;refine st ?_;refine Ab9 7 Ah8 (qE (qC .nil)) ?_;refine zw 0 ?_;refine zw 1 ?_;refine zv 2 rfl (Ab1 rfl rfl Af6 (by omega) (by omega)) ?_;refine zw 3 ?_;refine zw 4 ?_;refine zv 5 rfl (Ab1 rfl rfl Af6 (by omega) (by omega)) ?_;refine zw 6 ?_;refine zt ?_;refine zB 7 ?_;refine Xi rfl (zF rfl BZ4) (fun w hm=>AB2 xb ⟨some (vb,vc,vr),vs,db,bs0,dc,cs⟩ c w (Am7 hd (hm.pick (news':=dkM xb ⟨some (vb,vc,vr),vs,db,bs0,dc,cs⟩ c (rest++[])) (Pick.cnt fun x=>by simp only [nC,dkM,dkB,vwsO,nO,dkS,ownB,hcn,Value.I];omega))) i k _ hi hv) (fun e17 he17=>?_) (fun v17 hv17=>(Ab2 ?_))
 ·obtain ⟨er17,rfl⟩:=Ac9 he17
  refine Aa1 ?_;exact absurd (of_decide_eq_false er17) (fun h=>h (show (k:Int) < (p.things.length:Int) by omega))
 obtain ⟨ok17,rfl⟩:=Ad9 hv17;refine zd ?_;refine st ?_;refine Ab9 8 Ah8 (qE (qC .nil)) ?_;refine zw 0 ?_;refine zw 1 ?_;refine zw 2 ?_;refine zw 3 ?_;refine zw 4 ?_;refine zw 5 ?_;refine zv 6 rfl (Ab1 rfl rfl Af6 (by omega) (by omega)) ?_;refine zw 7 ?_;refine zt ?_;refine zo 8 rfl (Ab1 rfl rfl AL6 (by omega) (by omega)) ?_;refine zp 9 ?_;refine zd ?_;refine st ?_;refine Xh (zF rfl BZ5) (fun w hm=>AI0 (some ⟨vb,0,none⟩) vb 0 _ vs i _ vup w (Bl4 (hm.at mm1)) hi hv rfl (by simp)) (fun e28 he28=>?_) (fun v28 hv28=>?_)
 ·obtain ⟨er28,rfl⟩:=Ac9 he28
  have hu:vup=true:=by simpa using er28
  refine Aa1 ?_;exact Ae7 ((ownV (some (vb,vc,vr)) vs.length,ownV db bs0.length,ownV dc cs.length),6) (CJ1 hpl hk hu) rfl (qC (Pick.cnt fun x=>by simp only [nC,dkM,dkB,vwsO,nO,dkS,ownB,hcn,Value.I];omega))
 obtain ⟨ok28,rfl⟩:=Ad9 hv28;have hu:vup=false:=by simpa using ok28
 refine st ?_;refine Ab9 11 Ah8 (qE (qC .nil)) ?_;refine zw 0 ?_;refine zw 1 ?_;refine zw 2 ?_;refine zw 3 ?_;refine zv 4 rfl (Aa5 rfl (fun w hm=>(Bl4 (hm.at mm1)).cellE (Mem.refl w) (by simp) AD3 hi hv (j:=7) (by decide) (v:=.slice (some ⟨tb,0,none⟩) p.things.length tc) rfl (by simp))) ?_;refine zw 5 ?_;refine zv 6 rfl (Ab1 rfl rfl Af6 (by omega) (by omega)) ?_;refine zw 7 ?_;refine zw 8 ?_;refine zv 9 rfl (Ab1 rfl rfl Af6 (by omega) (by omega)) ?_;refine zw 10 ?_;refine zt ?_;refine zo 11 rfl (Ab1 rfl rfl Ax9 (by omega) (by omega)) ?_;refine zp 12 ?_;refine zB 13 ?_;refine Xr rfl (Lt (cs:=(p.things.map Th.cells).flatten++tr) (cs':=((p.things.set k { th with far:=far }).map Th.cells).flatten++tr) rfl rfl (.there (.there (.there .here))) Ae0 rfl (Aq1 Dt5 hk hthk (j:=8) (by simp) rfl)) (Ab2 ?_)
 refine zd ?_;refine su ?_;refine lv (Aa5 rfl (fun w hm=>(Bl4 (hm.at mm1)).loadPart (Mem.refl w) (by simp) Bc7 hi hv (j:=0) (by decide) (vs:=[.I p.focal.lo,.I p.focal.hi,.I p.base.lo,.I p.base.hi,.I p.tilt,.I p.near,.I p.far,.slice (some ⟨tb,0,none⟩) p.things.length tc]) rfl (by decide) (by simp))) ?_;refine zc (zF rfl Bz0) (fun w hm=>BF2 p p2 (p.things.set k { th with far:=far }) hp2 p.things.length List.length_set (some ⟨tb,0,none⟩) tb 0 tc w (Sl.rowsR (hm.at mm3) (fun x hx=>by obtain ⟨t,_,rfl⟩:=List.mem_map.1 hx;rfl)) (by rw [List.length_set];omega)) ?_;refine zn (Lp Ad6) (fun b8=>?_)
 refine sQ .here ?_;refine st ?_;refine Xh (zF rfl Au5) (fun w hm=>Ah2 _ w) (fun e51 he51=>?_) (fun v51 hv51=>?_)
 ·obtain ⟨er51,rfl⟩:=An2 he51
  refine Aa1 ?_;exact Ae7 ((ownV (some (vb,vc,vr)) vs.length,ownV db bs0.length,ownV dc cs.length),(powerX p2).2) (CJ0 hpl hk hu hpm er51) rfl (qD (Pick.cnt fun x=>by simp only [nC,dkM,dkB,vwsO,nO,dkS,ownB,hcn,Value.I];omega))
 obtain ⟨ok51,rfl⟩:=Au3 hv51;refine st ?_;refine lu (Lz rfl Ap9) ?_;refine lv (Lz rfl BV7) ?_;refine zn (Lu (parts:=[(0,.tmp 52),(1,.tmp 54)]) rfl Ap8 Am6 rfl rfl rfl rfl) (fun b55=>?_)
 refine zc (zF rfl An5) (fun w hm=>Ag4 [.s wMark,.sp (powerX p2).1.1 (powerX p2).1.2] _ (An1 wMark [_,_]) b55 w (hL.mono (hm.zero)) (hm.at mm0) (by simp) (by intro p hp;simp only [List.mem_cons,List.not_mem_nil,or_false] at hp;rcases hp with rfl | rfl;exact (show wMark.length≤40 by decide);exact hbd) (by simp [Prt.words])) ?_;exact Am0 (DkX.mk (some (vb,vc,vr)) (vs.set i v2) db bs0 dc cs,sayX wMark [(powerX p2).1.1,(powerX p2).1.2]) ⟨hd.set (i:=i) (v:=v2) hok2 (by rw [hv2];show p2.things.length≤12;omega),by rw [Dg9 hpl hk hu hpm ok51];exact congrArg (fun b=>Except.ok (b,sayX wMark [(powerX p2).1.1,(powerX p2).1.2])) (by rw [DkX.pl_set (d:=⟨some (vb,vc,vr),vs,db,bs0,dc,cs⟩),hv2];rfl)⟩ rZ rfl (Pick.cnt fun x=>by have hc1:=hcn2 x;simp only [dkM,dkO,dkB,DkX.cells,dkS,ownB,vwsO,dthO,List.length_set,hvs,nC,Value.I] at hc1 ⊢;omega)
theorem Ca2 (i:Nat) (a1 a2 a3 a4:Int) (hi:i < vs.length) (hm0:Mem W0 [] (dkM xb ⟨some (vb,vc,vr),vs,db,bs0,dc,cs⟩ c ((nb,nO [(i:Int),a1,a2,a3,a4] nr)::(rest++[]))) w) :
  CC 87 #[pV xb,wv,.slice (some ⟨nb,0,none⟩) 5 nc] w (VerbT W0 xb c (thingD (DkX.pl ⟨some (vb,vc,vr),vs,db,bs0,dc,cs⟩) i a1 a2 a3 a4) rest):=by
 obtain ⟨v,hv⟩:∃ v,vs[i]=v:=⟨_,rfl⟩;have hvm:v∈vs:=hv ▸ List.getElem_mem hi;have hth:v.p.things.length≤12:=hd.things v hvm;have hpl:(DkX.pl ⟨some (vb,vc,vr),vs,db,bs0,dc,cs⟩).views.getD i noVw=v.pl:=pl_view (d:=⟨some (vb,vc,vr),vs,db,bs0,dc,cs⟩) hi hv;have hok:OwnOk 9 v.t v.p.things.length (v.p.things.map Th.cells).flatten:=hd.vs v hvm;have hi0:i < (DkX.mk (some (vb,vc,vr)) vs db bs0 dc cs).vs.length:=hi;have hcn:=AO9 hi hv;have hm1:Mem W0 [] ((xb,dkO ⟨some (vb,vc,vr),vs,db,bs0,dc,cs⟩ c)::(vb,vwsO vs vr)::(nb,nO [(i:Int),a1,a2,a3,a4] nr)::(vwB v++(othV vs i++(dkS ⟨some (vb,vc,vr),vs,db,bs0,dc,cs⟩++(rest++[]))))) w:=hm0.pick (Pick.cnt fun x=>by have:=hcn x;simp only [dkM,dkB,dkS,vwsO,ownB,List.count_cons,List.count_append,List.count_nil,Value.I] at this ⊢;omega);obtain ⟨th,hte⟩:∃ th:Th,th=⟨⟨a1,a2⟩,⟨0,0⟩,⟨a3,a4⟩,⟨0,0⟩,0⟩:=⟨_,rfl⟩;obtain ⟨p2,hp2⟩:∃ p2:Pr,p2={ v.p with things:=v.p.things++[th] }:=⟨_,rfl⟩;have hpm:{ v.p with things:=v.p.things++[⟨⟨a1,a2⟩,⟨0,0⟩,⟨a3,a4⟩,⟨0,0⟩,0⟩] }=p2:=by rw [hp2,hte]
 have hpt:p2.things=v.p.things++[th]:=by rw [hp2]
 have hpn:p2.things.length=v.p.things.length + 1:=by rw [hpt,List.length_append];rfl
 have hpf:(p2.things.map Th.cells).flatten=(v.p.things.map Th.cells).flatten++th.cells:=by rw [hpt];simp
 have hbd:=DI9 p2 (v.p.things.length:Int)
 have hps:∀ z:Eng.Own,paste v.cells 7 [ownV z (v.p.things.length + 1)]=some (VwX.cells { v with p:=p2,t:=z }):=fun z=>by
  rw [Aw7 (Af3 _ _) (show 7 < v.cells.length from (by rw [VwX.cells_len];decide))];simp only [VwX.cells,hpn];rw [hp2];rfl
 refine Ag9 hm1 func87 rfl rfl ?_;refine st ?_;refine Ab9 8 Ah8 (qC (qD .nil)) ?_;refine zw 0 ?_;refine zw 1 ?_;refine zw 2 ?_;refine zw 3 ?_;refine zw 4 ?_;refine zw 5 ?_;refine zv 6 rfl (Ab1 rfl rfl Af6 (by omega) (by omega)) ?_;refine zw 7 ?_;refine zt ?_;refine zo 8 rfl (Ab1 rfl rfl AL6 (by omega) (by omega)) ?_;refine zp 9 ?_;refine zd ?_;refine st ?_;refine Xh (zF rfl BZ5) (fun w hm=>AI0 (some ⟨vb,0,none⟩) vb 0 _ vs i v v.up w (Bl4 (hm.at mm1)) hi hv rfl (by simp)) (fun e21 he21=>?_) (fun v21 hv21=>?_)
 ·obtain ⟨er21,rfl⟩:=Ac9 he21
  have hu:v.pl.up=true:=(show v.up=true by simpa using er21);refine Aa1 ?_;exact Ae7 ((ownV (some (vb,vc,vr)) vs.length,ownV db bs0.length,ownV dc cs.length),6) (Cn5 hpl hu) rfl (qC (Pick.cnt fun x=>by simp only [nC,dkM,dkB,vwsO,nO,dkS,ownB,hcn,Value.I];omega))
 obtain ⟨ok21,rfl⟩:=Ad9 hv21;have hu:v.pl.up=false:=(show v.up=false by simpa using ok21);refine su ?_;refine lv (Aa5 rfl (fun w hm=>(Bl4 (hm.at mm1)).cellE (Mem.refl w) (by simp) AD3 hi hv (j:=7) (by decide) (v:=ownV v.t v.p.things.length) rfl (by simp))) ?_;refine lv (Ak0 rfl Ax9 hok) ?_;refine Xh (zF rfl Al1) (fun w hm=>Ad7 _ _ w) (fun e30 he30=>?_) (fun v30 hv30=>?_)
 ·obtain ⟨er30,rfl⟩:=Ac9 he30
  have hk:¬ v.p.things.length < 12:=by have:=of_decide_eq_false er30;omega
  refine Aa1 ?_;exact Ae7 ((ownV (some (vb,vc,vr)) vs.length,ownV db bs0.length,ownV dc cs.length),9) (Cn4 hpl hu hk) rfl (qC (Pick.cnt fun x=>by simp only [nC,dkM,dkB,vwsO,nO,dkS,ownB,hcn,Value.I];omega))
 obtain ⟨ok30,rfl⟩:=Ad9 hv30;have hk:v.p.things.length < 12:=by have:=of_decide_eq_true ok30;omega
 refine st ?_;refine Am2 (X:=Eng.Own) 25 (n0:=[(xb,_),(nb,_)]) (fun z q=>q) (fun z=>[]) (fun z=>[(vb,vwsO (vs.set i { v with p:=p2,t:=z }) vr)]) (fun z=>ownB 145 z ((v.p.things.map Th.cells).flatten++th.cells)++(othV vs i++(dkS ⟨some (vb,vc,vr),vs,db,bs0,dc,cs⟩++(rest++[])))) (fun z=>OwnOk 9 z (v.p.things.length + 1) ((v.p.things.map Th.cells).flatten++th.cells)) Ah8 (qC (qD .nil)) (zS 0 rfl (zS 1 rfl (zS 2 rfl (zS 7 rfl (zS 8 rfl (Sub.nil _)))))) (qC (qD .nil)) ?_ ?_
 ·refine zw 0 ?_
  refine zw 1 ?_;refine zw 2 ?_;refine zw 3 ?_;refine zw 4 ?_;refine zw 6 ?_;refine zv 7 rfl (Ab1 rfl rfl Af6 (by omega) (by omega)) ?_;refine zw 8 ?_;refine zw 9 ?_;refine zv 10 rfl (Ab1 rfl rfl Af6 (by omega) (by omega)) ?_;refine zw 11 ?_;refine zv 12 rfl (Lr (parts:=[(0,.tmp 39),(1,.tmp 42)]) rfl Ad6 Ak3 rfl) ?_;refine zv 13 rfl (Lr (parts:=[(0,.tmp 43)]) rfl Ba0 AJ7 rfl) ?_;refine zw 14 ?_;refine zv 15 rfl (Ab1 rfl rfl Af6 (by omega) (by omega)) ?_;refine zw 16 ?_;refine zw 17 ?_;refine zv 18 rfl (Ab1 rfl rfl Af6 (by omega) (by omega)) ?_;refine zw 19 ?_;refine zv 20 rfl (Lr (parts:=[(0,.tmp 47),(1,.tmp 50)]) rfl Ad6 Ak3 rfl) ?_;refine zv 21 rfl (Lr (parts:=[(0,.tmp 51)]) rfl Ba0 AJ7 rfl) ?_;refine zv 22 rfl (Lr (parts:=[(0,.tmp 44),(1,.tmp 52)]) rfl Al0 Bo5 rfl) ?_;refine Af7 (rs:=[5,23]) (by kernel_rfl) (by simp) (by kernel_rfl) (fun m hm=>?_)
  simp only [List.mem_cons,List.not_mem_nil,or_false] at hm
  rcases hm with rfl | rfl
  ·refine Xc rfl (Aa5 rfl (fun w hm=>(Bl4 (hm.at mm1)).cellE (Mem.refl w) (by simp) AD3 hi hv (j:=7) (by decide) (v:=ownV v.t v.p.things.length) rfl (by simp))) (Aa2 (qC (qD .nil)) (qE .nil) rfl ?_)
   refine zA 23 ?_;refine Xf rfl (Lu (parts:=[(0,.tmp 53)]) rfl Ax9 Al0 rfl rfl rfl rfl) (fun b54=>(Aa2 (qE (qD .nil)) (qD (qD .nil)) rfl ?_))
   refine zA 24 ?_;refine Kw (A:=[(b54,_),(xb,_),(vb,_),(nb,_)]) (B:=_) (x:=v.t) (ys:=(⟨⟨a1,a2⟩,⟨0,0⟩,⟨a3,a4⟩,⟨0,0⟩,0⟩:Th).cells) rfl DH6 rfl rfl rfl hok rfl (fun h=>by cases h) (fun w hm=>Aj6 (hm.at mm0)) (Ao0 rfl) (by simp only [maxLen];omega) (by omega) rfl (fun z55 hz55=>(Aa2 (qE (qD .nil)) (qE (qC .nil)) rfl ?_))
   refine zt ?_;refine zp 25 ?_;refine zp 26 ?_;refine zp 27 ?_;refine zB 28 ?_;refine Xr rfl (Lt (cs:=(vs.map VwX.cells).flatten++vr) (cs':=((vs.set i { v with p:=p2,t:=z55 }).map VwX.cells).flatten++vr) rfl rfl (.there (.there .here)) AD3 (by rw [Av8];rfl) (Aq1 VwX.cells_len hi hv (j:=7) (by simp) (by rw [Av8];exact hps z55))) (Ab2 ?_)
   refine zd ?_;exact Af4 z55 (by rw [hte];exact hz55) rfl (zS 0 rfl (zS 1 rfl (zS 2 rfl (zS 7 rfl (zS 8 rfl (Sub.nil _)))))) (qH (qD (qD (Pick.skip (Pick.same (by rw [hte]))))))
  refine Xf rfl (Lu (parts:=[(0,.tmp 53)]) rfl Ax9 Al0 rfl rfl rfl rfl) (fun b54=>(Aa2 (qE (qD .nil)) (qD (qD .nil)) rfl ?_))
  refine zA 5 ?_;refine Xc rfl (Aa5 rfl (fun w hm=>(Bl4 (hm.at mm2)).cellE (Mem.refl w) (by simp) AD3 hi hv (j:=7) (by decide) (v:=ownV v.t v.p.things.length) rfl (by simp))) (Aa2 (qE (qD .nil)) (qE (qC .nil)) rfl ?_)
  refine zA 24 ?_;refine Kw (A:=[(b54,_),(xb,_),(vb,_),(nb,_)]) (B:=_) (x:=v.t) (ys:=(⟨⟨a1,a2⟩,⟨0,0⟩,⟨a3,a4⟩,⟨0,0⟩,0⟩:Th).cells) rfl DH6 rfl rfl rfl hok rfl (fun h=>by cases h) (fun w hm=>Aj6 (hm.at mm0)) (Ao0 rfl) (by simp only [maxLen];omega) (by omega) rfl (fun z55 hz55=>(Aa2 (qE (qD .nil)) (qE (qC .nil)) rfl ?_))
  refine zt ?_;refine zp 25 ?_;refine zp 26 ?_;refine zp 27 ?_;refine zB 28 ?_;refine Xr rfl (Lt (cs:=(vs.map VwX.cells).flatten++vr) (cs':=((vs.set i { v with p:=p2,t:=z55 }).map VwX.cells).flatten++vr) rfl rfl (.there (.there .here)) AD3 (by rw [Av8];rfl) (Aq1 VwX.cells_len hi hv (j:=7) (by simp) (by rw [Av8];exact hps z55))) (Ab2 ?_)
  refine zd ?_;exact Af4 z55 (by rw [hte];exact hz55) rfl (zS 0 rfl (zS 1 rfl (zS 2 rfl (zS 7 rfl (zS 8 rfl (Sub.nil _)))))) (qH (qD (qD (Pick.skip (Pick.same (by rw [hte]))))))
 intro z zI;have hz1:=zI;have hcn2:=AO9 (vs:=vs.set i { v with p:=p2,t:=z }) (i:=i) (by rw [List.length_set];exact hi) (v:={ v with p:=p2,t:=z }) (by simp);rw [Ch0] at hcn2;refine su ?_;refine lv (Aa5 rfl (fun w hm=>(Bl4 (vs:=vs.set i { v with p:=p2,t:=z }) (hm.at mm0)).loadPart (Mem.refl w) (by simp) Bc7 (i:=i) (by rw [List.length_set];exact hi) (x:={ v with p:=p2,t:=z }) (by simp) (j:=0) (by decide) (vs:=[.int .i64 p2.focal.lo,.int .i64 p2.focal.hi,.int .i64 p2.base.lo,.int .i64 p2.base.hi,.int .i64 p2.tilt,.int .i64 p2.near,.int .i64 p2.far,ownV z p2.things.length]) rfl (by decide) (by simp))) ?_;refine zc (zF rfl CT2) (fun w hm=>Cm2 p2 (v.p.things.length:Int) z (by rw [hpn,hpf];exact hz1) w (fun b o h=>hm.at (by rw [hpf] at h;exact (.tail _ (.tail _ (.tail _ ((by first | exact List.mem_append_left _ h | exact List.mem_append_right _ (List.mem_append_left _ h)))))))) (by omega)) ?_;refine Xh (zF rfl Au5) (fun w hm=>Ah2 _ w) (fun e69 he69=>?_) (fun v69 hv69=>?_)
 ·obtain ⟨er69,rfl⟩:=An2 he69
  refine Aa1 ?_;exact Ae7 ((ownV (some (vb,vc,vr)) vs.length,ownV db bs0.length,ownV dc cs.length),(whyX p2 (v.p.things.length:Int)).2) (Cn3 hpl hu hk hpm er69) rfl (qD (Pick.cnt fun x=>by simp only [nC,dkM,dkB,vwsO,nO,dkS,ownB,hcn,Value.I];omega))
 obtain ⟨ok69,rfl⟩:=Au3 hv69;refine st ?_;refine lv (Lz rfl Ap9) ?_;refine lv (Lz rfl Aw9) ?_;refine lv (Lz rfl Aw9) ?_;refine zn (Lu (parts:=[(0,.tmp 70),(1,.tmp 72),(2,.tmp 74)]) rfl Ap8 Am6 rfl rfl rfl rfl) (fun b75=>?_)
 refine zc (zF rfl An5) (fun w hm=>Ag4 [.s wThing,.n (v.p.things.length:Int),.n (whyX p2 (v.p.things.length:Int)).1] _ (An1 wThing [_,_]) b75 w (hL.mono (hm.zero)) (hm.at mm0) (by simp) (by intro p hp;simp only [List.mem_cons,List.not_mem_nil,or_false] at hp;rcases hp with rfl | rfl | rfl;exact (show wThing.length≤40 by decide);exact (show In64 (v.p.things.length:Int) from ⟨by omega,by omega⟩);exact hbd) (by simp [Prt.words])) ?_;exact Am0 (DkX.mk (some (vb,vc,vr)) (vs.set i { v with p:=p2,t:=z }) db bs0 dc cs,sayX wThing [(v.p.things.length:Int),(whyX p2 (v.p.things.length:Int)).1]) ⟨hd.set (i:=i) (v:={ v with p:=p2,t:=z }) (by show OwnOk 9 z p2.things.length (p2.things.map Th.cells).flatten;rw [hpn,hpf];exact hz1) (by show p2.things.length≤12;omega),by rw [CB4 hpl hu hk hpm ok69];exact congrArg (fun b=>Except.ok (b,sayX wThing [(v.p.things.length:Int),(whyX p2 (v.p.things.length:Int)).1])) (by rw [DkX.pl_set (d:=⟨some (vb,vc,vr),vs,db,bs0,dc,cs⟩)];rfl)⟩ rZ rfl (Pick.cnt fun x=>by have hc1:=hcn2 x;simp only [dkM,dkO,dkB,DkX.cells,dkS,vwsO,vwB,hpf,List.length_set,nC,Value.I] at hc1 ⊢;simp only [ownB,List.count_cons,List.count_nil] at hc1 ⊢;omega)
end
theorem DU3:apB π 35=some (46,13,120):=by kernel_rfl
theorem DU2:apB π 36=some (65,2,32):=by kernel_rfl
theorem CS8:Enters π 141:=eZ func141
theorem Dp4:Enters π 79:=eZ func79
theorem CF8:placesB π 46=some [(0,8),(8,4),(12,1)]:=by kernel_rfl
theorem Be5:placesB π 65=some [(0,1),(1,1)]:=by kernel_rfl
theorem BQ8:zeroB π 46=some [.I 0,.I 0,.I 0,.I 0,.I 0,.I 0,.I 0,.slice none 0 0,.I 0,.I 0,.I 0,.I 0,.bool false]:=by kernel_rfl
end Go.Q
namespace Go.Eng
open Go Go.RowKit
theorem BQ3 {P:Program} {ops:Array Oper} {Q:Exit→Act→World→Prop} {n i:Nat} {K:Act→World→Prop} {r:Regs} {ds:List Deferred} {W:World} {chg news:Blks} (A X1 Y C:Blks) (hn:news=A++(X1++(Y++C))) (h:RunI P ops Q n i K r ds W chg (A++(Y++(X1++C)))):RunI P ops Q n i K r ds W chg news:=by
 subst hn;exact CX6 (Ab3 _) (Pick.cnt fun x=>by simp only [List.count_append];omega) h
end Go.Eng
namespace Go.Dk
open Go Go.Eng Go.RowKit Go.Pw1 Go.Hp
theorem Bv4 {α:Type} {f:α→LV} {sz:Nat} {z:Eng.Own} {l:List α} {a:α} (h:OwnOk sz z (l.length + 1) ((l.map f).flatten++f a)):OwnOk sz z (l++[a]).length ((l++[a]).map f).flatten:=by
 simp only [List.map_append,List.flatten_append,List.length_append,List.length_singleton];simpa using h
theorem Av7 {α:Type} (f:α→LV) (l:List α) (a:α):((l++[a]).map f).flatten=(l.map f).flatten++f a:=by simp
theorem Dc6 {w:World} {sb:Nat} {T:TypeId} {fr:Nat×Nat} {x y:Str} {ws:List Str} {r:LV} (h:w.heap[sb]? = some (.cells (((x::y::ws).map strC).flatten++r).toArray T fr)):Sl w (some ⟨sb,2,none⟩) sb 2 1 (ws.map strC):=by
 have h1:Sl w (some ⟨sb,0,none⟩) sb 0 1 ((x::y::ws).map strC):=Sl.rowsR h (fun y hy=>by obtain ⟨z,_,rfl⟩:=List.mem_map.1 hy;rfl);refine ⟨fun _=>rfl,fun y hy=>by obtain ⟨z,_,rfl⟩:=List.mem_map.1 hy;rfl,fun i hi j hj=>?_⟩
 have h2:=h1.cell (i + 2) (by simpa using hi) j hj;have e:0 + (i + 2) * 1 + j=2 + i * 1 + j:=by omega
 rw [e] at h2;rw [h2];simp
theorem DkOk.view {d:DkX} (h:DkOk d) {z:Eng.Own} {v:VwX} (hz:OwnOk 13 z (d.vs.length + 1) ((d.vs.map VwX.cells).flatten++v.cells)) (hv:OwnOk 9 v.t v.p.things.length (v.p.things.map Th.cells).flatten) (ht:v.p.things.length≤12) (hn:d.vs.length < 4):DkOk { d with v:=z,vs:=d.vs++[v] }:=by
 refine ⟨Bv4 hz,fun x hx=>?_,h.b,h.bs,h.c,?_,fun x hx=>?_,h.ti,h.tx⟩
 · rcases List.mem_append.1 hx with hx | hx
   · exact h.vs x hx
   · rw [List.mem_singleton.1 hx];exact hv
 · have:=h.few
   simp only [List.length_append,List.length_singleton];omega
 · rcases List.mem_append.1 hx with hx | hx
   · exact h.things x hx
   · rw [List.mem_singleton.1 hx];exact ht
theorem DkOk.box {d:DkX} (h:DkOk d) {z:Eng.Own} {v:BoX} (hz:OwnOk 2 z (d.bs.length + 1) ((d.bs.map BoX.cells).flatten++v.cells)) (hv:OwnOk 1 v.t v.titles.length (strsC v.titles)) (ht:v.titles.length≤1000∧∀ t∈v.titles,t.length≤1000000) (hn:d.bs.length < 4):DkOk { d with b:=z,bs:=d.bs++[v] }:=by
 refine ⟨h.v,h.vs,Bv4 hz,fun x hx=>?_,h.c,?_,h.things,fun x hx=>?_,h.tx⟩
 · rcases List.mem_append.1 hx with hx | hx
   · exact h.bs x hx
   · rw [List.mem_singleton.1 hx];exact hv
 · have:=h.few
   simp only [List.length_append,List.length_singleton];omega
 · rcases List.mem_append.1 hx with hx | hx
   · exact h.ti x hx
   · rw [List.mem_singleton.1 hx];exact ht
theorem DkOk.card {d:DkX} (h:DkOk d) {z:Eng.Own} {t:Tn} (hz:OwnOk 3 z (d.cs.length + 1) ((d.cs.map Tn.cells).flatten++t.cells)) (ht:t.number.length≤1000000∧t.text.length≤1000000) (hn:d.cs.length < 8):DkOk { d with c:=z,cs:=d.cs++[t] }:=by
 refine ⟨h.v,h.vs,h.b,h.bs,Bv4 hz,?_,h.things,h.ti,fun x hx=>?_⟩
 · have:=h.few
   simp only [List.length_append,List.length_singleton];omega
 · rcases List.mem_append.1 hx with hx | hx
   · exact h.tx x hx
   · rw [List.mem_singleton.1 hx];exact ht
theorem DkX.pl_view {d:DkX} {z:Eng.Own} {v:VwX}:(DkX.pl { d with v:=z,vs:=d.vs++[v] })={ d.pl with views:=d.pl.views++[v.pl] }:=by
 unfold DkX.pl;simp
theorem DkX.pl_box {d:DkX} {z:Eng.Own} {v:BoX}:(DkX.pl { d with b:=z,bs:=d.bs++[v] })={ d.pl with heap:={ d.pl.heap with boxes:=d.pl.heap.boxes++[v.pl] } }:=by
 unfold DkX.pl;simp
theorem DkX.pl_card {d:DkX} {z:Eng.Own} {t:Tn}:(DkX.pl { d with c:=z,cs:=d.cs++[t] })={ d.pl with heap:={ d.pl.heap with cards:=d.pl.heap.cards++[t] } }:=by
 unfold DkX.pl;simp
theorem Db2 {c:Cd} {b:Bn} (h:¬ b.views.length < 4):viewD c b = .error 9:=by unfold viewD;rw [if_neg h]
theorem Db1 {c:Cd} {b:Bn} (h:b.views.length < 4):viewD c b = .ok ({ b with views:=b.views++[⟨c.p,noTr,false⟩] },sayX wView [b.views.length]):=by unfold viewD;rw [if_pos h]
theorem Dl8 {b:Bn} {w:List Str} (h:¬ 1 < w.length):boxD b w = .error 8:=by unfold boxD;rw [if_pos h]
theorem Dl7 {b:Bn} {w:List Str} (h:1 < w.length) (hn:numX (w.getD 0 [])=none):boxD b w = .error 8:=by unfold boxD;rw [if_neg (fun h2=>h2 h),hn]
theorem Dl6 {b:Bn} {w:List Str} {n:Int} (h:1 < w.length) (hn:numX (w.getD 0 [])=some n) (hb:¬ b.heap.boxes.length < 4):boxD b w = .error 9:=by unfold boxD;rw [if_neg (fun h2=>h2 h),hn];dsimp only;rw [if_pos hb]
theorem Dl5 {b:Bn} {w:List Str} {n:Int} (h:1 < w.length) (hn:numX (w.getD 0 [])=some n) (hb:b.heap.boxes.length < 4) {m:Mx} (hm:{ b.heap with boxes:=b.heap.boxes++[⟨n,w.drop 1⟩] }=m) (he:(WhyX m).2 ≠ 0):boxD b w = .error (WhyX m).2:=by subst hm;unfold boxD;rw [if_neg (fun h2=>h2 h),hn];dsimp only;rw [if_neg (fun h2=>h2 hb),if_neg he]
theorem DH0 {b:Bn} {w:List Str} {n:Int} (h:1 < w.length) (hn:numX (w.getD 0 [])=some n) (hb:b.heap.boxes.length < 4) {m:Mx} (hm:{ b.heap with boxes:=b.heap.boxes++[⟨n,w.drop 1⟩] }=m) (he:(WhyX m).2=0):boxD b w = .ok ({ b with heap:=m },sayX wBox [b.heap.boxes.length]):=by subst hm;unfold boxD;rw [if_neg (fun h2=>h2 h),hn];dsimp only;rw [if_neg (fun h2=>h2 hb),if_pos he]
end Go.Dk
namespace Go.Q
open Go Go.Eng Go.Dk Go.RowKit Go.Pw1 Go.Hp
abbrev dkNv (d:DkX):Blks:=(d.vs.map vwB).flatten++dkS d
abbrev dkNb (d:DkX):Blks:=ownB 46 d.v (d.vs.map VwX.cells).flatten++((d.vs.map vwB).flatten++((d.bs.map boB).flatten++ownB 165 d.c (d.cs.map Tn.cells).flatten))
abbrev dkNc (d:DkX):Blks:=ownB 46 d.v (d.vs.map VwX.cells).flatten++((d.vs.map vwB).flatten++(ownB 65 d.b (d.bs.map BoX.cells).flatten++(d.bs.map boB).flatten))
theorem DX3 {d:DkX} (hd:DkOk d):.agg [ownV d.b d.bs.length,ownV d.c d.cs.length].toArray=d.mx.v:=by
 unfold MxA.v MxA.cells DkX.mx;rw [Ad3 hd.b,Ad3 hd.c];dsimp only;rw [List.length_map]
theorem Bm3 {W0 w:World} {xb:Nat} {d:DkX} {c:Cd} {tl:Blks} (n m:Nat) (hd:DkOk d) (hm:Mem W0 [] (dkM xb d c tl) w) (hn:d.bs.length=n) (hc:d.cs.length=m):CC 141 #[.agg [ownV d.b n,ownV d.c m].toArray] w (Pure (.tuple #[.I (WhyX d.pl.heap).1,.I (WhyX d.pl.heap).2]) w):=by
 subst hn hc;have hD:=Am7 hd hm;have h:=Cy5 d.mx hD.sm w hD.m;rw [DkX.mx_pl,← DX3 hd] at h;exact h
section
variable (xb:Nat) (d:DkX) (c:Cd) (rest:Blks) (W0 w:World) (hL:Lw π W0) (hd:DkOk d)
include hL hd
theorem Cu6 (wv nv:Value) (hm0:Mem W0 [] (dkM xb d c (rest++[])) w) :
  CC 86 #[pV xb,wv,nv] w (VerbT W0 xb c (viewD (bareC c) d.pl) rest):=by
 have hdv:=hd.v;have hvl:d.pl.views.length=d.vs.length:=List.length_map ..;obtain ⟨v,hve⟩:∃ v:VwX,v=⟨(bareC c).p,none,noTr,false⟩:=⟨_,rfl⟩;have hm1:Mem W0 [] ((xb,dkO d c)::(ownB 46 d.v (d.vs.map VwX.cells).flatten++(dkNv d++(rest++[])))) w:=hm0.pick (Pick.cnt fun x=>by simp only [dkM,dkB,dkNv,dkS,List.count_cons,List.count_append,List.count_nil,Value.I];omega);refine Ag9 hm1 func86 rfl rfl ?_;refine su ?_;refine lv (Ak0 rfl AL6 hdv) ?_;refine Xh (zF rfl Al1) (fun w hm=>Ad7 _ _ w) (fun e14 he14=>?_) (fun v14 hv14=>?_)
 ·obtain ⟨er14,rfl⟩:=Ac9 he14
  have hk:¬ d.vs.length < 4:=by have:=of_decide_eq_false er14;omega
  refine Aa1 ?_;exact Ae7 ((ownV d.v d.vs.length,ownV d.b d.bs.length,ownV d.c d.cs.length),9) (Db2 (by rw [hvl];exact hk)) rfl (qC pk0)
 obtain ⟨ok14,rfl⟩:=Ad9 hv14;have hk:d.vs.length < 4:=by have:=of_decide_eq_true ok14;omega
 refine st ?_;refine Am2 (X:=Eng.Own) 14 (n0:=[]) (fun z q=>q) (fun z=>[]) (fun z=>[(xb,.cells ([ownV z (d.vs.length + 1),ownV d.b d.bs.length,ownV d.c d.cs.length]++(bareC c).cells none 0++[Value.bool true]).toArray 88)]) (fun z=>ownB 46 z ((d.vs.map VwX.cells).flatten++v.cells)++(dkNv d++(rest++[]))) (fun z=>OwnOk 13 z (d.vs.length + 1) ((d.vs.map VwX.cells).flatten++v.cells)) Ah8 (qC .nil) (zS 0 rfl (Sub.nil _)) .nil ?_ ?_
 ·refine zw 0 ?_
  refine zw 1 ?_;refine zw 2 ?_;refine zw 3 ?_;refine zw 4 ?_;refine zw 5 ?_;refine zw 6 ?_;refine zw 7 ?_;refine zw 8 ?_;refine zw 9 ?_;refine zw 10 ?_;refine zv 11 rfl (Lr (parts:=[(0,.tmp 25)]) rfl BQ8 CF8 rfl) ?_;refine zA 12 ?_;refine Xf rfl (Lu (parts:=[(0,.tmp 26)]) rfl AL6 BQ8 rfl rfl rfl rfl) (fun b27=>(Aa2 (qE .nil) (qD .nil) rfl ?_))
  refine zA 13 ?_;refine Kw (A:=[(b27,_),(xb,_)]) (B:=_) (x:=d.v) (ys:=(⟨(bareC c).p,none,noTr,false⟩:VwX).cells) rfl DU3 rfl rfl rfl hdv rfl (fun h=>by cases h) (fun w hm=>Aj6 (hm.at mm0)) (Ao0 rfl) (by simp only [maxLen];omega) (by omega) rfl (fun z28 hz28=>(Aa2 (qE .nil) (qE .nil) rfl ?_))
  refine zt ?_;refine zp 14 ?_;refine zp 15 ?_;refine zp 16 ?_;refine zB 17 ?_;refine Xr rfl (AA5 rfl rfl (.there .here) BD1 rfl rfl) (Ab2 ?_)
  refine zd ?_;exact Af4 z28 (by rw [hve];exact hz28) rfl (zS 0 rfl (Sub.nil _)) (qD (Pick.skip (Pick.same (by rw [hve];rfl))))
 intro z zI;have hz1:=zI;refine st ?_;refine lu (Lz rfl Ap9) ?_;refine lv (Ak0 rfl AL6 hz1) ?_;refine lv (Ad8 rfl rfl (Lq _ ⟨by omega,by omega⟩)) ?_;refine lv (Lz rfl Aw9) ?_;refine zn (Lu (parts:=[(0,.tmp 32),(1,.tmp 40)]) rfl Ap8 Am6 rfl rfl rfl rfl) (fun b41=>?_)
 refine zc (zF rfl An5) (fun w hm=>Ag4 [.s wView,.n (((d.vs.length + 1:Nat):Int) - 1)] _ (show Lib.join _ _=sayX wView [(d.vs.length:Int)] from (by rw [show (((d.vs.length + 1:Nat):Int) - 1)=(d.vs.length:Int) by omega];exact An1 wView [_])) b41 w (hL.mono (hm.zero)) (hm.at mm0) (by simp) (by intro p hp;simp only [List.mem_cons,List.not_mem_nil,or_false] at hp;rcases hp with rfl | rfl;exact (show wView.length≤40 by decide);exact (show In64 (((d.vs.length + 1:Nat):Int) - 1) from ⟨by omega,by omega⟩)) (by simp [Prt.words])) ?_;exact Am0 ({ d with v:=z,vs:=d.vs++[v] },sayX wView [(d.vs.length:Int)]) ⟨hd.view hz1 (by rw [hve];exact OwnOk.start) (by rw [hve];exact Lb _) hk,by rw [Db1 (by rw [hvl];exact hk),hvl,DkX.pl_view,hve];rfl⟩ rZ rfl (Pick.cnt fun x=>by have hv0:vwB v=[]:=(by rw [hve];rfl);simp only [dkM,dkO,dkB,DkX.cells,dkNv,dkS,List.length_append,List.length_singleton,Av7,List.map_append,List.map_cons,List.map_nil,List.flatten_append,List.flatten_cons,List.flatten_nil,hv0,List.append_nil,List.append_assoc,List.cons_append,List.nil_append,nC,Value.I];omega)
theorem Bq9 (ws:List Str) (hs:¬ 1 < ws.length) (q:OA) (cap:Nat) (nv:Value) (hm0:Mem W0 [] (dkM xb d c (rest++[])) w) :
  CC 95 #[pV xb,.slice q ws.length cap,nv] w (VerbT W0 xb c (boxD d.pl ws) rest):=by
 have hm1:Mem W0 [] ((xb,dkO d c)::(dkB d++(rest++[]))) w:=hm0;refine Ag9 hm1 func95 rfl rfl ?_;refine su ?_;refine Xh (zF rfl Al1) (fun w hm=>Ad7 _ _ w) (fun e14 he14=>?_) (fun v14 hv14=>?_)
 ·obtain ⟨er14,rfl⟩:=Ac9 he14
  refine Aa1 ?_;exact Ae7 ((ownV d.v d.vs.length,ownV d.b d.bs.length,ownV d.c d.cs.length),8) (Dl8 hs) rfl (qC pk0)
 obtain ⟨ok14,rfl⟩:=Ad9 hv14;exact absurd (of_decide_eq_true (Ad9 hv14).1) (by omega)
theorem CV1 (x y t0:Str) (ts:List Str) (r:LV) (sb cap:Nat) (nv:Value) (hcap:ts.length + 2≤cap) (hlen:ts.length + 2≤1000) (hsh:∀ s∈y::t0::ts,s.length≤100000) (hm0:Mem W0 [] (dkM xb d c ((sb,sbO (x::y::t0::ts) r)::(rest++[]))) w) :
  CC 95 #[pV xb,.slice (some ⟨sb,1,none⟩) (ts.length + 2) cap,nv] w (VerbT W0 xb c (boxD d.pl (y::t0::ts)) rest):=by
 have hdb:=hd.b;have hbl:d.pl.heap.boxes.length=d.bs.length:=List.length_map ..;have hyl:=hsh y (by simp);have hw1:1 < (y::t0::ts).length:=by simp
 have hm1:Mem W0 [] ((xb,dkO d c)::(sb,sbO (x::y::t0::ts) r)::(ownB 65 d.b (d.bs.map BoX.cells).flatten++(dkNb d++(rest++[])))) w:=hm0.pick (Pick.cnt fun x=>by simp only [dkM,dkB,dkNb,List.count_cons,List.count_append,List.count_nil,Value.I];omega);refine Ag9 hm1 func95 rfl rfl ?_;refine su ?_;refine Xh (zF rfl Al1) (fun w hm=>Ad7 _ _ w) (fun e14 he14=>?_) (fun v14 hv14=>?_)
 ·obtain ⟨er14,rfl⟩:=Ac9 he14
  refine Aa1 ?_;exact absurd (of_decide_eq_false er14) (fun h=>h (by omega))
 obtain ⟨ok14,rfl⟩:=Ad9 hv14;refine st ?_;refine lv (Ab1 rfl rfl An4 (by omega) (by omega)) ?_;refine lv (Aa5 rfl (fun w hm=>Sl.cellE (AT1 (q:=some ⟨sb,1,none⟩) (hm.at mm1) (fun _=>rfl)) (Mem.refl w) (by simp) AN0 (i:=0) (by simp) (x:=y) rfl (j:=0) (by decide) (v:=.string (bs y)) rfl (by simp))) ?_;refine Xh (zF rfl Cj2) (fun w hm=>Av4 _ (by omega) w (hL.mono hm)) (fun e18 he18=>?_) (fun v18 hv18=>?_)
 ·obtain ⟨hn18,rfl⟩:=Ba9 he18
  refine Aa1 ?_;exact Ae7 ((ownV d.v d.vs.length,ownV d.b d.bs.length,ownV d.c d.cs.length),8) (Dl7 hw1 hn18) rfl (qC pk0)
 obtain ⟨n18,hn18,rfl⟩:=Bv7 hv18;refine su ?_;refine lv (Ak0 rfl Bd7 hdb) ?_;refine Xh (zF rfl Al1) (fun w hm=>Ad7 _ _ w) (fun e28 he28=>?_) (fun v28 hv28=>?_)
 ·obtain ⟨er28,rfl⟩:=Ac9 he28
  have hk:¬ d.bs.length < 4:=by have:=of_decide_eq_false er28;omega
  refine Aa1 ?_;exact Ae7 ((ownV d.v d.vs.length,ownV d.b d.bs.length,ownV d.c d.cs.length),9) (Dl6 hw1 hn18 (by rw [hbl];exact hk)) rfl (qC pk0)
 obtain ⟨ok28,rfl⟩:=Ad9 hv28;have hk:d.bs.length < 4:=by have:=of_decide_eq_true ok28;omega
 refine st ?_;refine Am2 (X:=Eng.Own×Eng.Own) 14 (n0:=[(sb,_)]) (fun z q=>q) (fun z=>[]) (fun z=>[(xb,.cells ([ownV d.v d.vs.length,ownV z.1 (d.bs.length + 1),ownV d.c d.cs.length]++(bareC c).cells none 0++[Value.bool true]).toArray 88)]) (fun z=>ownB 65 z.1 ((d.bs.map BoX.cells).flatten++(BoX.a ⟨n18,z.2,t0::ts⟩).cells)++(ownB 9 z.2 ((t0::ts).map strC).flatten++(dkNb d++(rest++[])))) (fun z=>OwnOk 2 z.1 (d.bs.length + 1) ((d.bs.map BoX.cells).flatten++(BoX.a ⟨n18,z.2,t0::ts⟩).cells)∧OwnOk 1 z.2 (t0::ts).length ((t0::ts).map strC).flatten) Ah8 (qE .nil) (zS 0 rfl (zS 1 rfl (zS 2 rfl (zS 7 rfl (zS 8 rfl (Sub.nil _)))))) (qD .nil) ?_ ?_
 ·refine zw 0 ?_
  refine zw 1 ?_;refine zw 2 ?_;refine zw 3 ?_;refine zw 4 ?_;refine zw 5 ?_;refine zw 6 ?_;refine zw 7 ?_;refine zw 8 ?_;refine zv 9 rfl (BB3 rfl rfl An4 rfl (by decide) (by omega) (by omega)) ?_;refine zA 10 ?_;refine Xp [(xb,_),(sb,_)] _ rfl rfl (zF rfl Dp4) (fun w hm=>AS1 (t0::ts) (by simp only [List.length_cons];omega) (some ⟨sb,2,none⟩) sb 2 (cap - 1) w (Dc6 (hm.at mm1)) (fun h=>by cases h)) (fun z39=>(Aa2 (qE .nil) (qE .nil) rfl ?_))
  obtain ⟨y39,hy39⟩:=z39;dsimp only;refine zv 11 rfl (Lr (parts:=[(0,.tmp 36),(1,.tmp 39)]) rfl AG1 Be5 rfl) ?_;refine zA 12 ?_;refine Xf rfl (Lu (parts:=[(0,.tmp 40)]) rfl Bd7 AG1 rfl rfl rfl rfl) (fun b41=>(Aa2 (qE (qC .nil)) (qD (qD .nil)) rfl ?_))
  refine zA 13 ?_;refine BQ3 [(b41,_),(xb,_),(sb,_)] _ _ _ rfl ?_;refine Kw (A:=[(b41,_),(xb,_),(sb,_)]) (B:=_) (x:=d.b) (ys:=(BoX.a ⟨n18,y39,t0::ts⟩).cells) rfl DU2 rfl rfl rfl hdb rfl (fun h=>by cases h) (fun w hm=>Aj6 (hm.at mm0)) (Ao0 rfl) (by simp only [maxLen];omega) (by omega) rfl (fun z42 hz42=>(Aa2 (qE (qC .nil)) (qE (qC .nil)) rfl ?_))
  refine zt ?_;refine zp 14 ?_;refine zp 15 ?_;refine zp 16 ?_;refine zp 17 ?_;refine zB 18 ?_;refine Xr rfl (AA5 rfl rfl (.there .here) Db8 rfl rfl) (Ab2 ?_)
  refine zd ?_;exact Af4 (z42,y39) ⟨hz42,hy39⟩ rfl (zS 0 rfl (zS 1 rfl (zS 2 rfl (zS 7 rfl (zS 8 rfl (Sub.nil _)))))) (qD (qD (Pick.skip (Pick.same rfl))))
 intro z zI;obtain ⟨hz1,hz2⟩:=zI;have hz3:OwnOk 1 z.2 (t0::ts).length (strsC (t0::ts)):=by (rw [Ao3];exact hz2)
 have hbc:=BoX.cells_eq (x:=⟨n18,z.2,t0::ts⟩) hz3;rw [← hbc] at hz1 ⊢;have hd2:=hd.box (v:=⟨n18,z.2,t0::ts⟩) hz1 hz3 ⟨by simp only [List.length_cons];omega,fun s hs=>by (have:=hsh s (by simp only [List.mem_cons] at hs ⊢;exact .inr hs);omega)⟩ hk;obtain ⟨m,hme⟩:∃ m:Mx,{ d.pl.heap with boxes:=d.pl.heap.boxes++[⟨n18,t0::ts⟩] }=m:=⟨_,rfl⟩;have hpl2:(DkX.pl { d with b:=z.1,bs:=d.bs++[⟨n18,z.2,t0::ts⟩] }).heap=m:=by (rw [DkX.pl_box,← hme];rfl)
 refine su ?_;refine zc (zF rfl CS8) (fun w hm=>(by have h:=Bm3 (xb:=xb) (d:={ d with b:=z.1,bs:=d.bs++[⟨n18,z.2,t0::ts⟩] }) (c:=c) (tl:=rest++[]) (d.bs.length + 1) d.cs.length hd2 (hm.pick (Pick.cnt fun x=>by simp only [dkM,dkO,dkB,DkX.cells,dkNb,boB,Ao3,List.length_append,List.length_singleton,Av7,List.map_append,List.map_cons,List.map_nil,List.flatten_append,List.flatten_cons,List.flatten_nil,List.append_nil,List.append_assoc,List.cons_append,List.nil_append,nC,Value.I];omega)) (by simp) rfl;rw [hpl2] at h;exact h)) ?_;refine Xh (zF rfl Au5) (fun w hm=>Ah2 _ w) (fun e57 he57=>?_) (fun v57 hv57=>?_)
 ·obtain ⟨er57,rfl⟩:=An2 he57
  refine Aa1 ?_;exact Ae7 ((ownV d.v d.vs.length,ownV z.1 (d.bs.length + 1),ownV d.c d.cs.length),(WhyX m).2) (Dl5 hw1 hn18 (by rw [hbl];exact hk) hme er57) rfl (qC pk0)
 obtain ⟨ok57,rfl⟩:=Au3 hv57;refine st ?_;refine lv (Lz rfl Ap9) ?_;refine lv (Lz rfl Aw9) ?_;refine zn (Lu (parts:=[(0,.tmp 58),(1,.tmp 60)]) rfl Ap8 Am6 rfl rfl rfl rfl) (fun b61=>?_)
 refine zc (zF rfl An5) (fun w hm=>Ag4 [.s wBox,.n (d.bs.length:Int)] _ (An1 wBox [_]) b61 w (hL.mono (hm.zero)) (hm.at mm0) (by simp) (by intro p hp;simp only [List.mem_cons,List.not_mem_nil,or_false] at hp;rcases hp with rfl | rfl;exact (show wBox.length≤40 by decide);exact (show In64 (d.bs.length:Int) from ⟨by omega,by omega⟩)) (by simp [Prt.words])) ?_;exact Am0 ({ d with b:=z.1,bs:=d.bs++[⟨n18,z.2,t0::ts⟩] },sayX wBox [(d.bs.length:Int)]) ⟨hd2,by rw [DH0 hw1 hn18 (by rw [hbl];exact hk) hme ok57,hbl,DkX.pl_box,← hme];rfl⟩ rZ rfl (Pick.cnt fun x=>by simp only [dkM,dkO,dkB,DkX.cells,dkNb,boB,Ao3,List.length_append,List.length_singleton,Av7,List.map_append,List.map_cons,List.map_nil,List.flatten_append,List.flatten_cons,List.flatten_nil,List.append_nil,List.append_assoc,List.cons_append,List.nil_append,nC,Value.I];omega)
end
end Go.Q
namespace Go.Hp
open Go Go.Eng Go.Pw1
theorem CG3 (s:Nat):∀ k,pc s (k + 1)=s % 2 + pc (s / 2) k
 | 0=>by simp [pc]
 | k + 1=>by
   have ih:=CG3 s k
   show pc s (k + 1) + s / 2 ^ (k + 1) % 2=s % 2 + (pc (s / 2) k + s / 2 / 2 ^ k % 2)
   rw [ih,Nat.div_div_eq_div_mul,Nat.pow_succ,Nat.mul_comm 2];omega
theorem DM2 (s:Nat):∀ k,pc s k≤k
 | 0=>Nat.le_refl _
 | k + 1=>by
   have:=DM2 s k
   show pc s k + s / 2 ^ k % 2≤k + 1
   omega
theorem CG2:∀ k,pc 0 k=0
 | 0=>rfl
 | k + 1=>by simp [pc,CG2 k]
theorem Do5 {s k:Nat} (h:s / 2 ^ k=0):∀ j,pc s (k + j)=pc s k
 | 0=>rfl
 | j + 1=>by
   show pc s (k + j) + s / 2 ^ (k + j) % 2=pc s k
   rw [Do5 h j,Nat.pow_add,← Nat.div_div_eq_div_mul,h,Nat.zero_div];exact Nat.add_zero _
open Go.Q
theorem Cb3 (s k:Nat):s / 2 ^ k % 2=if s.testBit k then 1 else 0:=by
 rw [Nat.testBit_eq_decide_div_mod_eq]
 by_cases h:s / 2 ^ k % 2=1
 · simp [h]
 · simp [h];omega
theorem Do7 {s t i:Nat} (h:∀ j,t.testBit j=(s.testBit j && !decide (j=i))):∀ k,pc s k=pc t k + if decide (i < k) && s.testBit i then 1 else 0
 | 0=>by simp [pc]
 | k + 1=>by
   have ih:=Do7 h k
   show pc s k + s / 2 ^ k % 2=pc t k + t / 2 ^ k % 2 + _
   rw [Cb3,Cb3,h k,ih]
   by_cases e:k=i
   · subst e
     have h1:¬ k < k:=by omega
     cases s.testBit k <;> simp [h1]
   · by_cases h1:i < k
     · have h2:i < k + 1:=by omega
       cases s.testBit k <;> cases s.testBit i <;> simp [h1,h2,e]
     · have h2:¬ i < k + 1:=by omega
       cases s.testBit k <;> simp [h1,h2,e]
theorem Do6:∀ {k s:Nat},0 < s→s < 2 ^ k→0 < pc s k
 | 0,s,h0,h=>by simp at h;omega
 | k + 1,s,h0,h=>by
   rw [CG3]
   rcases Kz (s % 2) with h1 | h1
   · have:=Do6 (k:=k) (s:=s / 2) (by omega) (by rw [Nat.pow_succ] at h;omega)
     omega
   · omega
theorem DW9 {s n:Nat} (hn:n≤12) (h:s < 2 ^ n):pc s 12=pc s n:=by
 have h1:=Do5 (s:=s) (k:=n) (Nat.div_eq_of_lt h) (12 - n);rw [show n + (12 - n)=12 by omega] at h1;exact h1
def ltS (s t:Nat):Prop:=pc s 12 < pc t 12∨(pc s 12=pc t 12∧s < t)
theorem Du2 (n:Nat):(setsL n).Pairwise ltS:=by
 unfold setsL;refine AN9 (R:=(· < ·)) (List.pairwise_map.2 (List.pairwise_lt_range.imp fun h=>by omega)) (fun k _=>?_) fun a b hab x hx y hy=>?_
 · refine (List.pairwise_lt_range.filter _).imp_of_mem fun {x y} hx hy h=>.inr ⟨?_,h⟩
   have h1:=(List.mem_filter.1 hx).2;have h2:=(List.mem_filter.1 hy).2;simp only [Bool.and_eq_true,decide_eq_true_eq] at h1 h2;omega
 · have h1:=(List.mem_filter.1 hx).2
   have h2:=(List.mem_filter.1 hy).2;simp only [Bool.and_eq_true,decide_eq_true_eq] at h1 h2;exact .inl (by omega)
theorem Bv1 {n s:Nat} (hn:n≤8):s∈setsL n ↔ 0 < s∧s < 2 ^ n:=by
 unfold setsL;simp only [List.mem_flatMap,List.mem_map,List.mem_range,List.mem_filter,Bool.and_eq_true,decide_eq_true_eq]
 constructor
 · rintro ⟨_,_,h1,h2,_⟩
   exact ⟨h2,h1⟩
 · rintro ⟨h1,h2⟩
   have h3:=DW9 (by omega) h2;have h4:=Do6 h1 h2;have h5:=DM2 s n;exact ⟨pc s 12,⟨pc s 12 - 1,by omega,by omega⟩,h2,h1,rfl⟩
theorem Bn5 (fs:List Nat):shortX fs 0=false:=by
 unfold shortX;rw [CG2];simp
structure WhyIs (fs:List Nat) (s e:Nat):Prop where
 lt:s < 2 ^ fs.length
 se:(s=0∧e=0)∨(0 < s∧e=11∧shortX fs s=true)
 del:∀ i,s.testBit i=true→shortX fs (andN s (2 ^ i))=false
 min:∀ t,t < 2 ^ fs.length→shortX fs t=true→0 < s∧(pc s 12 < pc t 12∨(pc s 12=pc t 12∧s≤t))
theorem Dm1 {s i:Nat}:∀ j,(andN s (2 ^ i)).testBit j=(s.testBit j && !decide (j=i)):=fun j=>by
 rw [AA2,Nat.testBit_two_pow]
 congr 2
 exact decide_eq_decide.2 ⟨fun h=>h.symm,fun h=>h.symm⟩
theorem DT7 {s n i:Nat} (h:s < 2 ^ n) (hb:s.testBit i=true):i < n:=by
 rcases Lc i n with h1 | h1
 · exact h1
 · have h2:s < 2 ^ i:=Ky h (Lk (by decide) h1)
   rw [Nat.testBit_lt_two_pow h2] at hb
   cases hb
theorem Ds6 {fs:List Nat} (hn:fs.length≤8):∃ s e,WhyIs fs s e∧(match whyL fs with | some s=>((s:Int),(11:Int)) | none=>(0,0))=((s:Int),(e:Int)):=by
 cases h:whyL fs with
 | none =>
   have h0:∀ t,t < 2 ^ fs.length→shortX fs t=false:=fun t ht=>by
    rcases Kz t with rfl | h1
    · exact Bn5 fs
    · have:=List.find?_eq_none.1 h t ((Bv1 hn).2 ⟨h1,ht⟩)
      simpa using this
   exact ⟨0,0,⟨Li _,.inl ⟨rfl,rfl⟩,fun i hi=>by simp at hi,fun t ht hs=>by rw [h0 t ht] at hs;cases hs⟩,rfl⟩
 | some s =>
   obtain ⟨h1,l1,l2,h2,h3⟩:=List.find?_eq_some_iff_append.1 h;have hm:s∈setsL fs.length:=by rw [h2];simp
   obtain ⟨hs0,hs1⟩:=(Bv1 hn).1 hm
   have key:∀ t,t < 2 ^ fs.length→ltS t s→shortX fs t=false:=fun t ht hlt=>by
    rcases Kz t with rfl | h4
    · exact Bn5 fs
    · have h5:t∈setsL fs.length:=(Bv1 hn).2 ⟨h4,ht⟩
      have h6:=Du2 fs.length;rw [h2] at h5 h6
      rcases List.mem_append.1 h5 with h7 | h7
      · simpa using h3 t h7
      · exfalso
        have h8:=(List.pairwise_append.1 h6).2.1;unfold ltS at hlt
        rcases List.mem_cons.1 h7 with rfl | h7
        · omega
        · cases h8 with
          | cons h9 _ =>
            have h10:=h9 t h7;unfold ltS at h10;omega
   refine ⟨s,11,⟨hs1,.inr ⟨hs0,rfl,h1⟩,fun i hi=>?_,fun t ht hsh=>⟨hs0,?_⟩⟩,rfl⟩
   · have h4:=Do7 (Dm1 (s:=s) (i:=i)) 12
     have hi2:=DT7 hs1 hi;have hi3:i < 12:=by omega
     simp only [hi3,hi,decide_true,Bool.and_self,if_true] at h4;exact key _ (Kx (Cb6 _ _) hs1) (.inl (by omega))
   · rcases Lf (pc s 12) (pc t 12) with h4 | h4 | h4
     · exact .inl h4
     · refine .inr ⟨h4,?_⟩
       rcases Lc t s with h5 | h5
       · rw [key t ht (.inr ⟨h4.symm,h5⟩)] at hsh;cases hsh
       · exact h5
     · rw [key t ht (.inl h4)] at hsh;cases hsh
theorem DI8 {m:MxA} (hX:mixedX m.pl=true):∃ s e,WhyIs (fsX m.pl) s e∧WhyX m.pl=((s:Int),(e:Int)):=by
 obtain ⟨h4,h8,h12⟩:=Ao8 hX;obtain ⟨s,e,h1,h2⟩:=Ds6 (fs:=fsX m.pl) (by rw [AF7];exact h8);exact ⟨s,e,h1,by unfold WhyX;rw [if_pos hX];exact h2⟩
structure PW (ne:Nat) (fs own:List Nat) (other:Nat):Prop where
 le:own.length≤fs.length
 fit:∀ k (h:k < own.length),own[k] < ne∧(fs.getD k 0).testBit own[k]=true
 nd:own.Nodup
 ot:∀ x,other.testBit x=decide (x∈own)
 lt:other < 2 ^ 12
theorem PW.nil (ne:Nat) (fs:List Nat):PW ne fs [] 0:=⟨Lb _,fun k h=>absurd h (by simp),List.nodup_nil,fun x=>by simp,by decide⟩
theorem Dx6 {fs:List Nat} {k f:Nat} (hk:k < fs.length) (hf:fs[k]=f):fs.getD k 0=f:=by
 rw [← hf];simp [List.getD_eq_getElem?_getD,hk]
theorem PW.snoc {ne:Nat} {fs own:List Nat} {other j f:Nat} (h:PW ne fs own other) (hk:own.length < fs.length) (hf:fs[own.length]=f) (hj:j < ne) (hn:ne≤12) (hb:f.testBit j=true) (ho:other.testBit j=false):PW ne fs (own++[j]) (other ||| 2 ^ j):=by
 refine ⟨by simp;omega,fun k hk2=>?_,?_,fun x=>?_,Lj h.lt (Ll (by decide) (by omega))⟩
 · rw [List.getElem_append]
   split
   · rename_i h1
     exact h.fit k h1
   · rename_i h1
     have:k=own.length:=by simp at hk2;omega
     subst this;simp only [Nat.sub_self,List.getElem_cons_zero];exact ⟨hj,by rw [Dx6 hk hf];exact hb⟩
 · rw [List.nodup_append]
   refine ⟨h.nd,by simp,fun a ha b hb2 e=>?_⟩
   rw [List.mem_singleton] at hb2;subst hb2;subst e;rw [h.ot,decide_eq_false_iff_not] at ho;exact ho ha
 · rw [Bj6,h.ot]
   by_cases e:j=x
   · subst e;simp
   · have e2:¬ x=j:=fun h=>e h.symm
     simp [e,e2]
theorem Ds7 {ne:Nat} {fs l:List Nat} (h:Way ne fs 0 l):0 < cntL ne fs 0:=by
 rw [AE9];exact List.length_pos_of_mem (Ay4.2 h)
theorem Du6 {ne:Nat} {fs:List Nat} (h:0 < cntL ne fs 0):∃ l,Way ne fs 0 l:=⟨_,CO9 h⟩
theorem BC7 (s:Nat):∀ (l:List Nat) (i x:Nat),(unionL s i l).testBit x=(List.range l.length).any fun c=>s.testBit (i + c) && (l.getD c 0).testBit x
 | [],i,x=>by simp [unionL]
 | f::l,i,x=>by
   unfold unionL;rw [Nat.testBit_or,BC7 s l (i + 1) x,List.length_cons,List.range_succ_eq_map,List.any_cons,List.any_map]
   congr 1
   · cases h:s.testBit i <;> simp [h]
   · refine congrArg (fun p=>(List.range l.length).any p) ?_
     funext c
     simp only [Function.comp,List.getD_cons_succ];rw [show i + 1 + c=i + (c + 1) by omega]
theorem Cg6 (s:Nat):∀ k,pc s k=(List.range k).countP s.testBit
 | 0=>rfl
 | k + 1=>by
   show pc s k + s / 2 ^ k % 2=_
   rw [List.range_succ,List.countP_append,Cg6 s k,Cb3];simp [List.countP_cons]
theorem Cg5 {s n:Nat} (hn:n≤12) (h:s < 2 ^ n):pc s 12=(List.range n).countP s.testBit:=by rw [DW9 hn h,Cg6]
theorem BC8 {ne:Nat} (s:Nat):∀ (l:List Nat) (i:Nat),(∀ f∈l,f < 2 ^ ne)→unionL s i l < 2 ^ ne
 | [],i,_=>Li _
 | f::l,i,h=>by
   unfold unionL;refine Lj ?_ (BC8 s l (i + 1) fun g hg=>h g (List.mem_cons_of_mem _ hg))
   split
   · exact h f (List.mem_cons_self ..)
   · exact Li _
def cardsOf (n s:Nat):List Nat:=(List.range n).filter s.testBit
theorem Ch5 {ne:Nat} (hn:ne≤12) {fs:List Nat} (hf:∀ f∈fs,f < 2 ^ ne) (s:Nat):nb ne (fitN fs) (cardsOf fs.length s)=pc (unionL s 0 fs) 12:=by
 rw [Cg5 hn (BC8 s fs 0 hf)];unfold nb;refine List.countP_congr fun e _=>?_
 rw [BC7];unfold cardsOf;rw [List.any_filter];simp [fitN,List.any_eq_true]
theorem BN2 {n s:Nat} (hn:n≤12) (h:s < 2 ^ n):(cardsOf n s).length=pc s 12:=by
 rw [Cg5 hn h,List.countP_eq_length_filter];rfl
theorem Cz0 {ne:Nat} (hn:ne≤12) {fs l:List Nat} (hf:∀ f∈fs,f < 2 ^ ne) (hfl:fs.length≤8) (h:Way ne fs 0 l) {s:Nat} (hs:s < 2 ^ fs.length):shortX fs s=false:=by
 have h1:=DJ1 h (S:=cardsOf fs.length s) (List.nodup_range.filter _) (fun c hc=>List.mem_range.1 (List.mem_filter.1 hc).1);rw [Ch5 hn hf,BN2 (by omega) hs] at h1;unfold shortX;exact decide_eq_false (by omega)
def setL (S:List Nat):Nat:=S.foldr (fun c s=>2 ^ c ||| s) 0
theorem Cf8 (x:Nat):∀ S:List Nat,(setL S).testBit x=decide (x∈S)
 | []=>by simp [setL]
 | c::S=>by
   have ih:=Cf8 x S
   show (2 ^ c ||| setL S).testBit x=_
   rw [Nat.testBit_or,Nat.testBit_two_pow,ih]
   by_cases e:c=x
   · subst e;simp
   · have e2:¬ x=c:=fun h=>e h.symm
     simp [e,e2]
theorem BU4 {n:Nat}:∀ {S:List Nat},(∀ c∈S,c < n)→setL S < 2 ^ n
 | [],_=>Li _
 | c::S,h=>Lj (Ll (by decide) (h c (List.mem_cons_self ..))) (BU4 fun d hd=>h d (List.mem_cons_of_mem _ hd))
theorem AV0 {n:Nat} {S:List Nat} (h:∀ c∈S,c < n) (x:Nat):x∈cardsOf n (setL S) ↔ x∈S:=by
 unfold cardsOf;rw [List.mem_filter,Cf8,List.mem_range,decide_eq_true_eq];exact ⟨fun h=>h.2,fun hx=>⟨h x hx,hx⟩⟩
theorem Dg5 {ne:Nat} (hn:ne≤12) {fs:List Nat} (hf:∀ f∈fs,f < 2 ^ ne) (hfl:fs.length≤8) (h:∀ s,s < 2 ^ fs.length→shortX fs s=false):∃ l,Way ne fs 0 l:=by
 refine DJ0 fun S hS hb=>?_
 have h1:=h (setL S) (BU4 hb);unfold shortX at h1;rw [decide_eq_false_iff_not,← Ch5 hn hf,← BN2 (by omega) (BU4 hb)] at h1;have e1:(cardsOf fs.length (setL S)).length=S.length:=Bo9 (List.nodup_range.filter _) hS (AV0 hb)
 have e2:nb ne (fitN fs) (cardsOf fs.length (setL S))=nb ne (fitN fs) S:=by
  unfold nb;refine List.countP_congr fun e _=>?_
  simp only [List.any_eq_true];exact ⟨fun ⟨c,h2,h3⟩=>⟨c,(AV0 hb c).1 h2,h3⟩,fun ⟨c,h2,h3⟩=>⟨c,(AV0 hb c).2 h2,h3⟩⟩
 omega
theorem Ds5 {m:MxA} (hX:mixedX m.pl=true) {s e:Nat} (hI:WhyIs (fsX m.pl) s e):e=0 ↔ 0 < cntX m.pl:=by
 obtain ⟨h4,h8,h12⟩:=Ao8 hX;have hfl:=AF7 m;have hlt:=Cu0 m
 constructor
 · intro he
   have h0:∀ t,t < 2 ^ (fsX m.pl).length→shortX (fsX m.pl) t=false:=fun t ht=>by
    cases hsh:shortX (fsX m.pl) t with
    | false=>rfl
    | true =>
      obtain ⟨h1,_⟩:=hI.min t ht hsh
      rcases hI.se with ⟨h2,_⟩ | ⟨_,h2,_⟩ <;> omega
   obtain ⟨l,hl⟩:=Dg5 h12 hlt (by omega) h0;exact Ds7 hl
 · intro hc
   obtain ⟨l,hl⟩:=Du6 (ne:=(esX m).length) (fs:=fsX m.pl) hc
   rcases hI.se with ⟨_,h2⟩ | ⟨_,_,h2⟩
   · exact h2
   · rw [Cz0 h12 hlt (by omega) hl hI.lt] at h2
     cases h2
structure UsedIs (l:List Nat) (u:Nat):Prop where
 bit:∀ x,u.testBit x=decide (x∈l)
 lt:u < 2 ^ 12
theorem UsedIs.nil:UsedIs [] 0:=⟨fun x=>by simp,by decide⟩
theorem UsedIs.snoc {l:List Nat} {u j:Nat} (h:UsedIs l u) (hj:j < 12):UsedIs (l++[j]) (u ||| 2 ^ j) :=
 ⟨fun x=>by
  rw [Bj6,h.bit]
  by_cases e:j=x
  · subst e;simp
  · have e2:¬ x=j:=fun h=>e h.symm
    simp [e,e2],Lj h.lt (Ll (by decide) hj)⟩
end Go.Hp
namespace Go.Dk
open Go Go.Eng Go.RowKit Go.Pw1 Go.Hp Go.Q
theorem Ce6 {m:MxA} (h:(WhyX m.pl).2=0):waysE m.pl=0:=by
 unfold waysE
 cases hX:mixedX m.pl with
 | false=>unfold WhyX at h;rw [hX] at h;simp at h
 | true =>
   obtain ⟨s,e,hI,he⟩:=DI8 hX;rw [he] at h;have h0:e=0:=by have h1:(e:Int)=0:=h;omega
   have:=(Ds5 hX hI).1 h0
   rw [if_pos rfl,if_neg (by omega)]
end Go.Dk
namespace Go.Q
open Go Go.Eng
theorem DU4:apB π 249=some (20,1,16):=by kernel_rfl
theorem AJ6:placesB π 165=some [(0,1),(1,1),(2,1)]:=by kernel_rfl
end Go.Q
namespace Go.Dk
open Go Go.Eng Go.RowKit Go.Pw1 Go.Hp
theorem CV8 {b:Bn} {w:List Str} (h:w.length ≠ 3):cardD b w = .error 8:=by unfold cardD;rw [if_pos h]
section
variable {b:Bn} {y0 y1 y2:Str}
theorem BN4 (hn:numX y0=none):cardD b [y0,y1,y2] = .error 8:=by unfold cardD;rw [if_neg (by simp)];simp [hn]
variable {n:Int} (hn:numX y0=some n)
include hn
theorem BN3 (hb:¬ b.heap.cards.length < 8):cardD b [y0,y1,y2] = .error 9:=by unfold cardD;rw [if_neg (by simp)];simp [hn,hb]
theorem CV7 (hb:b.heap.cards.length < 8) (hs:(SureX b.heap).2 ≠ 0):cardD b [y0,y1,y2] = .error (SureX b.heap).2:=by unfold cardD;rw [if_neg (by simp)];simp [hn,hb,hs]
theorem CV6 (hb:b.heap.cards.length < 8) (hs:(SureX b.heap).2=0) {m:Mx} (hm:{ b.heap with cards:=b.heap.cards++[⟨n,y1,y2⟩] }=m) (he:(WhyX m).2 ≠ 0):cardD b [y0,y1,y2] = .error (WhyX m).2:=by subst hm;unfold cardD;rw [if_neg (by simp)];simp [hn,hb,hs,he]
theorem Dl0 (hb:b.heap.cards.length < 8) (hs:(SureX b.heap).2=0) {m:Mx} (hm:{ b.heap with cards:=b.heap.cards++[⟨n,y1,y2⟩] }=m) (he:(WhyX m).2=0) (hs2:(SureX m).2=0):cardD b [y0,y1,y2] = .ok ({ b with heap:=m },sayX wCard [b.heap.cards.length]++((newsX (SureX b.heap).1 (SureX m).1).map fun x=>32::sayX wIs [x.1,x.2]).flatten):=by subst hm;unfold cardD;rw [if_neg (by simp)];simp [hn,hb,hs,he,hs2]
end
def oneP (old now:List Int) (i:Nat):List Prt:=if now.getD i 0 = -1∨(old++[-1]).getD i 0 ≠ -1 then [] else [.s wIs,.n i,.n (now.getD i 0)]
def partsK (n0:Int) (old now:List Int) (k:Nat):List Prt:=[.s wCard,.n n0]++((List.range k).map (oneP old now)).flatten
theorem Ba7 (n0:Int) (old now:List Int) (k:Nat):partsK n0 old now (k + 1)=partsK n0 old now k++oneP old now k:=by
 unfold partsK;rw [List.range_succ,List.map_append,List.flatten_append];simp
theorem CH5 {old now:List Int} {i:Nat} (h:now.getD i 0 = -1∨(old++[-1]).getD i 0 ≠ -1):oneP old now i=[]:=if_pos h
theorem Ch2 {old now:List Int} {i:Nat} (h:¬ (now.getD i 0 = -1∨(old++[-1]).getD i 0 ≠ -1)):oneP old now i=[.s wIs,.n i,.n (now.getD i 0)]:=if_neg h
theorem Bo7 (n0:Int) (old now:List Int):∀ k,(partsK n0 old now k).length≤2 + 3 * k
 | 0=>by simp [partsK]
 | k + 1=>by
   have:=Bo7 n0 old now k
   rw [Ba7,List.length_append];have h2:(oneP old now k).length≤3:=by unfold oneP;split <;> simp
   omega
theorem BF9 {n0:Int} {old now:List Int} (h0:In64 n0) (hn:∀ e∈now,In64 e):∀ k,k≤1000→∀ p∈partsK n0 old now k,p.ok∧p.words.length=1
 | 0,_,p,hp=>by
   simp only [partsK,List.range_zero,List.map_nil,List.flatten_nil,List.append_nil,List.mem_cons,List.not_mem_nil,or_false] at hp
   rcases hp with rfl | rfl
   · exact ⟨show wCard.length≤40 by decide,rfl⟩
   · exact ⟨h0,rfl⟩
 | k + 1,hk,p,hp=>by
   rw [Ba7] at hp
   rcases List.mem_append.1 hp with hp | hp
   · exact BF9 h0 hn k (by omega) p hp
   · unfold oneP at hp
     split at hp
     · cases hp
     · simp only [List.mem_cons,List.not_mem_nil,or_false] at hp
       rcases hp with rfl | rfl | rfl
       · exact ⟨show wIs.length≤40 by decide,rfl⟩
       · exact ⟨⟨by omega,by omega⟩,rfl⟩
       · refine ⟨?_,rfl⟩
         show In64 _
         rw [List.getD_eq_getElem?_getD]
         rcases Lc k now.length with h | h
         · rw [List.getElem?_eq_getElem h];exact hn _ (List.getElem_mem h)
         · rw [List.getElem?_eq_none h];exact Ag7
theorem Dn1:∀ {l:List Prt},(∀ p∈l,p.words.length=1)→(l.map Prt.words).flatten.length=l.length
 | [],_=>rfl
 | p::l,h=>by
   simp only [List.map_cons,List.flatten_cons,List.length_append,List.length_cons,h p (List.mem_cons_self ..),Dn1 (l:=l) (fun q hq=>h q (List.mem_cons_of_mem _ hq))];omega
theorem Ch1 (old now:List Int):∀ L:List Nat,(((((L.map (oneP old now)).flatten).map Prt.words).flatten).map fun y:Str=>(32:UInt8)::y).flatten=((L.filterMap fun i=>if now.getD i 0 = -1∨(old++[-1]).getD i 0 ≠ -1 then none else some (i,now.getD i 0)).map fun x:Nat×Int=>32::sayX wIs [x.1,x.2]).flatten
 | []=>rfl
 | i::L=>by
   have ih:=Ch1 old now L;rw [List.filterMap_cons]
   by_cases h:now.getD i 0 = -1∨(old++[-1]).getD i 0 ≠ -1
   · rw [if_pos h,List.map_cons,CH5 h]
     exact ih
   · rw [if_neg h,List.map_cons,Ch2 h]
     simp only [List.flatten_cons,List.map_append,List.flatten_append,ih,List.map_cons];simp [Prt.words,sayX]
theorem Dl1 (n0:Int) (old now:List Int):Lib.join ((partsK n0 old now now.length).map Prt.words).flatten [32]=sayX wCard [n0]++((newsX old now).map fun x=>32::sayX wIs [x.1,x.2]).flatten:=by
 unfold partsK newsX;rw [← Ch1];simp only [List.map_append,List.flatten_append,List.map_cons,List.map_nil,List.flatten_cons,List.flatten_nil,Prt.words,List.cons_append,List.nil_append,List.append_nil];rw [Bg2];simp [sayX]
abbrev prC (p:Prt):LV:=[p.v]
end Go.Dk
namespace Go.Q
open Go Go.Eng Go.Dk Go.RowKit Go.Pw1 Go.Hp
theorem CU2 (xb:Nat) (d:DkX) (c:Cd) (W:World) (hD:DkA W xb d c) (h:waysE d.mx.pl=0):CC 142 #[pV xb] W (News (fun z:IO (SureX d.mx.pl).1=>ownV z.1 (SureX d.mx.pl).1.length) (fun z=>ownB 3 z.1 (intsW (SureX d.mx.pl).1).flatten++[]) W) :=
 Ag8 (Bz2 xb d c W hD h) (by
  rintro e w' ⟨z,rfl,hm⟩
  exact ⟨z,by show Ending.returned _=Ending.returned (ownV z.1 _);rw [Ad3 z.2],hm⟩)
section
variable (xb:Nat) (d:DkX) (c:Cd) (rest:Blks) (W0 w:World) (hL:Lw π W0) (hd:DkOk d)
include hL hd
theorem Ca4 (ws:List Str) (hs:ws.length ≠ 3) (q:OA) (cap:Nat) (nv:Value) (hm0:Mem W0 [] (dkM xb d c (rest++[])) w) :
  CC 96 #[pV xb,.slice q ws.length cap,nv] w (VerbT W0 xb c (cardD d.pl ws) rest):=by
 have hm1:Mem W0 [] ((xb,dkO d c)::(dkB d++(rest++[]))) w:=hm0;refine Ag9 hm1 func96 rfl rfl ?_;refine st ?_;refine Kc ?_;refine su ?_;refine Xh (zF rfl Al1) (fun w hm=>Ad7 _ _ w) (fun e18 he18=>?_) (fun v18 hv18=>?_)
 ·obtain ⟨er18,rfl⟩:=Ac9 he18
  refine Aa1 ?_;refine Ae8 ?_;exact Ae7 ((ownV d.v d.vs.length,ownV d.b d.bs.length,ownV d.c d.cs.length),8) (CV8 hs) rfl (qC pk0)
 obtain ⟨ok18,rfl⟩:=Ad9 hv18;exact absurd (of_decide_eq_true (Ad9 hv18).1) (by omega)
theorem Ca3 (hw:waysE d.mx.pl ≠ 0) (x y0 y1 y2:Str) (r:LV) (sb cap:Nat) (nv:Value) (hcap:3≤cap) (hsh:∀ s∈[y0,y1,y2],s.length≤100000) (hm0:Mem W0 [] (dkM xb d c ((sb,sbO [x,y0,y1,y2] r)::(rest++[]))) w) :
  CC 96 #[pV xb,.slice (some ⟨sb,1,none⟩) 3 cap,nv] w (VerbT W0 xb c (cardD d.pl [y0,y1,y2]) rest):=by
 have hdc:=hd.c;have hcl:d.pl.heap.cards.length=d.cs.length:=rfl;have hyl:=hsh y0 (by simp);have hm1:Mem W0 [] ((xb,dkO d c)::(sb,sbO [x,y0,y1,y2] r)::(ownB 165 d.c (d.cs.map Tn.cells).flatten++(dkNc d++(rest++[])))) w:=hm0.pick (Pick.cnt fun x=>by simp only [dkM,dkB,dkNc,List.count_cons,List.count_append,List.count_nil,Value.I];omega);have hs2:(SureX d.pl.heap).2=waysE d.mx.pl:=by rw [← DkX.mx_pl];unfold SureX;rw [if_neg hw]
 refine Ag9 hm1 func96 rfl rfl ?_;refine st ?_;refine Kc ?_;refine su ?_;refine Xh (zF rfl Al1) (fun w hm=>Ad7 _ _ w) (fun e18 he18=>?_) (fun v18 hv18=>?_)
 ·obtain ⟨er18,rfl⟩:=Ac9 he18
  refine Aa1 ?_;refine Ae8 ?_;exact absurd (of_decide_eq_false er18) (by simp)
 obtain ⟨ok18,rfl⟩:=Ad9 hv18;refine st ?_;refine lv (Ab1 rfl rfl An4 (by omega) (by omega)) ?_;refine lv (Aa5 rfl (fun w hm=>Sl.cellE (AT1 (q:=some ⟨sb,1,none⟩) (hm.at mm1) (fun _=>rfl)) (Mem.refl w) (by simp) AN0 (i:=0) (by simp) (x:=y0) rfl (j:=0) (by decide) (v:=.string (bs y0)) rfl (by simp))) ?_;refine Xh (zF rfl Cj2) (fun w hm=>Av4 _ (by omega) w (hL.mono hm)) (fun e22 he22=>?_) (fun v22 hv22=>?_)
 ·obtain ⟨hn22,rfl⟩:=Ba9 he22
  refine Aa1 ?_;refine Ae8 ?_;exact Ae7 ((ownV d.v d.vs.length,ownV d.b d.bs.length,ownV d.c d.cs.length),8) (BN4 hn22) rfl (qC pk0)
 obtain ⟨n22,hn22,rfl⟩:=Bv7 hv22;refine su ?_;refine lv (Ak0 rfl AZ0 hdc) ?_;refine Xh (zF rfl Al1) (fun w hm=>Ad7 _ _ w) (fun e32 he32=>?_) (fun v32 hv32=>?_)
 ·obtain ⟨er32,rfl⟩:=Ac9 he32
  have hk8:¬ d.cs.length < 8:=by have:=of_decide_eq_false er32;omega
  refine Aa1 ?_;refine Ae8 ?_;exact Ae7 ((ownV d.v d.vs.length,ownV d.b d.bs.length,ownV d.c d.cs.length),9) (BN3 hn22 hk8) rfl (qC pk0)
 obtain ⟨ok32,rfl⟩:=Ad9 hv32;have hk8:d.cs.length < 8:=by have:=of_decide_eq_true ok32;omega
 refine st ?_;refine Xh (zF rfl Bi6) (fun w hm=>Cj7 xb d c w (Am7 hd (hm.pick (news':=dkM xb d c ((sb,sbO [x,y0,y1,y2] r)::(rest++[]))) (Pick.cnt fun x=>by simp only [dkM,dkB,dkNc,nC,Value.I];omega))) hw) (fun e34 he34=>?_) (fun v34 hv34=>?_)
 ·cases he34
  refine Aa1 ?_;refine Ae8 ?_;exact Ae7 ((ownV d.v d.vs.length,ownV d.b d.bs.length,ownV d.c d.cs.length),waysE d.mx.pl) (hs2 ▸ CV7 hn22 hk8 (by rw [hs2];exact hw)) rfl (qC pk0)
 cases hv34
set_option maxHeartbeats 1000000 in
theorem Cu8 (hw:waysE d.mx.pl=0) (x y0 y1 y2:Str) (r:LV) (sb cap:Nat) (nv:Value) (hcap:3≤cap) (hsh:∀ s∈[y0,y1,y2],s.length≤100000) (hm0:Mem W0 [] (dkM xb d c ((sb,sbO [x,y0,y1,y2] r)::(rest++[]))) w) :
  CC 96 #[pV xb,.slice (some ⟨sb,1,none⟩) 3 cap,nv] w (VerbT W0 xb c (cardD d.pl [y0,y1,y2]) rest):=by
 have hdc:=hd.c;have hcl:d.pl.heap.cards.length=d.cs.length:=rfl;have hyl:=hsh y0 (by simp);have hm1:Mem W0 [] ((xb,dkO d c)::(sb,sbO [x,y0,y1,y2] r)::(ownB 165 d.c (d.cs.map Tn.cells).flatten++(dkNc d++(rest++[])))) w:=hm0.pick (Pick.cnt fun x=>by simp only [dkM,dkB,dkNc,List.count_cons,List.count_append,List.count_nil,Value.I];omega);have hs0:(SureX d.pl.heap).2=0:=by rw [← DkX.mx_pl];unfold SureX;rw [if_pos hw]
 have hsl:(SureX d.mx.pl).1.length=d.cs.length:=by unfold SureX;rw [if_pos hw];simp [DkX.mx,MxA.pl]
 refine Ag9 hm1 func96 rfl rfl ?_;refine st ?_;refine Kc ?_;refine su ?_;refine Xh (zF rfl Al1) (fun w hm=>Ad7 _ _ w) (fun e18 he18=>?_) (fun v18 hv18=>?_)
 ·obtain ⟨er18,rfl⟩:=Ac9 he18
  refine Aa1 ?_;refine Ae8 ?_;exact absurd (of_decide_eq_false er18) (by simp)
 obtain ⟨ok18,rfl⟩:=Ad9 hv18;refine st ?_;refine lv (Ab1 rfl rfl An4 (by omega) (by omega)) ?_;refine lv (Aa5 rfl (fun w hm=>Sl.cellE (AT1 (q:=some ⟨sb,1,none⟩) (hm.at mm1) (fun _=>rfl)) (Mem.refl w) (by simp) AN0 (i:=0) (by simp) (x:=y0) rfl (j:=0) (by decide) (v:=.string (bs y0)) rfl (by simp))) ?_;refine Xh (zF rfl Cj2) (fun w hm=>Av4 _ (by omega) w (hL.mono hm)) (fun e22 he22=>?_) (fun v22 hv22=>?_)
 ·obtain ⟨hn22,rfl⟩:=Ba9 he22
  refine Aa1 ?_;refine Ae8 ?_;exact Ae7 ((ownV d.v d.vs.length,ownV d.b d.bs.length,ownV d.c d.cs.length),8) (BN4 hn22) rfl (qC pk0)
 obtain ⟨n22,hn22,rfl⟩:=Bv7 hv22;refine su ?_;refine lv (Ak0 rfl AZ0 hdc) ?_;refine Xh (zF rfl Al1) (fun w hm=>Ad7 _ _ w) (fun e32 he32=>?_) (fun v32 hv32=>?_)
 ·obtain ⟨er32,rfl⟩:=Ac9 he32
  have hk8:¬ d.cs.length < 8:=by have:=of_decide_eq_false er32;omega
  refine Aa1 ?_;refine Ae8 ?_;exact Ae7 ((ownV d.v d.vs.length,ownV d.b d.bs.length,ownV d.c d.cs.length),9) (BN3 hn22 hk8) rfl (qC pk0)
 obtain ⟨ok32,rfl⟩:=Ad9 hv32;have hk8:d.cs.length < 8:=by have:=of_decide_eq_true ok32;omega
 refine st ?_;refine Xo [(xb,_),(sb,_)] _ rfl (zF rfl Bi6) (fun w hm=>CU2 xb d c w (Am7 hd (hm.pick (news':=dkM xb d c ((sb,sbO [x,y0,y1,y2] r)::(rest++[]))) (Pick.cnt fun x=>by simp only [dkM,dkB,dkNc,nC,Value.I];omega))) hw) (fun z34=>?_)
 obtain ⟨y34,hy34⟩:=z34;dsimp only;refine zn (Lu (parts:=[(0,.const (.I (-1)))]) rfl Af6 Al2 rfl rfl rfl rfl) (fun b35=>?_)
 refine Kh (A:=[(b35,_),(xb,_),(sb,_)]) (B:=_) (x:=y34) (ys:=[.I (-1)]) BO3 rfl rfl rfl hy34 rfl (fun h=>by cases h) (fun w hm=>Aj6 (hm.at mm0)) (Ao0 rfl) (by simp only [maxLen];omega) (by omega) rfl (fun z36 hz36=>?_)
 refine vQ ?_;refine nnx ?_;refine Lx ?_;rw [← AQ9] at hz36 ⊢;obtain ⟨bz36,cz36,rz36,rfl,lz361,lz362,lz363⟩:=hz36.has (by omega);refine Am2 (X:=Eng.Own) 17 (n0:=[(b35,_),(sb,_),(bz36,_)]) (fun z q=>q) (fun z=>[]) (fun z=>[(xb,.cells ([ownV d.v d.vs.length,ownV d.b d.bs.length,ownV z (d.cs.length + 1)]++(bareC c).cells none 0++[Value.bool true]).toArray 88)]) (fun z=>ownB 165 z ((d.cs.map Tn.cells).flatten++(⟨n22,y1,y2⟩:Tn).cells)++(dkNc d++(rest++[]))) (fun z=>OwnOk 3 z (d.cs.length + 1) ((d.cs.map Tn.cells).flatten++(⟨n22,y1,y2⟩:Tn).cells)) Ah8 (qF .nil) (zS 0 rfl (zS 1 rfl (zS 2 rfl (zS 7 rfl (zS 8 rfl (zS 9 rfl (Sub.nil _))))))) (qC (qD (qD .nil))) ?_ ?_
 ·refine zw 0 ?_
  refine zw 1 ?_;refine zw 2 ?_;refine zw 3 ?_;refine zw 4 ?_;refine zw 5 ?_;refine zw 6 ?_;refine zw 7 ?_;refine zw 8 ?_;refine zv 9 rfl (Ab1 rfl rfl An4 (by omega) (by omega)) ?_;refine zv 10 rfl (Aa5 rfl (fun w hm=>Sl.cellE (AT1 (q:=some ⟨sb,1,none⟩) (hm.at mm2) (fun _=>rfl)) (Mem.refl w) (by simp) AN0 (i:=1) (by simp) (x:=y1) rfl (j:=0) (by decide) (v:=.string (bs y1)) rfl (by simp))) ?_;refine zw 11 ?_;refine zv 12 rfl (Ab1 rfl rfl An4 (by omega) (by omega)) ?_;refine zv 13 rfl (Aa5 rfl (fun w hm=>Sl.cellE (AT1 (q:=some ⟨sb,1,none⟩) (hm.at mm2) (fun _=>rfl)) (Mem.refl w) (by simp) AN0 (i:=2) (by simp) (x:=y2) rfl (j:=0) (by decide) (v:=.string (bs y2)) rfl (by simp))) ?_;refine zv 14 rfl (Lr (parts:=[(0,.tmp 44),(1,.tmp 47),(2,.tmp 50)]) rfl AC9 AJ6 rfl) ?_;refine zA 15 ?_;refine Xf rfl (Lu (parts:=[(0,.tmp 51)]) rfl AZ0 AC9 rfl rfl rfl rfl) (fun b52=>(Aa2 (qF (qC .nil)) (qD (qD (qD (qD .nil)))) rfl ?_))
  refine zA 16 ?_;refine Kw (A:=[(b52,_),(b35,_),(xb,_),(sb,_),(bz36,_)]) (B:=_) (x:=d.c) (ys:=(⟨n22,y1,y2⟩:Tn).cells) rfl DU1 rfl rfl rfl hdc rfl (fun h=>by cases h) (fun w hm=>Aj6 (hm.at mm0)) (Ao0 rfl) (by simp only [maxLen];omega) (by omega) rfl (fun z53 hz53=>(Aa2 (qF (qC .nil)) (qF (qC .nil)) rfl ?_))
  refine zt ?_;refine zp 17 ?_;refine zp 18 ?_;refine zp 19 ?_;refine zp 20 ?_;refine zB 21 ?_;refine Xr rfl (AA5 rfl rfl (.there (.there .here)) Bu5 rfl rfl) (Ab2 ?_)
  refine zd ?_;exact Af4 z53 hz53 rfl (zS 0 rfl (zS 1 rfl (zS 2 rfl (zS 7 rfl (zS 8 rfl (zS 9 rfl (Sub.nil _))))))) (qH (qD (qD (qD (Pick.skip (Pick.same rfl))))))
 intro z zI;have hz1:=zI;have hd2:=hd.card (t:=⟨n22,y1,y2⟩) hz1 ⟨by (have:=hsh y1 (by simp);show y1.length≤_;omega),by (have:=hsh y2 (by simp);show y2.length≤_;omega)⟩ hk8;obtain ⟨m,hme⟩:∃ m:Mx,{ d.pl.heap with cards:=d.pl.heap.cards++[⟨n22,y1,y2⟩] }=m:=⟨_,rfl⟩;have hpl2:(DkX.pl { d with c:=z,cs:=d.cs++[⟨n22,y1,y2⟩] }).heap=m:=by (rw [DkX.pl_card,← hme])
 have hmx2:(DkX.mx { d with c:=z,cs:=d.cs++[⟨n22,y1,y2⟩] }).pl=m:=by (rw [DkX.mx_pl];exact hpl2)
 refine su ?_;refine zc (zF rfl CS8) (fun w hm=>(by have h:=Bm3 (xb:=xb) (d:={ d with c:=z,cs:=d.cs++[⟨n22,y1,y2⟩] }) (c:=c) (tl:=rest++[]) d.bs.length (d.cs.length + 1) hd2 (hm.pick (Pick.cnt fun x=>by simp only [dkM,dkO,dkB,DkX.cells,dkNc,List.length_append,List.length_singleton,Av7,List.append_nil,List.append_assoc,List.cons_append,List.nil_append,nC,Value.I];omega)) rfl (by simp);rw [hpl2] at h;exact h)) ?_;refine Xh (zF rfl Au5) (fun w hm=>Ah2 _ w) (fun e68 he68=>?_) (fun v68 hv68=>?_)
 ·obtain ⟨er68,rfl⟩:=An2 he68
  refine Aa1 ?_;refine Ae8 ?_;exact Ae7 ((ownV d.v d.vs.length,ownV d.b d.bs.length,ownV z (d.cs.length + 1)),(WhyX m).2) (CV6 hn22 hk8 hs0 hme er68) rfl (qC pk0)
 obtain ⟨ok68,rfl⟩:=Au3 hv68;have hw2:waysE m=0:=by (have h:=Ce6 (m:=DkX.mx { d with c:=z,cs:=d.cs++[⟨n22,y1,y2⟩] }) (by rw [hmx2];exact ok68);rwa [hmx2] at h)
 have hs2:(SureX m).2=0:=by (unfold SureX;rw [if_pos hw2])
 have hsl2:(SureX m).1.length=d.cs.length + 1:=by (unfold SureX;rw [if_pos hw2,← hme];simp [DkX.pl])
 have hsb2:∀ e∈(SureX m).1,In64 e:=by (have h:=CC0 (DkX.mx { d with c:=z,cs:=d.cs++[⟨n22,y1,y2⟩] });rwa [hmx2] at h)
 refine st ?_;refine lv (Lz rfl Ap9) ?_;refine lv (Lz rfl Aw9) ?_;refine zn (Lu (parts:=[(0,.tmp 69),(1,.tmp 71)]) rfl Ap8 Am6 rfl rfl rfl rfl) (fun b72=>?_)
 refine RunC.label ?_;refine st ?_;refine Xo [(b72,_),(xb,_),(b35,_),(sb,_),(bz36,_)] _ rfl (zF rfl Bi6) (fun w hm=>(by have h:=Bz2 xb { d with c:=z,cs:=d.cs++[⟨n22,y1,y2⟩] } c w (Am7 hd2 (hm.pick (news':=dkM xb { d with c:=z,cs:=d.cs++[⟨n22,y1,y2⟩] } c (rest++[])) (Pick.cnt fun x=>by simp only [dkM,dkO,dkB,DkX.cells,dkNc,List.length_append,List.length_singleton,Av7,List.append_nil,List.append_assoc,List.cons_append,List.nil_append,nC,Value.I];omega))) (by rw [hmx2];exact hw2);rw [hmx2] at h;exact h)) (fun z74=>?_)
 obtain ⟨y74,hy74⟩:=z74;dsimp only;refine su ?_;refine Af2 (X:=Eng.Own×List Prt) (n0:=[(b35,_),(bz36,_),(xb,_),(sb,_)]) (d.cs.length + 1) (fun k x q=>(76,.I (k:Int))::(12,ownV x.1 x.2.length)::q) (fun _ _=>_) (fun k x=>[]) (fun k x=>ownB 20 x.1 (x.2.map prC).flatten++(ownB 3 y74 (intsW (SureX m).1).flatten++(ownB 165 z ((d.cs.map Tn.cells).flatten++(⟨n22,y1,y2⟩:Tn).cells)++(dkNc d++(rest++[]))))) (fun k x=>OwnOk 1 x.1 x.2.length (x.2.map prC).flatten∧x.2=partsK (d.cs.length:Int) (SureX d.mx.pl).1 (SureX m).1 k) (some (b72,2,[]),partsK (d.cs.length:Int) (SureX d.mx.pl).1 (SureX m).1 0) ⟨⟨rfl,fun h=>(by cases h),fun b c r h=>(by cases h;exact ⟨Nat.le_refl 2,by simp [maxLen],rfl⟩)⟩,rfl⟩ rfl (zE 76 rfl rfl (zE 12 rfl rfl (zS 9 rfl (zS 74 rfl (zS 75 rfl (Sub.nil _)))))) (qH (qI (qD (qD (Pick.same (by rfl)))))) ?_;intro k x kN kI;obtain ⟨x1,xl⟩:=x;obtain ⟨hx1,hxl⟩:=kI;dsimp only at hx1 hxl ⊢;have hxn:=Bo7 (d.cs.length:Int) (SureX d.mx.pl).1 (SureX m).1 k;rw [← hxl] at hxn;refine st ?_;refine cn rfl ?_ ?_
 ·intro c0'
  have hk:k < d.cs.length + 1:=by omega
  refine st ?_;refine lv (Aa3 rfl rfl Af6 (by omega) (by rw [hsl2];omega) (Ba8 hy74 (by omega))) ?_;refine lv (Aa5 rfl (fun w hm=>Sl.loadM1 (Am3 (f:=fun x:Int=>[Value.int .i64 x]) (e:=3) (fun _=>rfl) (by decide) hy74 (fun b o h=>hm.at (.tail _ (.tail _ (.tail _ (.tail _ ((by first | exact List.mem_append_right _ (List.mem_append_left _ h) | exact List.mem_append_right _ (List.mem_append_right _ (List.mem_append_left _ h)))))))))) (by decide) (Mem.refl w) (by simp) Ae0 (i:=k) (by rw [hsl2];exact hk) (v:=.int .i64 ((SureX m).1.getD k 0)) (by simp [List.getD_eq_getElem?_getD,hsl2,hk]))) ?_
  refine Ac5 (dj:=83) (dp:=89) 6 rfl (fun g83=>by
   have g83':=g83;try simp only [nH] at g83'
   refine st ?_;refine lv (Ab1 rfl rfl Af6 (by omega) (by omega)) ?_;refine Xa (Aa5 rfl (fun w hm=>Sl.loadM1 (f:=fun x:Int=>[Value.int .i64 x]) (l:=(SureX d.mx.pl).1++[-1]) (Sl.rowsR (xs:=intsW ((SureX d.mx.pl).1++[-1])) (hm.at mm1) (fun x hx=>by obtain ⟨t,_,rfl⟩:=List.mem_map.1 hx;rfl)) (by decide) (Mem.refl w) (by simp) Ae0 (i:=k) (by simp only [List.length_append,List.length_singleton,hsl];exact hk) (v:=.I (((SureX d.mx.pl).1++[-1]).getD k 0)) (congrArg (fun x:Int=>some (Value.int .i64 x)) (by rw [List.getD_eq_getElem?_getD,List.getElem?_eq_getElem (by simp only [List.length_append,List.length_singleton,hsl];exact hk),Option.getD_some])))) ?_;refine sv ?_;exact zs g83
  ) (fun g83=>by
    iterate 5 refine nQ ?_
    refine sv ?_;exact zs g83
  ) ?_
  refine st ?_;refine cn rfl ?_ ?_
  ·intro c1'
   have hcc:(SureX m).1.getD k 0 = -1∨((SureX d.mx.pl).1++[-1]).getD k 0 ≠ -1:=by simpa using c1'
   refine Ls ?_;refine Ac0 ?_;refine Aa4 ?_;refine st ?_;refine lA ?_;exact Ac3 (x1,xl) (by omega) ⟨hx1,by rw [Ba7,CH5 hcc,List.append_nil];exact hxl⟩ rfl (zE 76 rfl rfl (zE 12 rfl (by first | rfl | simp) (zS 9 rfl (zS 74 rfl (zS 75 rfl (Sub.nil _)))))) (qF (Pick.same (by first | rfl | (simp only [List.map_append,List.flatten_append];rfl) | simp)))
  intro c1';have hcc:¬ ((SureX m).1.getD k 0 = -1∨((SureX d.mx.pl).1++[-1]).getD k 0 ≠ -1):=by simpa using c1'
  refine st ?_;refine lv (Lz rfl Ap9) ?_;refine lv (Lz rfl Aw9) ?_;refine lv (Lz rfl Aw9) ?_;refine zn (Lu (parts:=[(0,.tmp 91),(1,.tmp 93),(2,.tmp 95)]) rfl Ap8 Am6 rfl rfl rfl rfl) (fun b96=>?_)
  refine Kh (A:=[(b96,_),(b35,_),(bz36,_),(xb,_),(sb,_)]) (B:=_) (x:=x1) (ys:=([Prt.s wIs,Prt.n (k:Int),Prt.n ((SureX m).1.getD k 0)].map prC).flatten) DU4 rfl rfl rfl hx1 rfl (fun h=>by cases h) (fun w hm=>Aj6 (hm.at mm0)) (Ao0 rfl) (by simp only [maxLen];omega) (by omega) rfl (fun z97 hz97=>?_)
  refine st ?_;refine lA ?_;exact Ac3 (z97,xl++[Prt.s wIs,Prt.n (k:Int),Prt.n ((SureX m).1.getD k 0)]) (by omega) ⟨by have h:=hz97;simp only [List.map_append,List.flatten_append,List.length_append,List.length_cons,List.length_nil];simpa using h,by rw [Ba7,Ch2 hcc,← hxl]⟩ rfl (zE 76 rfl rfl (zE 12 rfl (by first | rfl | simp) (zS 9 rfl (zS 74 rfl (zS 75 rfl (Sub.nil _)))))) (qD (qD (qD (qD (Pick.skip (Pick.same (by first | rfl | simp)))))))
 intro c0';have hkn:k=(SureX m).1.length:=by omega
 have hpok:=BF9 (n0:=(d.cs.length:Int)) (old:=(SureX d.mx.pl).1) (now:=(SureX m).1) ⟨by omega,by omega⟩ hsb2 k (by omega);rw [← hxl] at hpok;have hsay:=Dl1 (d.cs.length:Int) (SureX d.mx.pl).1 (SureX m).1;rw [← hkn,← hxl] at hsay;refine Ls ?_;refine su ?_;refine Aa4 ?_;refine st ?_;refine zc (zF rfl An5) (fun w hm=>(by rw [Ad3 hx1];have h:=Bn9 xl (ownQ x1) (ownK x1) 0 (ownC x1) w (hL.mono hm.zero) (Am3 (f:=prC) (e:=20) (fun _=>rfl) (by decide) hx1 (fun b o h=>hm.at (.tail _ (.tail _ (.tail _ (.tail _ ((by first | exact List.mem_append_left _ h | exact List.mem_append_right _ (List.mem_append_left _ h))))))))) (by omega) (fun p hp=>(hpok p hp).1) (by rw [Dn1 (fun p hp=>(hpok p hp).2)];omega);rw [hsay] at h;exact h)) ?_;refine Ai8 ?_;exact Am0 ({ d with c:=z,cs:=d.cs++[⟨n22,y1,y2⟩] },sayX wCard [(d.cs.length:Int)]++((newsX (SureX d.mx.pl).1 (SureX m).1).map fun x=>32::sayX wIs [x.1,x.2]).flatten) ⟨hd2,by rw [Dl0 hn22 hk8 hs0 hme ok68 hs2,DkX.mx_pl];exact congrArg (fun b=>Except.ok (b,sayX wCard [(d.cs.length:Int)]++((newsX (SureX d.pl.heap).1 (SureX m).1).map fun x=>32::sayX wIs [x.1,x.2]).flatten)) (by rw [DkX.pl_card,hme])⟩ rZ rfl (Pick.cnt fun x=>by simp only [dkM,dkO,dkB,DkX.cells,dkNc,List.length_append,List.length_singleton,Av7,List.append_nil,List.append_assoc,List.cons_append,List.nil_append,nC,Value.I];omega)
end
theorem CP6:Enters π 70:=eZ func70
theorem DQ6:Enters π 76:=eZ func76
theorem DQ4:Enters π 78:=eZ func78
end Go.Q
namespace Go.Eng
open Go Go.RowKit
section
variable {P:Program} {ops:Array Oper} {Q:Exit→Act→World→Prop} {n:Nat} {r:Regs} {ds:List Deferred} {W:World} {chg news:Blks} {rest:List Oper}
variable {d:Nat} {ty:TypeId} {pos:String} {after:Array Edge} {dst:Option Tmp} {gd:Option (Nat×Bool)}
theorem AM7 {x y:Operand} {T e:TypeId} {n sz by_:Nat} {zs:LV} {kx ky:IntKind} (hx:rev r x=some (.int kx (n:Int))) (hy:rev r y=some (.int ky (n:Int))) (hT:apB P T=some (e,sz,by_)) (hz:zeroB P e=some zs) (hn:n≤10000) (hb:by_≤1000) (hs:sz≤100) :
  New P r W chg news { dst,op:=.makeSlice T x y,type:=ty,pos,after,guard:=gd } (fun b=>.slice (some ⟨b,0,none⟩) n n) (.cells (madeCells zs.toArray (n * sz)).toList.toArray e) :=
 ⟨fun a w ha _=>by
  obtain ⟨hu,i,zz,hi,hzi,h2,h3,_,_⟩:=BB2 hT;unfold zeroB at hz;simp only [hi,hzi,Option.bind_some,Option.map_some,Option.some.injEq] at hz
  have hz2:zz.cells=zs.toArray:=by
   apply Array.toList_inj.1
   rw [hz]
  have hb2:(i.bytes:Int) * (n:Int)≤281474976710656:=by
   have h4:i.bytes * n≤1000 * 10000:=Nat.mul_le_mul (by omega) hn;have h5:((i.bytes * n:Nat):Int)≤281474976710656:=by omega
   rwa [Int.natCast_mul] at h5
  have hc2:n * i.size≤16777216:=Kt (Nat.mul_le_mul hn (show i.size≤100 by omega)) (by decide);have hr:=run_makeSlice (P:=P) w T e i zz hu hi hzi kx ky n n (by omega) (Int.le_refl _) (by simpa using hc2) hb2 (by omega);rw [h2,hz2,Int.toNat_natCast] at hr;simp [execOp,ha.eval hx,ha.eval hy,hr]⟩
theorem CE8 (w:World) (dT sT ty elem g n dCap sCap sz:Nat) (q:OA) (cur:Array Value) (t:TypeId) (cs:LV)
  (hu:P.underlying dT=some (.slice elem)) (hs:(P.info? elem).map (·.size)=some sz) (hg:w.heap[g]? = some (.cells cur t (0,0))) (hn:cs.length=n * sz) (hc:cur.size=n * sz) (hq:q=none→n=0)
  (hsrc:∀ j v,cs[j]? = some v→∃ a,q=some a∧w.cell? (a.add j)=some v) (h1:∀ v∈cs,v.oneCell'=true) :
  (Builtin.copy_ #[dT,sT] ty #[.slice (some ⟨g,0,none⟩) n dCap,.slice q n sCap]).run P w = .ok (goInt n) (w.setRow g cs.toArray):=by
 have hst:=run_storeCells_at P g 0 t cs 0 cur w hg (by omega) h1
 have e1:(cur.toList.take (0 + 0)++cs++cur.toList.drop (0 + 0 + cs.length)).toArray=cs.toArray:=by
  rw [List.drop_eq_nil_of_le (by simp;omega)];simp
 rw [e1] at hst
 cases hi:P.info? elem with
 | none=>simp [hi] at hs
 | some i =>
   have hsz:i.size=sz:=by simpa [hi] using hs
   cases q with
   | some a =>
     have hl:=run_loadCells_list (P:=P) w a cs (fun j v h=>by obtain ⟨a',h2,h3⟩:=hsrc j v h;cases h2;exact h3);rw [hn] at hl;simp [Builtin.copy_,run_underlying hu,Builtin.lenOf,Builtin.firstCells,sizeOf,typeInfo,hi,hsz,hl,hst]
   | none =>
     obtain rfl:=hq rfl;have hcs:cs=[]:=List.eq_nil_of_length_eq_zero (by simpa using hn);subst hcs;simp [Builtin.copy_,run_underlying hu,Builtin.lenOf,Builtin.firstCells,sizeOf,typeInfo,hi,hst]
theorem Bs2 {x y:Operand} {T e T0:TypeId} {g l cap c sz:Nat} {q:OA} {cur cs:LV} {news':Blks} (hx:rev r x=some (.slice (some ⟨g,0,none⟩) l cap)) (hy:rev r y=some (.slice q l c)) (hT:slB P T=some (e,sz)) (hq:q=none→l=0)
  (hu:Upd news g (.cells cur.toArray T0) (.cells cs.toArray T0) news') (hl:cs.length=l * sz) (hcur:cur.length=l * sz) (hsrc:∀ w,Mem W chg news w→∀ j v,cs[j]? = some v→∃ a,q=some a∧w.cell? (a.add j)=some v) (h1:∀ v∈cs,v.oneCell'=true) (hd:Nat.ble (d + 1) n=true)
  (h:RunL P ops Q n rest ((d,.I (l:Int))::r) ds W chg news') :
  RunL P ops Q n ({ dst:=some d,op:=.call { callee:=.builtin .copy,args:=#[x,y],argTypes:=#[T,T] },type:=ty,pos,after,guard:=none }::rest) r ds W chg news:=fun ac w st =>
 wpList_plain rfl fun K hK=>by
  have hb:=(st.mem.newd _ _ hu.mem).2
  obtain ⟨hu2,j,hj,hj1⟩:P.underlying T=some (.slice e)∧∃ j,P.info? e=some j∧j.size=sz:=by
   unfold slB at hT
   split at hT
   · rename_i e2 hu
     cases hj:P.info? e2 with
     | none=>simp [hj] at hT
     | some j =>
       simp [hj] at hT
       obtain ⟨rfl,hj1⟩:=hT;exact ⟨hu,j,hj,hj1⟩
   · cases hT
  have hrun:=CE8 (P:=P) w T T ty e g l cap c sz q cur.toArray T0 cs hu2 (by rw [hj];simp [hj1]) hb hl (by simpa using hcur) hq (hsrc w st.mem) h1;unfold Oper.wp;simp [execOp,resolve,invoke,builtin,st.agree.eval hx,st.agree.eval hy,hrun,Result.andThen]
  refine hK _ _ (h _ _ ?_)
  have e2:goInt l = .int .i64 (l:Int):=rfl;rw [e2];have st2:=st.put (La hd) (.int .i64 (l:Int));exact ⟨st2.size,st2.agree,st2.defers,st.mem.upd_new hu rfl rfl rfl (by simp) (fun k _ hk=>setRow_other w g k _ hk) (setRow_heap w g cur.toArray cs.toArray T0 _ hb)⟩
theorem CI4 {A B v:LV} {j:Nat} {x:Value} (h:v[j]? = some x):(A++(v++B))[A.length + j]? = some x:=by
 rw [List.getElem?_append_right (by omega),Nat.add_sub_cancel_left,List.getElem?_append_left (List.getElem?_eq_some_iff.1 h).1];exact h
end
end Go.Eng
namespace Go.Dk
open Go Go.Eng Go.RowKit Go.Pw1 Go.Hp
theorem CG8 {x:Eng.Own}:ownQ x=none→ownC x=0:=fun e=>by
 match x,e with
 | none,_=>rfl
theorem Cg9 {sz:Nat} {b n:Nat} {xs:LV} (h:xs.length=n * sz) (hn:n≤maxLen):OwnOk sz (some (b,n,[])) n xs:=⟨h,fun h=>(by cases h),fun b c r h2=>(by cases h2;exact ⟨Nat.le_refl _,hn,by rw [List.append_nil];exact h⟩)⟩
def BoX.cellsS (x:BoX):LV:=x.a.cells
theorem BE5 {α:Type} {f:α→LV} {x vs:List α} {k:Nat} (hk:k < vs.length) {v:α} (hv:vs[k]=v):((x++vs.drop k).map f).flatten=(x.map f).flatten++(f v++((vs.drop (k + 1)).map f).flatten):=by
 subst hv;rw [List.drop_eq_getElem_cons hk,List.map_append,List.map_cons,List.flatten_append,List.flatten_cons]
abbrev CV (vs:List VwX):={ z:Eng.Own×List VwX // OwnOk 13 z.1 vs.length (z.2.map VwX.cells).flatten∧z.2.map VwX.pl=vs.map VwX.pl∧∀ x∈z.2,OwnOk 9 x.t x.p.things.length (x.p.things.map Th.cells).flatten }
abbrev CB (vs:List BoX):={ z:Eng.Own×List BoX // OwnOk 2 z.1 vs.length (z.2.map BoX.cells).flatten∧z.2.map BoX.pl=vs.map BoX.pl∧∀ x∈z.2,OwnOk 1 x.t x.titles.length (strsC x.titles) }
end Go.Dk
namespace Go.Q
open Go Go.Eng Go.Dk Go.RowKit Go.Pw1 Go.Hp
abbrev rowsVwX (l:List VwX):Obj:=.cells (l.map VwX.cellsS).flatten.toArray 46 (0,0)
theorem AZ5 (vb:Nat) (A B:LV) (v:VwX) (rest:Blks) (W0 w:World) (hT:Sl W0 (ownQ v.t) (ownK v.t) 0 9 (v.p.things.map Th.cells)) (hl:v.p.things.length≤1000) (off:Nat) (ho:off=A.length) (hm0:Mem W0 [] ((vb,.cells (A++(v.cellsS++B)).toArray 46)::(rest++[])) w) :
  CC 76 #[.pointer (some ⟨vb,off,none⟩)] w (Grow W0 [] (fun _:OC 9 v.p.things.length (v.p.things.map Th.cells).flatten=>.tuple #[]) (fun z=>(vb,.cells (A++(VwX.cellsS { v with t:=z.1 }++B)).toArray 46)::(ownB 145 z.1 (v.p.things.map Th.cells).flatten++(rest++[]))) (fun _=>True)):=by
 subst ho;refine Ag9 hm0 func76 rfl rfl ?_;refine su ?_;refine lv (Aa5 rfl (fun w hm=>Ag5 AD3 (by rw [Ae1 (hm.at mm0)];exact CI4 (j:=7) (v:=v.cellsS) (x:=.slice (ownQ v.t) v.p.things.length (ownC v.t)) rfl))) ?_;refine Xo [(vb,_)] _ rfl (zF rfl CP6) (fun w hm=>AF0 v.p.things hl (ownQ v.t) (ownK v.t) 0 (ownC v.t) w (Sl.mono hT (by decide) hm (by simp)) CG8) (fun z8=>?_)
 obtain ⟨y8,hy8⟩:=z8;dsimp only;refine su ?_;refine Xs (Lt (cs:=A++(v.cellsS++B)) (cs':=A++(VwX.cellsS { v with t:=y8 }++B)) rfl rfl .here AD3 rfl (Be7 (o:=7) (AP7 (o:=7) rfl))) ?_;refine st ?_;exact BQ5 ⟨y8,hy8⟩ trivial (.r0 rfl) rfl (qC (Pick.refl _))
theorem AZ3 (vs:List VwX) (hn:vs.length≤1000) (q:OA) (b o cap:Nat) (W:World) (hS:Sl W q b o 13 (vs.map VwX.cellsS)) (hT:∀ v∈vs,Sl W (ownQ v.t) (ownK v.t) 0 9 (v.p.things.map Th.cells)) (hl:∀ v∈vs,v.p.things.length≤1000) :
  CC 75 #[.slice q vs.length cap,.func (.func 76) #[] #[]] W (News (fun z:CV vs=>.slice (ownQ z.1.1) vs.length (ownC z.1.1)) (fun z=>(ownB 46 z.1.1 (z.1.2.map VwX.cells).flatten++(z.1.2.map vwB).flatten)++[]) W):=by
 have hq:q=none→vs.length=0:=fun hq=>by
  cases vs with
  | nil=>rfl
  | cons v vs=>have:=hS.at' (by simp);rw [hq] at this;cases this
 have hfl:(vs.map VwX.cellsS).flatten.length=vs.length * 13:=Aj8 (f:=VwX.cellsS) (fun _=>rfl) vs;refine cS func75 ?_;refine su ?_;refine zn (AM7 rfl rfl DU3 BQ8 (by omega) (by decide) (by decide)) (fun b9=>?_)
 refine Bs2 (cs:=(vs.map VwX.cellsS).flatten) rfl rfl AL6 hq .here hfl (by rw [Array.length_toList,size_madeCells]) (fun w hm=>(hS.mono (by decide) hm (by simp)).flat (by decide)) (AK1 (fun _=>rfl) _) rfl ?_;refine su ?_;refine Af2 (X:=List VwX) (n0:=[]) (vs.length) (fun k x q=>(15,.int .i64 (k:Int))::q) (fun _ _=>_) (fun k x=>[(b9,rowsVwX (x++vs.drop k))]) (fun k x=>(x.map vwB).flatten++[]) (fun k x=>x.length=k∧x.map VwX.pl=(vs.take k).map VwX.pl∧∀ y∈x,OwnOk 9 y.t y.p.things.length (y.p.things.map Th.cells).flatten) [] ⟨rfl,rfl,fun y hy=>by cases hy⟩ rfl (zE 15 rfl rfl (zS 1 rfl (zS 5 rfl (zS 14 rfl (Sub.nil _))))) (qC (Pick.same rfl)) ?_;intro k x kN kI;obtain ⟨kI1,kI2,kI3⟩:=kI;refine st ?_;refine cn rfl ?_ ?_
 ·intro c0'
  have hk:k < vs.length:=by omega
  obtain ⟨v,hv⟩:∃ v,vs[k]=v:=⟨_,rfl⟩;refine st ?_;refine lv (Ab1 rfl rfl AL6 (by omega) (by omega)) ?_;refine Xq (Ab4 rfl rfl DQ6) (fun w hm=>(by have hm2:Mem W [] ((b9,.cells ((x.map VwX.cellsS).flatten++(VwX.cellsS v++((vs.drop (k + 1)).map VwX.cellsS).flatten)).toArray 46)::((x.map vwB).flatten++[])) w:=(by rw [← BE5 hk hv];exact hm);exact AZ5 b9 ((x.map VwX.cellsS).flatten) (((vs.drop (k + 1)).map VwX.cellsS).flatten) v ((x.map vwB).flatten) W w (hT v (hv ▸ List.getElem_mem hk)) (hl v (hv ▸ List.getElem_mem hk)) _ (by rw [Aj8 (f:=VwX.cellsS) (sz:=13) (fun _=>rfl),kI1];simp) hm2)) (fun z22 hz22=>?_)
  obtain ⟨z22,hzz22⟩:=z22;dsimp only;refine st ?_;refine lA ?_;exact Ac3 (x++[{ v with t:=z22 }]) (by omega) ⟨by simp [kI1],by rw [List.map_append,kI2,List.take_succ_eq_append_getElem hk,List.map_append,hv];rfl,fun y hy=>by rcases List.mem_append.1 hy with hy | hy;exact kI3 y hy;rw [List.mem_singleton.1 hy];exact hzz22⟩ rfl (zE 15 rfl rfl (zS 1 rfl (zS 5 rfl (zS 14 rfl (Sub.nil _))))) (Pick.cnt fun x=>by simp only [nC,rowsVwX,vwB,Ao3,List.append_assoc,List.map_append,List.map_cons,List.map_nil,List.flatten_append,List.flatten_cons,List.flatten_nil,List.append_nil];omega)
 intro c0';have hk:k=vs.length:=by omega
 refine Ls ?_;refine su ?_;refine Aa4 ?_;refine su ?_;exact (by rw [hk,List.take_length] at kI2;rw [hk,List.drop_length,List.append_nil];have hxl:x.length=vs.length:=(by omega);have hcs:x.map VwX.cellsS=x.map VwX.cells:=List.map_congr_left (fun y hy=>(VwX.cells_eq (kI3 y hy)).symm);exact Ld (chg:=[]) rZ (fun _ hm=>⟨⟨(some (b9,vs.length,[]),x),Cg9 (by rw [Aj8 (f:=VwX.cells) (sz:=13) (fun _=>rfl),hxl]) (by simp only [maxLen];omega),kI2,kI3⟩,rfl,hm.pick (Pick.cnt fun u=>by simp only [ownB,rowsVwX,hcs,List.append_nil,nC];omega)⟩))
abbrev rowsBoX (l:List BoX):Obj:=.cells (l.map BoX.cellsS).flatten.toArray 65 (0,0)
theorem AZ6 (vb:Nat) (A B:LV) (v:BoX) (rest:Blks) (W0 w:World) (hT:Sl W0 (ownQ v.t) (ownK v.t) 0 1 (v.titles.map strC)) (hl:v.titles.length≤1000) (off:Nat) (ho:off=A.length) (hm0:Mem W0 [] ((vb,.cells (A++(v.cellsS++B)).toArray 65)::(rest++[])) w) :
  CC 78 #[.pointer (some ⟨vb,off,none⟩)] w (Grow W0 [] (fun _:OC 1 v.titles.length (v.titles.map strC).flatten=>.tuple #[]) (fun z=>(vb,.cells (A++(BoX.cellsS { v with t:=z.1 }++B)).toArray 65)::(ownB 9 z.1 (v.titles.map strC).flatten++(rest++[]))) (fun _=>True)):=by
 subst ho;refine Ag9 hm0 func78 rfl rfl ?_;refine su ?_;refine lv (Aa5 rfl (fun w hm=>Ag5 Dc0 (by rw [Ae1 (hm.at mm0)];exact CI4 (j:=1) (v:=v.cellsS) (x:=.slice (ownQ v.t) v.titles.length (ownC v.t)) rfl))) ?_;refine Xo [(vb,_)] _ rfl (zF rfl Dp4) (fun w hm=>AS1 v.titles hl (ownQ v.t) (ownK v.t) 0 (ownC v.t) w (Sl.mono hT (by decide) hm (by simp)) CG8) (fun z7=>?_)
 obtain ⟨y7,hy7⟩:=z7;dsimp only;refine su ?_;refine Xs (Lt (cs:=A++(v.cellsS++B)) (cs':=A++(BoX.cellsS { v with t:=y7 }++B)) rfl rfl .here Dc0 rfl (Be7 (o:=1) (AP7 (o:=1) rfl))) ?_;refine st ?_;exact BQ5 ⟨y7,hy7⟩ trivial (.r0 rfl) rfl (qC (Pick.refl _))
theorem AZ4 (vs:List BoX) (hn:vs.length≤1000) (q:OA) (b o cap:Nat) (W:World) (hS:Sl W q b o 2 (vs.map BoX.cellsS)) (hT:∀ v∈vs,Sl W (ownQ v.t) (ownK v.t) 0 1 (v.titles.map strC)) (hl:∀ v∈vs,v.titles.length≤1000) :
  CC 77 #[.slice q vs.length cap,.func (.func 78) #[] #[]] W (News (fun z:CB vs=>.slice (ownQ z.1.1) vs.length (ownC z.1.1)) (fun z=>(ownB 65 z.1.1 (z.1.2.map BoX.cells).flatten++(z.1.2.map boB).flatten)++[]) W):=by
 have hq:q=none→vs.length=0:=fun hq=>by
  cases vs with
  | nil=>rfl
  | cons v vs=>have:=hS.at' (by simp);rw [hq] at this;cases this
 have hfl:(vs.map BoX.cellsS).flatten.length=vs.length * 2:=Aj8 (f:=BoX.cellsS) (fun _=>rfl) vs;refine cS func77 ?_;refine su ?_;refine zn (AM7 rfl rfl DU2 AG1 (by omega) (by decide) (by decide)) (fun b9=>?_)
 refine Bs2 (cs:=(vs.map BoX.cellsS).flatten) rfl rfl Bd7 hq .here hfl (by rw [Array.length_toList,size_madeCells]) (fun w hm=>(hS.mono (by decide) hm (by simp)).flat (by decide)) (AK1 (fun _=>rfl) _) rfl ?_;refine su ?_;refine Af2 (X:=List BoX) (n0:=[]) (vs.length) (fun k x q=>(15,.int .i64 (k:Int))::q) (fun _ _=>_) (fun k x=>[(b9,rowsBoX (x++vs.drop k))]) (fun k x=>(x.map boB).flatten++[]) (fun k x=>x.length=k∧x.map BoX.pl=(vs.take k).map BoX.pl∧∀ y∈x,OwnOk 1 y.t y.titles.length (strsC y.titles)) [] ⟨rfl,rfl,fun y hy=>by cases hy⟩ rfl (zE 15 rfl rfl (zS 1 rfl (zS 5 rfl (zS 14 rfl (Sub.nil _))))) (qC (Pick.same rfl)) ?_;intro k x kN kI;obtain ⟨kI1,kI2,kI3⟩:=kI;refine st ?_;refine cn rfl ?_ ?_
 ·intro c0'
  have hk:k < vs.length:=by omega
  obtain ⟨v,hv⟩:∃ v,vs[k]=v:=⟨_,rfl⟩;refine st ?_;refine lv (Ab1 rfl rfl Bd7 (by omega) (by omega)) ?_;refine Xq (Ab4 rfl rfl DQ4) (fun w hm=>(by have hm2:Mem W [] ((b9,.cells ((x.map BoX.cellsS).flatten++(BoX.cellsS v++((vs.drop (k + 1)).map BoX.cellsS).flatten)).toArray 65)::((x.map boB).flatten++[])) w:=(by rw [← BE5 hk hv];exact hm);exact AZ6 b9 ((x.map BoX.cellsS).flatten) (((vs.drop (k + 1)).map BoX.cellsS).flatten) v ((x.map boB).flatten) W w (hT v (hv ▸ List.getElem_mem hk)) (hl v (hv ▸ List.getElem_mem hk)) _ (by rw [Aj8 (f:=BoX.cellsS) (sz:=2) (fun _=>rfl),kI1];simp) hm2)) (fun z22 hz22=>?_)
  obtain ⟨z22,hzz22⟩:=z22;dsimp only;refine st ?_;refine lA ?_;exact Ac3 (x++[{ v with t:=z22 }]) (by omega) ⟨by simp [kI1],by rw [List.map_append,kI2,List.take_succ_eq_append_getElem hk,List.map_append,hv];rfl,fun y hy=>by rcases List.mem_append.1 hy with hy | hy;exact kI3 y hy;rw [List.mem_singleton.1 hy];exact (by rw [Ao3];exact hzz22)⟩ rfl (zE 15 rfl rfl (zS 1 rfl (zS 5 rfl (zS 14 rfl (Sub.nil _))))) (Pick.cnt fun x=>by simp only [nC,rowsBoX,boB,Ao3,List.append_assoc,List.map_append,List.map_cons,List.map_nil,List.flatten_append,List.flatten_cons,List.flatten_nil,List.append_nil];omega)
 intro c0';have hk:k=vs.length:=by omega
 refine Ls ?_;refine su ?_;refine Aa4 ?_;refine su ?_;exact (by rw [hk,List.take_length] at kI2;rw [hk,List.drop_length,List.append_nil];have hxl:x.length=vs.length:=(by omega);have hcs:x.map BoX.cellsS=x.map BoX.cells:=List.map_congr_left (fun y hy=>(BoX.cells_eq (kI3 y hy)).symm);exact Ld (chg:=[]) rZ (fun _ hm=>⟨⟨(some (b9,vs.length,[]),x),Cg9 (by rw [Aj8 (f:=BoX.cells) (sz:=2) (fun _=>rfl),hxl]) (by simp only [maxLen];omega),kI2,kI3⟩,rfl,hm.pick (Pick.cnt fun u=>by simp only [ownB,rowsBoX,hcs,List.append_nil,nC];omega)⟩))
theorem Dq6:Enters π 28:=eZ func28
theorem Dp6:Enters π 71:=eZ func71
theorem DQ7:Enters π 75:=eZ func75
theorem DQ5:Enters π 77:=eZ func77
theorem DQ2:Enters π 80:=eZ func80
theorem Dj3:fieldB π 41 0=some 0:=by kernel_rfl
instance:Fld π 41 0 0:=⟨Dj3⟩
theorem Dj2:fieldB π 41 1=some 1:=by kernel_rfl
instance:Fld π 41 1 1:=⟨Dj2⟩
theorem BF5:placesB π 39=some [(0,1),(1,1)]:=by kernel_rfl
theorem CF9:placesB π 41=some [(0,1),(1,2)]:=by kernel_rfl
theorem CF6:placesB π 88=some [(0,3),(3,17),(20,1)]:=by kernel_rfl
theorem CA0:tyB π 41=some (true,3):=by kernel_rfl
instance:Tyc π 41 true 3:=⟨CA0⟩
theorem Cz9:tyB π 86=some (true,3):=by kernel_rfl
instance:Tyc π 86 true 3:=⟨Cz9⟩
theorem Bt3:zeroB π 39=some [.slice none 0 0,.slice none 0 0]:=by kernel_rfl
theorem BQ9:zeroB π 41=some [.slice none 0 0,.slice none 0 0,.slice none 0 0]:=by kernel_rfl
theorem Ds1:zeroB π 88=some [.slice none 0 0,.slice none 0 0,.slice none 0 0,.I 0,.I 0,.I 0,.I 0,.I 0,.I 0,.I 0,.slice none 0 0,.I 0,.I 0,.I 0,.I 0,.I 0,.I 0,.I 0,.I 0,.I 0,.bool false]:=by kernel_rfl
end Go.Q
namespace Go.Dk
open Go Go.Eng Go.RowKit Go.Pw1 Go.Hp
abbrev CloneOf (d:DkX):={ z:DkX // DkOk z∧z.pl=d.pl }
theorem DM1 {d z:DkX} (h:z.pl=d.pl):z.vs.length=d.vs.length∧z.bs.length=d.bs.length∧z.cs=d.cs:=by
 unfold DkX.pl at h
 injection h with h1 h2
 injection h2 with h3 h4
 refine ⟨?_,?_,h4⟩
 · have:=congrArg List.length h1;simpa using this
 · have:=congrArg List.length h3;simpa using this
theorem Dk9 {d:DkX} (hd:DkOk d) (zv:CV d.vs) (zb:CB d.bs) (zc:OC 3 d.cs.length (d.cs.map Tn.cells).flatten):DkOk ⟨zv.1.1,zv.1.2,zb.1.1,zb.1.2,zc.1,d.cs⟩∧(DkX.pl ⟨zv.1.1,zv.1.2,zb.1.1,zb.1.2,zc.1,d.cs⟩)=d.pl:=by
 obtain ⟨⟨zv1,zv2⟩,v1,v2,v3⟩:=zv;obtain ⟨⟨zb1,zb2⟩,b1,b2,b3⟩:=zb;dsimp only at *;have lv:zv2.length=d.vs.length:=by have:=congrArg List.length v2;simpa using this
 have lb:zb2.length=d.bs.length:=by have:=congrArg List.length b2;simpa using this
 refine ⟨⟨by show OwnOk 13 zv1 zv2.length _;rw [lv];exact v1,v3,by show OwnOk 2 zb1 zb2.length _;rw [lb];exact b1,b3,zc.2,by have:=hd.few;show zv2.length≤4∧zb2.length≤4∧_;rw [lv,lb];exact this,fun x hx=>?_,fun x hx=>?_,hd.tx⟩,by unfold DkX.pl;rw [v2,b2]⟩
 · obtain ⟨y,hy,he⟩:=List.mem_map.1 (v2 ▸ List.mem_map_of_mem (f:=VwX.pl) hx)
   have:x.p=y.p:=congrArg Vw.p he.symm
   rw [this];exact hd.things y hy
 · obtain ⟨y,hy,he⟩:=List.mem_map.1 (b2 ▸ List.mem_map_of_mem (f:=BoX.pl) hx)
   have:x.titles=y.titles:=congrArg Bx.titles he.symm
   rw [this];exact hd.ti y hy
theorem Be6 (a b e:Value) (ha:isOne a=true) (hb:isOne b=true) (he:isOne e=true):paste [.slice none 0 0,.slice none 0 0,.slice none 0 0] 0 (cellsL (.agg [a,b,e].toArray))=some [a,b,e]:=by
 show pasteN _ [a,b,e]=_
 simp only [pasteN,ha,hb,he]
def noDk:DkX:=⟨none,[],none,[],none,[]⟩
theorem Dw0:DkOk noDk:=⟨OwnOk.start,fun x hx=>(by cases hx),OwnOk.start,fun x hx=>(by cases hx),OwnOk.start,⟨by decide,by decide,by decide⟩,fun x hx=>(by cases hx),fun x hx=>(by cases hx),fun x hx=>(by cases hx)⟩
end Go.Dk
namespace Go.Q
open Go Go.Eng Go.Dk Go.RowKit Go.Pw1 Go.Hp
abbrev cvB (z:Eng.Own×List VwX):Blks:=ownB 46 z.1 (z.2.map VwX.cells).flatten++(z.2.map vwB).flatten
abbrev cbB (z:Eng.Own×List BoX):Blks:=ownB 65 z.1 (z.2.map BoX.cells).flatten++(z.2.map boB).flatten
abbrev benV (d:DkX):Value:=.agg [ownV d.v d.vs.length,ownV d.b d.bs.length,ownV d.c d.cs.length].toArray
theorem Bz5 (d:DkX) (hd:DkOk d) (W:World) (hv:Sl W (ownQ d.v) (ownK d.v) 0 13 (d.vs.map VwX.cellsS)) (ht:∀ x∈d.vs,Sl W (ownQ x.t) (ownK x.t) 0 9 (x.p.things.map Th.cells)) (hm:MOk W d.mx) :
  CC 28 #[.agg [.slice (ownQ d.v) d.vs.length (ownC d.v),.slice (ownQ d.b) d.bs.length (ownC d.b),.slice (ownQ d.c) d.cs.length (ownC d.c)].toArray] W (News (fun z:CloneOf d=>benV z.1) (fun z=>dkB z.1++[]) W):=by
 have hfew:=hd.few
 have hb:Sl W (ownQ d.b) (ownK d.b) 0 2 (d.bs.map BoX.cellsS):=by
  have h:=hm.bx;unfold DkX.mx at h;dsimp only at h;rw [List.map_map] at h;exact h
 have hbt:∀ x∈d.bs,Sl W (ownQ x.t) (ownK x.t) 0 1 (x.titles.map strC):=fun x hx=>hm.ti x.a (List.mem_map_of_mem hx)
 have hc:Sl W (ownQ d.c) (ownK d.c) 0 3 (d.cs.map Tn.cells):=hm.cd;refine cS func28 ?_;refine st ?_;refine zn (Lm rfl) (fun b1=>?_)
 refine zn (Lp BQ9) (fun b2=>?_)
 refine Am2 (X:=(CV d.vs×CB d.bs)×OC 3 d.cs.length (d.cs.map Tn.cells).flatten) 10 (n0:=[]) (fun z q=>q) (fun z=>[]) (fun z=>[(b2,.cells [.slice (ownQ z.1.1.1.1) d.vs.length (ownC z.1.1.1.1),.slice (ownQ z.1.2.1.1) d.bs.length (ownC z.1.2.1.1),.slice (ownQ z.2.1) d.cs.length (ownC z.2.1)].toArray 41)]) (fun z=>cvB z.1.1.1++(cbB z.1.2.1++(ownB 165 z.2.1 (d.cs.map Tn.cells).flatten++[]))) (fun z=>True) Ah8 (qE .nil) (zS 2 rfl (Sub.nil _)) .nil ?_ ?_
 ·refine zw 0 ?_
  refine zw 1 ?_;refine zw 3 ?_;refine zw 4 ?_;refine zw 5 ?_;refine zw 7 ?_;refine zw 8 ?_;refine zw 9 ?_;refine zA 2 ?_;refine Xp [(b2,_),(b1,_)] _ rfl rfl (zF rfl DQ7) (fun w hm=>AZ3 d.vs (by omega) (ownQ d.v) (ownK d.v) 0 (ownC d.v) w (hv.mono (by decide) hm (by simp)) (fun x hx=>(ht x hx).mono (by decide) hm (by simp)) (fun x hx=>Kt (hd.things x hx) (by decide))) (fun z5=>(Aa2 (qE .nil) (qE .nil) rfl ?_))
  skip
  refine zA 6 ?_;refine Xp [(b2,_),(b1,_)] _ rfl rfl (zF rfl DQ5) (fun w hm=>AZ4 d.bs (by omega) (ownQ d.b) (ownK d.b) 0 (ownC d.b) w (hb.mono (by decide) hm (by simp)) (fun x hx=>(hbt x hx).mono (by decide) hm (by simp)) (fun x hx=>(hd.ti x hx).1)) (fun z9=>(Aa2 (qE .nil) (qE .nil) rfl ?_))
  skip
  refine zt ?_;refine zB 10 ?_;refine Xp [(b2,_),(b1,_)] _ rfl rfl (zF rfl DQ2) (fun w hm=>Bz8 d.cs (by omega) (ownQ d.c) (ownK d.c) 0 (ownC d.c) w (hc.mono (by decide) hm (by simp)) CG8) (fun z13=>(Ab2 ?_))
  skip
  refine zo 11 rfl (Lr (parts:=[(0,.tmp 9),(1,.tmp 13)]) rfl Bt3 BF5 rfl) ?_;refine zo 12 rfl (Lr (parts:=[(0,.tmp 5),(1,.tmp 14)]) rfl BQ9 CF9 rfl) ?_;refine zB 13 ?_;refine Xr rfl (Lt rfl rfl .here CA0 rfl rfl) (Ab2 ?_)
  refine zd ?_;exact Af4 ((z5,z9),z13) trivial rfl (zS 2 rfl (Sub.nil _)) (qC pk0)
 intro z zI;refine su ?_;exact (by obtain ⟨hk1,hk2⟩:=Dk9 hd z.1.1 z.1.2 z.2;obtain ⟨hl1,hl2,-⟩:=DM1 hk2;exact Ld (chg:=[]) (.r1 rfl (.agg rfl mm0 CA0 rfl)) (fun _ hm=>⟨⟨⟨z.1.1.1.1,z.1.1.1.2,z.1.2.1.1,z.1.2.1.2,z.2.1,d.cs⟩,hk1,hk2⟩,(by show Ending.returned _=Ending.returned (benV _);unfold benV;rw [Ad3 hk1.v,Ad3 hk1.b,Ad3 hk1.c,hl1,hl2]),hm.pick (Pick.cnt fun x=>by simp only [dkB,cvB,cbB,nC];omega)⟩))
theorem AY0 (xb:Nat) (d:DkX) (c:Cd) (hd:DkOk d) (W:World) (hD:DkA W xb d c):CC 28 #[benV d] W (News (fun z:CloneOf d=>benV z.1) (fun z=>dkB z.1++[]) W):=by
 have h:=Bz5 d hd W hD.v hD.t hD.m
 have e:benV d = .agg [.slice (ownQ d.v) d.vs.length (ownC d.v),.slice (ownQ d.b) d.bs.length (ownC d.b),.slice (ownQ d.c) d.cs.length (ownC d.c)].toArray:=by
  unfold benV;rw [Ad3 hd.v,Ad3 hd.b,Ad3 hd.c]
 rw [e];exact h
theorem Cd7 (xb:Nat) (d:DkX) (c:Cd) (hd:DkOk d) (W:World) (hD:DkA W xb d c):CC 9 #[pV xb] W (News (fun z:CloneOf d=>benV z.1) (fun z=>dkB z.1++[]) W):=by
 have hob:=hD.ob;rw [← DkX.cells_eq hd] at hob;have hund:π.underlying 32=some (.pointer 88):=by kernel_rfl
 refine cS func9 ?_;refine st ?_;refine zn (Lp BQ9) (fun b2=>?_)
 refine lv (Ak1 rfl hund) ?_;refine Ly rfl (fun h=>absurd h (by simp)) ?_;intro c0;clear c0;refine su ?_;refine lv (Ag2 rfl hob (by simp) Cz9 rfl) ?_;refine Xl (zF rfl Dq6) (fun w hm=>AY0 xb d c hd w (hD.mono hm)) (fun z10=>?_)
 skip
 refine Xs (Lt (cs:=[.slice none 0 0,.slice none 0 0,.slice none 0 0]) (cs':=[ownV z10.1.v z10.1.vs.length,ownV z10.1.b z10.1.bs.length,ownV z10.1.c z10.1.cs.length]) rfl rfl .here CA0 rfl (by have h:=Be6 (ownV z10.1.v z10.1.vs.length) (ownV z10.1.b z10.1.bs.length) (ownV z10.1.c z10.1.cs.length) (Af3 _ _) (Af3 _ _) (Af3 _ _);exact h)) ?_;refine su ?_;exact Ld (chg:=[]) (.r1 rfl (.agg rfl mm0 CA0 rfl)) (fun _ hm=>⟨z10,rfl,hm.pick (Pick.skip (Pick.refl _))⟩)
theorem DU8 (c:Cd) (q:OA) (b o cap:Nat) (W:World) (hS:Sl W q b o 9 (c.p.things.map Th.cells)) (hq:q=none→cap=0) (hl:c.p.things.length≤1000) (hc:cardIs c=false):CC 25 #[c.v q cap] W (Pure (.tuple #[.pointer none,.I 1]) W):=by
 have hs:=(Cf9 c).2 hc;refine cS func25 ?_;refine st ?_;refine zn (Lm rfl) (fun b1=>?_)
 refine Xl (zF rfl CP6) (fun w hm=>AF0 c.p.things hl q b o cap w (hS.mono (by decide) hm (by simp)) hq) (fun z9=>?_)
 obtain ⟨y9,hy9⟩:=z9;dsimp only;refine su ?_;refine sQ .here ?_;refine su ?_;refine zc (zF rfl Dp6) (fun w hm=>Bs0 c (ownQ y9) (ownK y9) 0 (ownC y9) w (Am3 (f:=Th.cells) (e:=145) (fun _=>rfl) (by decide) hy9 (fun b o h=>hm.at (.tail _ ((by first | exact List.mem_append_left _ h | exact List.mem_append_right _ (List.mem_append_left _ h)))))) (by omega)) ?_;refine Ly rfl ?_ (fun h=>absurd h (by simp [hs]))
 intro c0;clear c0;refine su ?_;exact Aa9 (.r2 rfl (.tmp rfl) (.tmp rfl)) (by first | rfl | simp)
theorem DU7 (c:Cd) (q:OA) (b o cap:Nat) (W:World) (hS:Sl W q b o 9 (c.p.things.map Th.cells)) (hq:q=none→cap=0) (hl:c.p.things.length≤1000) (hc:cardIs c=true):CC 25 #[c.v q cap] W (News (fun xb:Nat=>.tuple #[pV xb,.I 0]) (fun xb=>dkM xb noDk c []++[]) W):=by
 have hs:¬ (seenX c).2=1:=fun h=>by rw [(Cf9 c).1 h] at hc;cases hc
 refine cS func25 ?_;refine st ?_;refine zn (Lm rfl) (fun b1=>?_)
 refine Xl (zF rfl CP6) (fun w hm=>AF0 c.p.things hl q b o cap w (hS.mono (by decide) hm (by simp)) hq) (fun z9=>?_)
 obtain ⟨y9,hy9⟩:=z9;dsimp only;refine su ?_;refine sQ .here ?_;refine su ?_;refine zc (zF rfl Dp6) (fun w hm=>Bs0 c (ownQ y9) (ownK y9) 0 (ownC y9) w (Am3 (f:=Th.cells) (e:=145) (fun _=>rfl) (by decide) hy9 (fun b o h=>hm.at (.tail _ ((by first | exact List.mem_append_left _ h | exact List.mem_append_right _ (List.mem_append_left _ h)))))) (by omega)) ?_;refine Ly rfl (fun h=>absurd h (by simpa using hs)) ?_;intro c0;clear c0;refine su ?_;refine sQ .here ?_;refine su ?_;refine lv (Lr (parts:=[(1,.tmp 21),(2,.const (.bool true))]) rfl Ds1 CF6 rfl) ?_;refine zn (Lm rfl) (fun b23=>?_)
 exact Ld (chg:=[]) (.r2 rfl (.tmp rfl) (.tmp rfl)) (fun _ hm=>⟨b23,rfl,hm.pick (qC .nil)⟩)
theorem DP6:Enters π 86:=eZ func86
theorem DP5:Enters π 87:=eZ func87
theorem DP4:Enters π 88:=eZ func88
theorem DP3:Enters π 89:=eZ func89
theorem DP2:Enters π 90:=eZ func90
theorem DP1:Enters π 91:=eZ func91
theorem DP0:Enters π 92:=eZ func92
theorem DO9:Enters π 93:=eZ func93
theorem DO8:Enters π 94:=eZ func94
theorem DO7:Enters π 95:=eZ func95
theorem DO6:Enters π 96:=eZ func96
theorem DO5:Enters π 97:=eZ func97
theorem DO4:Enters π 98:=eZ func98
theorem Ah7:mapSB π 101=some 99:=by kernel_rfl
theorem Aj3:placesB π 99=some [(0,1),(1,1),(2,1)]:=by kernel_rfl
theorem Am4:zeroB π 99=some [.I 0,.bool false,.nilFunc]:=by kernel_rfl
end Go.Q
namespace Go.Dk
open Go Go.Eng Go.RowKit Go.Pw1 Go.Hp
theorem Dk3 {b b':Bn} {r:Str} {i k:Nat} (h:farD b i k = .ok (b',r)):b'=b:=by
 unfold farD at h;dsimp only at h;split at h
 · cases h
 · split at h
   · cases h;rfl
   · cases h
theorem Cs4 {b b':Bn} {r:Str} {i:Nat} (h:movedD b i = .ok (b',r)):b'=b:=by
 unfold movedD at h;dsimp only at h;split at h
 · cases h;rfl
 · cases h
theorem Bp5 {c:Cd} {b b':Bn} {r:Str} {i:Nat} {t:Tr} (h:hurtsD c b i t = .ok (b',r)):b'=b:=by
 unfold hurtsD at h;dsimp only at h;split at h
 · cases h;rfl
 · split at h
   · cases h;rfl
   · cases h
theorem CU8 {c:Cd} {b b':Bn} {r:Str} {i:Nat} (h:deepD c b i = .ok (b',r)):b'=b:=by
 unfold deepD at h;dsimp only at h;split at h
 · cases h
 · split at h
   · cases h;rfl
   · cases h
theorem Cy8 {b b':Bn} {r:Str} (h:waysD b = .ok (b',r)):b'=b:=by
 unfold waysD at h;split at h
 · cases h;rfl
 · cases h
theorem Cm5 {b b':Bn} {r:Str} {k:Nat} (h:whichD b k = .ok (b',r)):b'=b:=by
 unfold whichD at h;split at h
 · cases h
 · split at h
   · cases h
   · cases h;rfl
theorem AG9 {l:List Int} (h:∀ n∈l,0≤n∧n≤9223372036854775807) {a:Int} (ha:a∈l):∃ i:Nat,a=(i:Int):=Int.eq_ofNat_of_zero_le (h a ha).1
end Go.Dk
namespace Go.Q
open Go Go.Eng Go.Dk Go.RowKit Go.Pw1 Go.Hp
theorem Ak6 {f:FuncId} {args:Array Value} {W0 w:World} {xb:Nat} {c:Cd} {ans:Ans} {A rest:Blks} (h:CC f args w (VerbT W0 xb c ans (A++rest))):CC f args w (VerbT W0 xb c ans rest) :=
 AU0 h (fun b=>Pick.cnt fun x=>by simp only [dkM,List.count_cons,List.count_append,List.count_nil,Value.I];omega) (fun b=>Pick.cnt fun x=>by simp only [List.count_cons,List.count_append,List.count_nil];omega)
def NumSpec (gf:FuncId) (vb:Vb):Prop:=∀ (xb:Nat) (d:DkX) (c:Cd) (z:Eng.Own) (ns:List Int) (rest:Blks) (W0 w:World),Lw π W0→DkOk d→OwnOk 1 z ns.length (ns.map intC).flatten→ns.length=vb.many→(∀ n∈ns,0≤n∧n≤9223372036854775807) →
 (vb.about=true→N ns 0 < d.vs.length)→Mem W0 [] (dkM xb d c (nuB (z,ns)++(rest++[]))) w→CC gf #[pV xb,.slice none 0 0,.slice (ownQ z) ns.length (ownC z)] w (VerbT W0 xb c (vb.does (bareC c) d.pl ns) rest)
theorem CI3 {W0 w:World} {xb:Nat} {d:DkX} {c:Cd} {z:Eng.Own} {ns:List Int} {rest:Blks} (hz:OwnOk 1 z ns.length (ns.map intC).flatten) (hm:Mem W0 [] (dkM xb d c (nuB (z,ns)++(rest++[]))) w):Sl w (ownQ z) (ownK z) 0 1 (ns.map intC) :=
 Am3 (f:=intC) (e:=3) (fun _=>rfl) (by decide) hz (fun b o h=>(hm.newd b o (.tail _ (List.mem_append_right _ (List.mem_append_left _ h)))).2)
theorem Bf7 {W0 w:World} {xb:Nat} {d:DkX} {c:Cd} {z:Eng.Own} {ns:List Int} {rest:Blks} (hm:Mem W0 [] (dkM xb d c (nuB (z,ns)++(rest++[]))) w):Mem W0 [] (dkM xb d c ((nuB (z,ns)++rest)++[])) w:=by rw [List.append_assoc];exact hm
theorem Dt8:NumSpec 89 ⟨2,true,fun _ b n=>farD b (N n 0) (N n 1)⟩:=by
 intro xb d c z ns rest W0 w hL hd hz hl hp hab hm
 match ns,hl with
 | [a0,a1],_ =>
   obtain ⟨i,rfl⟩:=AG9 hp (a:=a0) (by simp);obtain ⟨k,rfl⟩:=AG9 hp (a:=a1) (by simp);exact Ak6 (Aq0 hd (Bf7 hm) (Cv1 xb d c w (hL.mono hm.zero) (Am7 hd hm) i k (hab rfl) _ (ownQ z) (ownK z) 0 (ownC z) (CI3 hz hm)) (fun b r h=>Dk3 h))
theorem CC4:NumSpec 90 ⟨1,true,fun _ b n=>movedD b (N n 0)⟩:=by
 intro xb d c z ns rest W0 w hL hd hz hl hp hab hm
 match ns,hl with
 | [a0],_ =>
   obtain ⟨i,rfl⟩:=AG9 hp (a:=a0) (by simp);exact Ak6 (Aq0 hd (Bf7 hm) (BM2 xb d c w (hL.mono hm.zero) (Am7 hd hm) i (hab rfl) _ (ownQ z) (ownK z) 0 (ownC z) (CI3 hz hm)) (fun b r h=>Cs4 h))
theorem CC5:NumSpec 91 ⟨5,true,fun c b n=>hurtsD c b (N n 0) ⟨n.getD 1 0,n.getD 2 0,n.getD 3 0,n.getD 4 0⟩⟩:=by
 intro xb d c z ns rest W0 w hL hd hz hl hp hab hm
 match ns,hl with
 | [a0,a1,a2,a3,a4],_ =>
   obtain ⟨i,rfl⟩:=AG9 hp (a:=a0) (by simp);exact Ak6 (Aq0 hd (Bf7 hm) (BM4 xb d c w (hL.mono hm.zero) (Am7 hd hm) i a1 a2 a3 a4 (hab rfl) _ (ownQ z) (ownK z) 0 (ownC z) (CI3 hz hm)) (fun b r h=>Bp5 h))
theorem Dd4:NumSpec 93 ⟨1,true,fun c b n=>deepD c b (N n 0)⟩:=by
 intro xb d c z ns rest W0 w hL hd hz hl hp hab hm
 match ns,hl with
 | [a0],_ =>
   obtain ⟨i,rfl⟩:=AG9 hp (a:=a0) (by simp);exact Ak6 (Aq0 hd (Bf7 hm) (Ca6 xb d c w (hL.mono hm.zero) (Am7 hd hm) i (hab rfl) _ (ownQ z) (ownK z) 0 (ownC z) (CI3 hz hm)) (fun b r h=>CU8 h))
theorem Dc9:NumSpec 97 ⟨0,false,fun _ b _=>waysD b⟩:=by
 intro xb d c z ns rest W0 w hL hd hz hl hp hab hm;exact Ak6 (Aq0 hd (Bf7 hm) (Ca1 xb d c w (hL.mono hm.zero) (Am7 hd hm) _ _) (fun b r h=>Cy8 h))
theorem CC2:NumSpec 98 ⟨1,false,fun _ b n=>whichD b (N n 0)⟩:=by
 intro xb d c z ns rest W0 w hL hd hz hl hp hab hm
 match ns,hl with
 | [a0],_ =>
   obtain ⟨i,rfl⟩:=AG9 hp (a:=a0) (by simp);exact Ak6 (Aq0 hd (Bf7 hm) (BM0 xb d c w (hL.mono hm.zero) (Am7 hd hm) i _ (ownQ z) (ownK z) 0 (ownC z) (CI3 hz hm)) (fun b r h=>Cm5 h))
theorem Dd0:NumSpec 86 ⟨0,false,fun c b _=>viewD c b⟩:=by
 intro xb d c z ns rest W0 w hL hd hz hl hp hab hm;exact Ak6 (Cu6 xb d c (nuB (z,ns)++rest) W0 w hL hd _ _ (Bf7 hm))
theorem Dd1:NumSpec 92 ⟨1,true,fun c b n=>trimD c b (N n 0)⟩:=by
 intro xb d c z ns rest W0 w hL hd hz hl hp hab hm
 match ns,hl with
 | [a0],_ =>
   obtain ⟨i,rfl⟩:=AG9 hp (a:=a0) (by simp);have hi:=hab rfl;obtain ⟨dv,vs,db,bs0,dc,cs⟩:=d;obtain ⟨vb,vc,vr,e1,-⟩:=hd.v.has (Kx (Lb _) hi);dsimp only at e1;subst e1;obtain ⟨nb,nc,nr,rfl,-⟩:=hz.has (by simp);exact Cu7 xb vb vc vr vs db bs0 dc cs c nb nc nr _ rest W0 w hL hd i hi hm
theorem Dt7:NumSpec 94 ⟨1,true,fun _ b n=>offD b (N n 0)⟩:=by
 intro xb d c z ns rest W0 w hL hd hz hl hp hab hm
 match ns,hl with
 | [a0],_ =>
   obtain ⟨i,rfl⟩:=AG9 hp (a:=a0) (by simp);have hi:=hab rfl;obtain ⟨dv,vs,db,bs0,dc,cs⟩:=d;obtain ⟨vb,vc,vr,e1,-⟩:=hd.v.has (Kx (Lb _) hi);dsimp only at e1;subst e1;obtain ⟨nb,nc,nr,rfl,-⟩:=hz.has (by simp);exact CU4 xb vb vc vr vs db bs0 dc cs c nb nc nr _ rest W0 w hL hd i hi hm
theorem Dd3:NumSpec 88 ⟨3,true,fun _ b n=>markD b (N n 0) (N n 1) (n.getD 2 0)⟩:=by
 intro xb d c z ns rest W0 w hL hd hz hl hp hab hm
 match ns,hl with
 | [a0,a1,a2],_ =>
   obtain ⟨i,rfl⟩:=AG9 hp (a:=a0) (by simp);obtain ⟨k,rfl⟩:=AG9 hp (a:=a1) (by simp);have hi:=hab rfl;obtain ⟨dv,vs,db,bs0,dc,cs⟩:=d;obtain ⟨vb,vc,vr,e1,-⟩:=hd.v.has (Kx (Lb _) hi);dsimp only at e1;subst e1;obtain ⟨nb,nc,nr,rfl,-⟩:=hz.has (by simp);exact Cu9 xb vb vc vr vs db bs0 dc cs c nb nc nr _ rest W0 w hL hd i k a2 hi hm
theorem CC3:NumSpec 87 ⟨5,true,fun _ b n=>thingD b (N n 0) (n.getD 1 0) (n.getD 2 0) (n.getD 3 0) (n.getD 4 0)⟩:=by
 intro xb d c z ns rest W0 w hL hd hz hl hp hab hm
 match ns,hl with
 | [a0,a1,a2,a3,a4],_ =>
   obtain ⟨i,rfl⟩:=AG9 hp (a:=a0) (by simp);have hi:=hab rfl;obtain ⟨dv,vs,db,bs0,dc,cs⟩:=d;obtain ⟨vb,vc,vr,e1,-⟩:=hd.v.has (Kx (Lb _) hi);dsimp only at e1;subst e1;obtain ⟨nb,nc,nr,rfl,-⟩:=hz.has (by simp);exact Ca2 xb vb vc vr vs db bs0 dc cs c nb nc nr _ rest W0 w hL hd i a1 a2 a3 a4 hi hm
def WordSpec (gf:FuncId) (does:Bn→List Str→Ans):Prop:=∀ (xb:Nat) (d:DkX) (c:Cd) (x:Str) (ws:List Str) (r:LV) (sb cap:Nat) (q:OA) (rest:Blks) (W0 w:World),Lw π W0→DkOk d→ws.length≤cap→ws.length≤1000→(∀ s∈ws,s.length≤100000) →
 (ws ≠ []→q=some ⟨sb,1,none⟩)→Mem W0 [] (dkM xb d c ((sb,sbO (x::ws) r)::(rest++[]))) w→CC gf #[pV xb,.slice q ws.length cap,.slice none 0 0] w (VerbT W0 xb c (does d.pl ws) rest)
theorem Dt9:WordSpec 95 boxD:=by
 intro xb d c x ws r sb cap q rest W0 w hL hd hcap hl hs hq hm
 match ws,hcap,hl,hs,hq,hm with
 | [],_,_,_,_,hm=>exact Ak6 (A:=[(sb,_)]) (Bq9 xb d c ((sb,_)::rest) W0 w hL hd [] (by simp) q cap _ hm)
 | [y],_,_,_,_,hm=>exact Ak6 (A:=[(sb,_)]) (Bq9 xb d c ((sb,_)::rest) W0 w hL hd [y] (by simp) q cap _ hm)
 | y::t0::ts,hcap,hl,hs,hq,hm =>
   obtain rfl:=hq (by simp);exact CV1 xb d c rest W0 w hL hd x y t0 ts r sb cap _ hcap hl hs hm
theorem Dd2:WordSpec 96 cardD:=by
 intro xb d c x ws r sb cap q rest W0 w hL hd hcap hl hs hq hm
 by_cases h3:ws.length=3
 · match ws,h3,hcap,hs,hq,hm with
   | [y0,y1,y2],_,hcap,hs,hq,hm =>
     obtain rfl:=hq (by simp)
     by_cases hw:waysE d.mx.pl=0
     · exact Cu8 xb d c rest W0 w hL hd hw x y0 y1 y2 r sb cap _ hcap hs hm
     · exact Ca3 xb d c rest W0 w hL hd hw x y0 y1 y2 r sb cap _ hcap hs hm
 · exact Ak6 (A:=[(sb,_)]) (Ca4 xb d c ((sb,_)::rest) W0 w hL hd ws h3 q cap _ hm)
abbrev fnV (f:FuncId):Value:=.func (.func f) #[] #[]
abbrev vbV (m:Int) (ab:Bool) (f:Value):Value:=.agg #[.I m,.bool ab,f]
def verbsL:List (Str×Value):=[(wView,vbV 0 false (fnV 86)),(wThing,vbV 5 true (fnV 87)),(wMark,vbV 3 true (fnV 88)),(wFar,vbV 2 true (fnV 89)),(wMoved,vbV 1 true (fnV 90)),(wHurts,vbV 5 true (fnV 91)),
 (wTrim,vbV 1 true (fnV 92)),(wDeep,vbV 1 true (fnV 93)),(wOff,vbV 1 true (fnV 94)),(wBox,vbV (-1) false (fnV 95)),(wCard,vbV (-1) false (fnV 96)),(wWays,vbV 0 false (fnV 97)),(wWhich,vbV 1 false (fnV 98))]
theorem Bc4 (W:World):CC 33 #[] W (News (fun b:Nat=>.map (some b)) (fun b=>[(b,mapS verbsL)]) W):=by
 refine cS func33 ?_;refine st ?_;refine zn BQ7 (fun b1=>?_)
 refine lv (Lr (parts:=[(0,.const (.I 0)),(1,.const (.bool false)),(2,.func 86)]) rfl Am4 Aj3 rfl) ?_;refine Xs (Al9 rfl rfl rfl .here Ah7 (by decide)) ?_;refine lv (Lr (parts:=[(0,.const (.I 5)),(1,.const (.bool true)),(2,.func 87)]) rfl Am4 Aj3 rfl) ?_;refine Xs (Al9 rfl rfl rfl .here Ah7 (by decide)) ?_;refine lv (Lr (parts:=[(0,.const (.I 3)),(1,.const (.bool true)),(2,.func 88)]) rfl Am4 Aj3 rfl) ?_;refine Xs (Al9 rfl rfl rfl .here Ah7 (by decide)) ?_;refine lv (Lr (parts:=[(0,.const (.I 2)),(1,.const (.bool true)),(2,.func 89)]) rfl Am4 Aj3 rfl) ?_;refine Xs (Al9 rfl rfl rfl .here Ah7 (by decide)) ?_;refine lv (Lr (parts:=[(0,.const (.I 1)),(1,.const (.bool true)),(2,.func 90)]) rfl Am4 Aj3 rfl) ?_;refine Xs (Al9 rfl rfl rfl .here Ah7 (by decide)) ?_;refine lv (Lr (parts:=[(0,.const (.I 5)),(1,.const (.bool true)),(2,.func 91)]) rfl Am4 Aj3 rfl) ?_;refine Xs (Al9 rfl rfl rfl .here Ah7 (by decide)) ?_;refine lv (Lr (parts:=[(0,.const (.I 1)),(1,.const (.bool true)),(2,.func 92)]) rfl Am4 Aj3 rfl) ?_;refine Xs (Al9 rfl rfl rfl .here Ah7 (by decide)) ?_;refine lv (Lr (parts:=[(0,.const (.I 1)),(1,.const (.bool true)),(2,.func 93)]) rfl Am4 Aj3 rfl) ?_;refine Xs (Al9 rfl rfl rfl .here Ah7 (by decide)) ?_;refine lv (Lr (parts:=[(0,.const (.I 1)),(1,.const (.bool true)),(2,.func 94)]) rfl Am4 Aj3 rfl) ?_;refine Xs (Al9 rfl rfl rfl .here Ah7 (by decide)) ?_;refine lv (Lr (parts:=[(0,.const (.I (-1))),(1,.const (.bool false)),(2,.func 95)]) rfl Am4 Aj3 rfl) ?_;refine Xs (Al9 rfl rfl rfl .here Ah7 (by decide)) ?_;refine lv (Lr (parts:=[(0,.const (.I (-1))),(1,.const (.bool false)),(2,.func 96)]) rfl Am4 Aj3 rfl) ?_;refine Xs (Al9 rfl rfl rfl .here Ah7 (by decide)) ?_;refine lv (Lr (parts:=[(0,.const (.I 0)),(1,.const (.bool false)),(2,.func 97)]) rfl Am4 Aj3 rfl) ?_;refine Xs (Al9 rfl rfl rfl .here Ah7 (by decide)) ?_;refine lv (Lr (parts:=[(0,.const (.I 1)),(1,.const (.bool false)),(2,.func 98)]) rfl Am4 Aj3 rfl) ?_;refine Xs (Al9 rfl rfl rfl .here Ah7 (by decide)) ?_;refine su ?_;exact Ld (chg:=[]) rZ (fun _ hm=>⟨b1,rfl,hm.pick (qC .nil)⟩)
def VerbAt (s:Str) (m:Int) (ab:Bool) (fv:Value) (is:Bool):Prop :=
 (is=false∧fv = .nilFunc∧s ≠ wBox∧s ≠ wCard∧verbX s=none) ∨
 (is=true∧∃ gf,fv=fnV gf∧Enters π gf∧((m = -1∧s=wBox∧WordSpec gf boxD)∨(m = -1∧s=wCard∧WordSpec gf cardD)∨(∃ vb:Vb,s ≠ wBox∧s ≠ wCard∧verbX s=some vb∧m=vb.many∧ab=vb.about∧(vb.about=true→0 < vb.many)∧NumSpec gf vb)))
theorem Ds8 (s:Str):∃ m ab fv is,Value.tuple #[(sFind verbsL s).getD (vbV 0 false .nilFunc),.bool (sFind verbsL s).isSome] = .tuple #[vbV m ab fv,.bool is]∧VerbAt s m ab fv is:=by
 by_cases h1:s=wView
 · subst h1;exact ⟨_,_,_,_,rfl,.inr ⟨rfl,_,rfl,DP6,.inr (.inr ⟨_,by decide,by decide,rfl,rfl,rfl,by decide,Dd0⟩)⟩⟩
 by_cases h2:s=wThing
 · subst h2;exact ⟨_,_,_,_,rfl,.inr ⟨rfl,_,rfl,DP5,.inr (.inr ⟨_,by decide,by decide,rfl,rfl,rfl,by decide,CC3⟩)⟩⟩
 by_cases h3:s=wMark
 · subst h3;exact ⟨_,_,_,_,rfl,.inr ⟨rfl,_,rfl,DP4,.inr (.inr ⟨_,by decide,by decide,rfl,rfl,rfl,by decide,Dd3⟩)⟩⟩
 by_cases h4:s=wFar
 · subst h4;exact ⟨_,_,_,_,rfl,.inr ⟨rfl,_,rfl,DP3,.inr (.inr ⟨_,by decide,by decide,rfl,rfl,rfl,by decide,Dt8⟩)⟩⟩
 by_cases h5:s=wMoved
 · subst h5;exact ⟨_,_,_,_,rfl,.inr ⟨rfl,_,rfl,DP2,.inr (.inr ⟨_,by decide,by decide,rfl,rfl,rfl,by decide,CC4⟩)⟩⟩
 by_cases h6:s=wHurts
 · subst h6;exact ⟨_,_,_,_,rfl,.inr ⟨rfl,_,rfl,DP1,.inr (.inr ⟨_,by decide,by decide,rfl,rfl,rfl,by decide,CC5⟩)⟩⟩
 by_cases h7:s=wTrim
 · subst h7;exact ⟨_,_,_,_,rfl,.inr ⟨rfl,_,rfl,DP0,.inr (.inr ⟨_,by decide,by decide,rfl,rfl,rfl,by decide,Dd1⟩)⟩⟩
 by_cases h8:s=wDeep
 · subst h8;exact ⟨_,_,_,_,rfl,.inr ⟨rfl,_,rfl,DO9,.inr (.inr ⟨_,by decide,by decide,rfl,rfl,rfl,by decide,Dd4⟩)⟩⟩
 by_cases h9:s=wOff
 · subst h9;exact ⟨_,_,_,_,rfl,.inr ⟨rfl,_,rfl,DO8,.inr (.inr ⟨_,by decide,by decide,rfl,rfl,rfl,by decide,Dt7⟩)⟩⟩
 by_cases h10:s=wBox
 · subst h10;exact ⟨_,_,_,_,rfl,.inr ⟨rfl,_,rfl,DO7,.inl ⟨rfl,rfl,Dt9⟩⟩⟩
 by_cases h11:s=wCard
 · subst h11;exact ⟨_,_,_,_,rfl,.inr ⟨rfl,_,rfl,DO6,.inr (.inl ⟨rfl,rfl,Dd2⟩)⟩⟩
 by_cases h12:s=wWays
 · subst h12;exact ⟨_,_,_,_,rfl,.inr ⟨rfl,_,rfl,DO5,.inr (.inr ⟨_,by decide,by decide,rfl,rfl,rfl,by decide,Dc9⟩)⟩⟩
 by_cases h13:s=wWhich
 · subst h13;exact ⟨_,_,_,_,rfl,.inr ⟨rfl,_,rfl,DO4,.inr (.inr ⟨_,by decide,by decide,rfl,rfl,rfl,by decide,CC2⟩)⟩⟩
 have e:sFind verbsL s=none:=by
  unfold sFind verbsL;simp only [sIdx,Ne.symm h1,Ne.symm h2,Ne.symm h3,Ne.symm h4,Ne.symm h5,Ne.symm h6,Ne.symm h7,Ne.symm h8,Ne.symm h9,Ne.symm h10,Ne.symm h11,Ne.symm h12,Ne.symm h13,if_false,Option.map_none]
 rw [e];refine ⟨_,_,_,_,rfl,.inl ⟨rfl,rfl,h10,h11,?_⟩⟩
 unfold verbX verbsX;simp [List.find?,Ne.symm h1,Ne.symm h2,Ne.symm h3,Ne.symm h4,Ne.symm h5,Ne.symm h6,Ne.symm h7,Ne.symm h8,Ne.symm h9,Ne.symm h12,Ne.symm h13]
theorem Ci4:fieldB π 90 0=some 0:=by kernel_rfl
instance:Fld π 90 0 0:=⟨Ci4⟩
theorem Db9:tyB π 32=some (false,1):=by kernel_rfl
instance:Tyc π 32 false 1:=⟨Db9⟩
theorem DV1:tyB π 90=some (true,1):=by kernel_rfl
instance:Tyc π 90 true 1:=⟨DV1⟩
end Go.Q
namespace Go.Eng
open Go Go.RowKit
section
variable {P:Program} {n:Nat} {r:Regs} {W:World} {news:Blks}
theorem Bm1 {P:Program} {Q:Exit→Act→World→Prop} {n:Nat} {c:Code} {r:Regs} {ds:List Deferred} {W:World} {chg news:Blks} {a:Act} {w:World} (h:RunC P Q n c r ds W chg news) (s:St n r ds W chg news a w):c.wp P Q a w:=h a w s
theorem Mem.hold {w:World} {l:Blks} (h:∀ b o,(b,o)∈l→w.heap[b]? = some o) (hn:(l.map (·.1)).Nodup):Mem w l [] w :=
 ⟨rfl,rfl,rfl,Nat.le_refl _,fun _ _ _=>rfl,fun b o hb=>⟨lt_of_block (h b o hb),h b o hb⟩,fun _ _ h=>(by cases h),by simpa using hn⟩
structure Catches4 (P:Program) (f:FuncId) (T6 Td Tr Te Tx:TypeId) (x:Nat→LV→LV) (mis:Int→Value):Prop where
 calm:∀ (b6 bd br be:Nat) (w:World),CallsDIn Fence.wide 8 P f #[.pointer (some ⟨b6,0,none⟩),.pointer (some ⟨bd,0,none⟩),.pointer (some ⟨br,0,none⟩),.pointer (some ⟨be,0,none⟩)] .returning w fun e u w'=>(∃ v,e = .returned v)∧u = .returning∧Mem w [] [] w'
 wild:∀ (b6 bd br be xb:Nat) (k:Int) (a1 a2 a3 p1 p2 p3:Value) (cs:LV) (w:World),isOne a1=true→isOne a2=true→isOne a3=true→[b6,bd,br,be,xb].Nodup →
  w.heap[b6]? = some (.cells [a1,a2,a3].toArray T6)→w.heap[bd]? = some (.cells [.pointer (some ⟨xb,0,none⟩)].toArray Td)→w.heap[br]? = some (.cells [.string (bs [])].toArray Tr)→w.heap[be]? = some (.cells [.I 0].toArray Te)→w.heap[xb]? = some (.cells ([p1,p2,p3]++cs).toArray Tx) →
  CallsDIn Fence.wide 8 P f #[.pointer (some ⟨b6,0,none⟩),.pointer (some ⟨bd,0,none⟩),.pointer (some ⟨br,0,none⟩),.pointer (some ⟨be,0,none⟩)] (.panicking [{ v:=mis k,recovered:=false }]) w fun e u w' =>
  (∃ v,e = .returned v)∧u = .panicking [{ v:=mis k,recovered:=true }]∧Mem w [(xb,.cells ([a1,a2,a3]++cs).toArray Tx),(br,.cells [.string (bs [])].toArray Tr),(be,.cells [.I k].toArray Te)] [] w'
variable {fn:Func} {f:FuncId} {T6 Td Tr Te Tx:TypeId} {x:Nat→LV→LV} {mis:Int→Value} {R:Ending→World→Prop} {v:Value} {b6 bd br be xb:Nat}
abbrev clo4 (f:FuncId) (b6 bd br be:Nat):Deferred:={ target:=.fn (.func f) #[.pointer (some ⟨b6,0,none⟩),.pointer (some ⟨bd,0,none⟩),.pointer (some ⟨br,0,none⟩),.pointer (some ⟨be,0,none⟩)],args:=#[] }
theorem BH7 {news2:Blks} {a:Act} (hc:Catches4 P f T6 Td Tr Te Tx x mis) (he:Enters P f) (hag:Agree a r) (hv:ResVs P r ([]++news2) fn v) (hR:∀ w,Mem W [] news2 w→R (.returned v) w) :
  ∀ w,Mem W [] news2 w→LeavesInM Fence.wide 9 P fn a.tmps R [clo4 f b6 bd br be] .returning w:=fun w hm=>by
 refine ⟨by simp,.inr ⟨fun h=>(by cases h),_,_,f,#[.pointer (some ⟨b6,0,none⟩),.pointer (some ⟨bd,0,none⟩),.pointer (some ⟨br,0,none⟩),.pointer (some ⟨be,0,none⟩)],rfl,by simp [invoke];exact he _ _,fun _ _=>trivial,(hc.calm b6 bd br be w).mono ?_⟩⟩
 rintro e u w' ⟨⟨x,rfl⟩,rfl,hm'⟩
 have hm2:=hm.pass hm';exact ⟨v,hv.run hag (fun _ _ h=>hm2.at h),hR _ hm2⟩
theorem AW0 {news2:Blks} (hc:Catches4 P f T6 Td Tr Te Tx x mis) (he:Enters P f) (hp:Pick news2 news) (hv:ResVs P r ([]++news2) fn v) (hR:∀ w,Mem W [] news2 w→R (.returned v) w) :
  RunE (bodyPostM Fence.wide 9 P fn R) n .ret r [clo4 f b6 bd br be] W [] news:=fun a w s=>by
 show LeavesInM _ _ _ _ _ _ a.defers _ w
 rw [s.defers];exact Ar5 (Ds:=[]) (by simp) (BH7 hc he s.agree hv hR) w (s.mem.pick hp)
theorem Am1 {k:Int} {a1 a2 a3 p1 p2 p3:Value} {cs:LV} {rest:Blks} (hc:Catches4 P f T6 Td Tr Te Tx x mis) (he:Enters P f) (h1:isOne a1=true) (h2:isOne a2=true) (h3:isOne a3=true)
  (hp:Pick ((b6,.cells [a1,a2,a3].toArray T6)::(bd,.cells [.pointer (some ⟨xb,0,none⟩)].toArray Td)::(br,.cells [.string (bs [])].toArray Tr)::(be,.cells [.I 0].toArray Te)::(xb,.cells ([p1,p2,p3]++cs).toArray Tx)::rest) news)
  (hv:ResVs P r ([]++((xb,.cells ([a1,a2,a3]++cs).toArray Tx)::(br,.cells [.string (bs [])].toArray Tr)::(be,.cells [.I k].toArray Te)::rest)) fn v)
  (hR:∀ w,Mem W [] ((xb,.cells ([a1,a2,a3]++cs).toArray Tx)::(br,.cells [.string (bs [])].toArray Tr)::(be,.cells [.I k].toArray Te)::rest) w→R (.returned v) w) :
  RunE (bodyPostM Fence.wide 9 P fn R) n (.panic [{ v:=mis k,recovered:=false }]) r [clo4 f b6 bd br be] W [] news:=fun a w s=>by
 show LeavesInM _ _ _ _ _ _ a.defers _ w
 rw [s.defers];refine Ar5 (Ds:=[]) (news2:=(b6,.cells [a1,a2,a3].toArray T6)::(bd,.cells [.pointer (some ⟨xb,0,none⟩)].toArray Td)::(br,.cells [.string (bs [])].toArray Tr)::(be,.cells [.int .i64 0].toArray Te)::(xb,.cells ([p1,p2,p3]++cs).toArray Tx)::rest) (by simp) (fun w hm=>?_) w (s.mem.pick hp)
 have hn:[b6,bd,br,be,xb].Nodup:=by
  have h:=hm.once;simp only [List.nil_append,List.map_cons] at h;exact h.sublist (.cons_cons _ (.cons_cons _ (.cons_cons _ (.cons_cons _ (.cons_cons _ (List.nil_sublist _))))))
 have ha6:=hm.newd b6 _ mm0;have had:=hm.newd bd _ mm1;have har:=hm.newd br _ mm2;have hae:=hm.newd be _ mm3;have hax:=hm.newd xb _ mm4;refine ⟨by simp,.inr ⟨fun h=>(by cases h),_,_,f,#[.pointer (some ⟨b6,0,none⟩),.pointer (some ⟨bd,0,none⟩),.pointer (some ⟨br,0,none⟩),.pointer (some ⟨be,0,none⟩)],rfl,by simp [invoke];exact he _ _,fun _ _=>trivial,(hc.wild b6 bd br be xb k a1 a2 a3 p1 p2 p3 cs w h1 h2 h3 hn ha6.2 had.2 har.2 hae.2 hax.2).mono ?_⟩⟩
 rintro e u w' ⟨⟨y,rfl⟩,rfl,hm'⟩
 have hm0:Mem W [] ([(xb,.cells ([p1,p2,p3]++cs).toArray Tx),(br,.cells [Value.string (bs [])].toArray Tr),(be,.cells [Value.int .i64 0].toArray Te)]++rest) w:=hm.pick (Pick.cnt fun x=>by simp only [List.count_cons,List.cons_append,List.nil_append];omega)
 have hm2:Mem W [] ((xb,.cells ([a1,a2,a3]++cs).toArray Tx)::(br,.cells [Value.string (bs [])].toArray Tr)::(be,.cells [Value.int .i64 k].toArray Te)::rest) w' :=
  Mem.round (V:=[(xb,.cells ([p1,p2,p3]++cs).toArray Tx),(br,.cells [Value.string (bs [])].toArray Tr),(be,.cells [Value.int .i64 0].toArray Te)]) (V':=[(xb,.cells ([a1,a2,a3]++cs).toArray Tx),(br,.cells [Value.string (bs [])].toArray Tr),(be,.cells [Value.int .i64 k].toArray Te)]) hm0 hm' rfl
 exact ⟨v,hv.run s.agree (fun _ _ h=>hm2.at h),hR _ hm2⟩
theorem Ds0 (a b c d v:Value) (arr:Array Value) (ds:List Deferred) (h:0 < arr.size):Agree { tmps:=#[a,b,c,d]++arr.setIfInBounds 0 v,defers:=ds } [(0,a),(1,b),(2,c),(3,d),(4,v)]:=fun t u ht=>by
 rcases t with _ | _ | _ | _ | _ | t
 · have h2:some a=some u:=ht
   cases h2
   show (#[a,b,c,d]++arr.setIfInBounds 0 v)[0]? = some a
   rw [Array.getElem?_append_left (by simp)];rfl
 · have h2:some b=some u:=ht
   cases h2
   show (#[a,b,c,d]++arr.setIfInBounds 0 v)[1]? = some b
   rw [Array.getElem?_append_left (by simp)];rfl
 · have h2:some c=some u:=ht
   cases h2
   show (#[a,b,c,d]++arr.setIfInBounds 0 v)[2]? = some c
   rw [Array.getElem?_append_left (by simp)];rfl
 · have h2:some d=some u:=ht
   cases h2
   show (#[a,b,c,d]++arr.setIfInBounds 0 v)[3]? = some d
   rw [Array.getElem?_append_left (by simp)];rfl
 · have h2:some v=some u:=ht
   cases h2
   simp [Array.getElem?_append,h]
 · have h2:none=some u:=ht
   cases h2
theorem Cs0 {a1 a2 a3 p1 p2 p3:Value} {cs:LV} (h1:isOne a1=true) (h2:isOne a2=true) (h3:isOne a3=true):paste ([p1,p2,p3]++cs) 0 (cellsL (.agg [a1,a2,a3].toArray))=some ([a1,a2,a3]++cs):=by
 show pasteN (p1::p2::p3::cs) [a1,a2,a3]=_
 have e:pasteN cs []=some cs:=by cases cs <;> rfl
 simp only [pasteN,h1,h2,h3,e];rfl
end
end Go.Eng
namespace Go.Q
open Go Go.Eng Go.Dk Go.RowKit Go.Pw1 Go.Hp
theorem Ct1 (b6 bd br be:Nat) (w:World):CallsDIn Fence.wide 8 π 29 #[pV b6,pV bd,pV br,pV be] .returning w fun e u w'=>(∃ v,e = .returned v)∧u = .returning∧Mem w [] [] w':=by
 refine Au8 func29 rfl fun c₀ cs0 hu=>?_
 refine wpS_seq (wpS_region ?_)
 simp only [List.range,List.range.loop,Array.size,List.size_toArray,List.length_cons,List.length_nil];simp [wpOpsS,go_sem,recoverD,hu,ntmps29,Exit.thenS]
 refine wpS_of_wp ?_;refine Bm1 (n:=f29.ntmps) (r:=[(0,pV b6),(1,pV bd),(2,pV br),(3,pV be),(4,.nilIface)]) (ds:=[]) (W:=w) (chg:=[]) (news:=[]) ?_ ⟨by simp [ntmps29],Ds0 _ _ _ _ _ _ _ (by simp),rfl,Mem.refl w⟩
 refine st ?_;refine lv (Ap3 rfl AL8) ?_;refine Ly rfl (fun h=>absurd h (by simp)) ?_;intro c0;clear c0;refine st ?_;exact fun _ _ s=>⟨s.defers,.returning,by rw [← hu],_,results_none rfl _ _ _,⟨_,rfl⟩,rfl,s.mem.drop⟩
theorem Ct0 (b6 bd br be xb:Nat) (k:Int) (a1 a2 a3 p1 p2 p3:Value) (cs:LV) (w:World) (h1:isOne a1=true) (h2:isOne a2=true) (h3:isOne a3=true) (hn:[b6,bd,br,be,xb].Nodup)
  (h6:w.heap[b6]? = some (.cells [a1,a2,a3].toArray 86)) (hd:w.heap[bd]? = some (.cells [.pointer (some ⟨xb,0,none⟩)].toArray 32)) (hr:w.heap[br]? = some (.cells [.string (bs [])].toArray 9)) (he:w.heap[be]? = some (.cells [.I 0].toArray 49)) (hx:w.heap[xb]? = some (.cells ([p1,p2,p3]++cs).toArray 88)) :
  CallsDIn Fence.wide 8 π 29 #[pV b6,pV bd,pV br,pV be] (.panicking [{ v:=dmis k,recovered:=false }]) w fun e u w' =>
  (∃ v,e = .returned v)∧u = .panicking [{ v:=dmis k,recovered:=true }]∧Mem w [(xb,.cells ([a1,a2,a3]++cs).toArray 88),(br,.cells [.string (bs [])].toArray 9),(be,.cells [.I k].toArray 49)] [] w':=by
 simp only [List.nodup_cons,List.mem_cons,List.not_mem_nil,or_false,not_or,List.nodup_nil,and_true,not_false_eq_true] at hn;obtain ⟨⟨n1,n2,n3,n4⟩,⟨n5,n6,n7⟩,⟨n8,n9⟩,n10⟩:=hn;refine Au8 func29 rfl fun c₀ cs0 hu=>?_
 refine wpS_seq (wpS_region ?_)
 simp only [List.range,List.range.loop,Array.size,List.size_toArray,List.length_cons,List.length_nil];simp [wpOpsS,go_sem,recoverD,hu,ntmps29,Exit.thenS]
 refine wpS_of_wp ?_
 refine Bm1 (n:=f29.ntmps) (r:=[(0,pV b6),(1,pV bd),(2,pV br),(3,pV be),(4,dmis k)]) (ds:=[]) (W:=w) (chg:=[(xb,.cells ([p1,p2,p3]++cs).toArray 88),(br,.cells [.string (bs [])].toArray 9),(be,.cells [.I 0].toArray 49)]) (news:=[]) ?_ ⟨by simp [ntmps29],Ds0 _ _ _ _ _ _ _ (by simp),rfl,Mem.hold (by
  intro b o hb;simp only [List.mem_cons,List.not_mem_nil,or_false,Prod.mk.injEq] at hb
  rcases hb with ⟨rfl,rfl⟩ | ⟨rfl,rfl⟩ | ⟨rfl,rfl⟩
  · exact hx
  · exact hr
  · exact he) (by simp [Ne.symm n9,Ne.symm n10,n8])⟩
 refine st ?_;refine lv (Aq6 rfl AL8) ?_;refine Ly rfl ?_ (fun h=>absurd h (by simp))
 intro c0;clear c0;refine st ?_;refine lv (Al8 rfl CI5) ?_;refine zn (Lp Cy1) (fun b5=>?_)
 refine sQ .here ?_;refine st ?_;refine Ly rfl (fun h=>absurd h (by simp)) ?_;intro c1;clear c1;refine st ?_;refine lv (Aa0 rfl hd (by simp [n1,n2,n3,n4,n5,n6,n7]) Db9 rfl) ?_;refine lu (Ag2 rfl h6 (by simp [n1,n2,n3,n4,n5,n6,n7]) Cz9 rfl) ?_;refine Xs (Ab7 (cs:=[p1,p2,p3]++cs) (cs':=[a1,a2,a3]++cs) rfl rfl .here Cz9 rfl (Cs0 h1 h2 h3)) ?_;refine st ?_;refine Bs9 3 Ah8 (qC .nil) ?_;refine Xv (i:=0) rfl (fun c hck=>(Lo rfl Ci4)) (fun _ _ _ h=>h) (qC .nil) ?_;refine Xv (i:=1) rfl (fun c hck=>(Aa6 rfl (List.mem_append_right c mm0) Af8 rfl)) (fun _ _ _ h=>h) (qC .nil) ?_;refine zA 2 ?_;refine Xr rfl (Ab7 rfl rfl (.there .here) AN0 rfl rfl) (Aa2 (qC .nil) (qC .nil) rfl ?_)
 refine zt ?_;refine zB 3 ?_;refine Xr rfl (Ab7 rfl rfl (.there (.there .here)) Af8 rfl rfl) (Ab2 ?_)
 refine zd ?_;exact fun _ _ s=>⟨s.defers,.panicking [{ v:=dmis k,recovered:=true }],rfl,_,results_none rfl _ _ _,⟨_,rfl⟩,rfl,s.mem.drop⟩
theorem Ag0:Catches4 π 29 86 32 9 49 88 (fun _ l=>l) dmis:=⟨Ct1,Ct0⟩
theorem AF8:Enters π 29:=eZ func29
theorem DS2:Enters π 31:=eZ func31
theorem DS1:Enters π 32:=eZ func32
theorem Dq5:Enters π 33:=eZ func33
theorem DS0:Enters π 34:=eZ func34
theorem Di1:fieldB π 88 2=some 20:=by kernel_rfl
instance:Fld π 88 2 20:=⟨Di1⟩
theorem Di0:fieldB π 99 0=some 0:=by kernel_rfl
instance:Fld π 99 0 0:=⟨Di0⟩
theorem Ci3:fieldB π 99 1=some 1:=by kernel_rfl
instance:Fld π 99 1 1:=⟨Ci3⟩
theorem Ci2:fieldB π 99 2=some 2:=by kernel_rfl
instance:Fld π 99 2 2:=⟨Ci2⟩
theorem DJ5:tyB π 97=some (false,1):=by kernel_rfl
instance:Tyc π 97 false 1:=⟨DJ5⟩
theorem Db5:tyB π 99=some (true,3):=by kernel_rfl
instance:Tyc π 99 true 3:=⟨Db5⟩
theorem Bu0:zeroV π 99=some (.agg #[.I 0,.bool false,.nilFunc]):=by kernel_rfl
theorem Ds2:zeroB π 86=some [.slice none 0 0,.slice none 0 0,.slice none 0 0]:=by kernel_rfl
end Go.Q
