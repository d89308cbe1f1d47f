/- Printed by our programs. -/
import Derived.Test.YtbflhimigloapaaGreatDoorS02
import Derived.Test.YtbflhimigloapaaGreatDoorProg
set_option linter.unusedSimpArgs false
set_option linter.unusedVariables false
set_option linter.unusedSectionVars false
open Go.Proofs.Tryz
open Go.Proofs.Tryz renaming prog→π
namespace Go.Pw1
open Go Go.Eng
theorem AG3 {c:Cd} (hc:c.Ok) {x:Int} (h:-80≤x∧x≤80):-8000≤c.step * x∧c.step * x≤8000:=by
 have h1:=CI7 (a:=x) (b:=c.step) (A:=80) (B:=100) h (by have:=hc.s1;omega) hc.s2;rw [Int.mul_comm];omega
theorem CD3 {p:Pr} (hp:p.Ok) (n:Int):(-8000≤(shiftX p n).1.1∧(shiftX p n).1.1≤8000)∧(-8000≤(shiftX p n).1.2∧(shiftX p n).1.2≤8000):=by
 unfold shiftX
 cases h:openX p [n] with
 | error k=>simp
 | ok u =>
   obtain ⟨k,rfl,hk⟩:=AJ9 h (List.mem_singleton.2 rfl);obtain ⟨t,ht⟩:∃ t,p.things[k]=t:=⟨_,rfl⟩;simp only [Af0 hk ht];exact Cf7 (ht ▸ (hp.ths _ (List.getElem_mem hk)).1)
end Go.Pw1
namespace Go.Q
open Go Go.Eng Go.Pw1
structure CdAt (c:Cd) (q:OA) (b o cap bc bm:Nat) (W:World):Prop where
 v:W.heap[bc]? = some (cdO c q cap bm)
 m:W.heap[bm]? = some (mapO (mEnts c.p))
 s:Sl W q b o 9 (c.p.things.map Th.cells)
 ok:c.Ok
 pk:c.p.Ok
theorem CdAt.mem {c:Cd} {q:OA} {b o cap bc bm:Nat} {W w:World} {news:Blks} (h:CdAt c q b o cap bc bm W) (hm:Mem W [] news w):CdAt c q b o cap bc bm w:=⟨hm.old_at h.v (by simp),hm.old_at h.m (by simp),h.s.mono (by decide) hm (by simp),h.ok,h.pk⟩
theorem AG2 (c:Cd) (hc:c.Ok) (t:Tr) (ht:t.Ok c.cuts) (q:OA) (cap bc bm:Nat) (W:World) (h:W.heap[bc]? = some (cdO c q cap bm)):CC 275 #[mtV bc t] W (Pure (.I (windowM c t)) W):=by
 obtain ⟨t1,t2,t3,t4,t5,t6,t7,t8⟩:=ht;have k2:=hc.c2;have hw:=AG3 hc (x:=t.ll - t.rl) (by omega);refine cS func275 ?_;refine st ?_;refine zn (Lm rfl) (fun b1=>?_)
 refine Ab9 13 Ah8 (qC .nil) ?_;refine zw 0 ?_;refine zw 1 ?_;refine zw 2 ?_;refine zw 3 ?_;refine zw 4 ?_;refine zv 5 rfl (Aa0 rfl h (by simp) Ae0 rfl) ?_;refine zw 6 ?_;refine zv 7 rfl (Aa7 rfl rfl Ah3 (by decide) (by decide)) ?_;refine zw 8 ?_;refine zw 9 ?_;refine zv 10 rfl (Aa7 rfl rfl Ah3 (by decide) (by decide)) ?_;refine zw 11 ?_;refine zv 12 rfl (Ad8 rfl rfl (Lq _ ⟨by omega,by omega⟩)) ?_;refine zt ?_;refine zo 13 rfl (Ka rfl rfl (Lq _ ⟨by omega,by omega⟩)) ?_;refine zp 14 ?_;refine zd ?_;refine su ?_;exact rP
theorem AO4 (c:Cd) (hc:c.Ok) (t:Tr) (ht:t.Ok c.cuts) (q:OA) (cap bc bm:Nat) (W:World) (h:W.heap[bc]? = some (cdO c q cap bm)):CC 276 #[mtV bc t] W (Pure (.I (apartM c t)) W):=by
 obtain ⟨t1,t2,t3,t4,t5,t6,t7,t8⟩:=ht;have k2:=hc.c2;have k3:=hc.h1;have k4:=hc.h2;have hw:=AG3 hc (x:=t.lr + t.rl) (by omega);refine cS func276 ?_;refine st ?_;refine zn (Lm rfl) (fun b1=>?_)
 refine Ab9 21 Ah8 (qC .nil) ?_;refine zw 0 ?_;refine zw 1 ?_;refine zw 2 ?_;refine zw 3 ?_;refine zw 4 ?_;refine zv 5 rfl (Aa0 rfl h (by simp) Ae0 rfl) ?_;refine zv 6 rfl (Ka rfl rfl (Lq _ ⟨by omega,by omega⟩)) ?_;refine zw 7 ?_;refine zw 8 ?_;refine zw 9 ?_;refine zw 10 ?_;refine zw 11 ?_;refine zv 12 rfl (Aa0 rfl h (by simp) Ae0 rfl) ?_;refine zw 13 ?_;refine zv 14 rfl (Aa7 rfl rfl Ah3 (by decide) (by decide)) ?_;refine zw 15 ?_;refine zw 16 ?_;refine zv 17 rfl (Aa7 rfl rfl Ah3 (by decide) (by decide)) ?_;refine zw 18 ?_;refine zv 19 rfl (Kb rfl rfl (Lq _ ⟨by omega,by omega⟩)) ?_;refine zv 20 rfl (Ka rfl rfl (Lq _ ⟨by omega,by omega⟩)) ?_;refine zt ?_;refine zo 21 rfl (Ad8 rfl rfl (Lq _ ⟨by omega,by omega⟩)) ?_;refine zp 22 ?_;refine zd ?_;refine su ?_;exact rP
theorem BB1 {c:Cd} (hc:c.Ok) {t:Tr} (ht:t.Ok c.cuts):-8000≤apartM c t∧apartM c t≤16000:=by
 obtain ⟨t1,t2,t3,t4,t5,t6,t7,t8⟩:=ht;have k2:=hc.c2;have k3:=hc.h1;have k4:=hc.h2;have hw:=AG3 hc (x:=t.lr + t.rl) (by omega);unfold apartM;omega
theorem Bc2 {c:Cd} (hc:c.Ok) {t:Tr} (ht:t.Ok c.cuts):-8000≤windowM c t∧windowM c t≤8000:=by
 obtain ⟨t1,t2,t3,t4,t5,t6,t7,t8⟩:=ht;have k2:=hc.c2;exact AG3 hc (x:=t.ll - t.rl) (by omega)
abbrev Bd8 (s:Int×Int):Prop:=(-8000≤s.1∧s.1≤8000)∧(-8000≤s.2∧s.2≤8000)
theorem Cs2 (c:Cd) (hc:c.Ok) (t:Tr) (ht:t.Ok c.cuts) (i:Int) (s:Int×Int) (hs:Bd8 s) (q:OA) (cap bc bm:Nat) (W:World) (h:W.heap[bc]? = some (cdO c q cap bm)) :
  CC 318 #[.agg #[],mtV bc t,.I i,b2v s] W (Pure (.bool (decide (apartM c t - s.2 < c.eyes.hi - c.squeeze))) W):=by
 obtain ⟨⟨s1,s2⟩,s3,s4⟩:=hs;have ab:=BB1 hc ht;have k1:=hc.e1;have k2:=hc.e2;have k3:=hc.e3;have k4:=hc.q1;have k5:=hc.q2;refine cS func318 ?_;refine st ?_;refine zn (Lm rfl) (fun b4=>?_)
 refine zn (Lm rfl) (fun b5=>?_)
 refine zn (Lm rfl) (fun b7=>?_)
 refine Ab9 19 Ah8 (qE (qC .nil)) ?_;refine zw 0 ?_;refine zw 2 ?_;refine zw 3 ?_;refine zw 5 ?_;refine zw 6 ?_;refine zw 7 ?_;refine zw 8 ?_;refine zw 9 ?_;refine zw 10 ?_;refine zv 11 rfl (Aa0 rfl h (by simp) Ae0 rfl) ?_;refine zw 12 ?_;refine zw 13 ?_;refine zw 14 ?_;refine zw 15 ?_;refine zw 16 ?_;refine zv 17 rfl (Aa0 rfl h (by simp) Ae0 rfl) ?_;refine zv 18 rfl (Ad8 rfl rfl (Lq _ ⟨by omega,by omega⟩)) ?_;refine zA 1 ?_;refine Xd rfl (zF rfl BY3) (fun w hm=>AO4 c hc t ht q cap bc bm w (hm.old_at h (by simp))) (Aa2 (qE (qC .nil)) (qE (qC .nil)) rfl ?_)
 refine zv 4 rfl (Ad8 rfl rfl (Lq _ ⟨by omega,by omega⟩)) ?_;refine zt ?_;refine zp 19 ?_;refine zp 20 ?_;refine zd ?_;refine su ?_;exact rP
theorem CP2 (c:Cd) (hc:c.Ok) (t:Tr) (ht:t.Ok c.cuts) (i:Int) (s:Int×Int) (hs:Bd8 s) (q:OA) (cap bc bm:Nat) (W:World) (h:W.heap[bc]? = some (cdO c q cap bm)) :
  CC 319 #[.agg #[],mtV bc t,.I i,b2v s] W (Pure (.bool (decide (c.eyes.lo + c.prism < apartM c t - s.1))) W):=by
 obtain ⟨⟨s1,s2⟩,s3,s4⟩:=hs;have ab:=BB1 hc ht;have k1:=hc.e1;have k2:=hc.e2;have k3:=hc.e3;have k4:=hc.p1;have k5:=hc.p2;refine cS func319 ?_;refine st ?_;refine zn (Lm rfl) (fun b4=>?_)
 refine zn (Lm rfl) (fun b5=>?_)
 refine zn (Lm rfl) (fun b7=>?_)
 refine Ab9 19 Ah8 (qE (qC .nil)) ?_;refine zw 0 ?_;refine zw 2 ?_;refine zw 3 ?_;refine zw 5 ?_;refine zw 6 ?_;refine zw 7 ?_;refine zw 8 ?_;refine zw 9 ?_;refine zw 10 ?_;refine zv 11 rfl (Aa0 rfl h (by simp) Ae0 rfl) ?_;refine zw 12 ?_;refine zw 13 ?_;refine zw 14 ?_;refine zw 15 ?_;refine zw 16 ?_;refine zv 17 rfl (Aa0 rfl h (by simp) Ae0 rfl) ?_;refine zv 18 rfl (Kb rfl rfl (Lq _ ⟨by omega,by omega⟩)) ?_;refine zA 1 ?_;refine Xd rfl (zF rfl BY3) (fun w hm=>AO4 c hc t ht q cap bc bm w (hm.old_at h (by simp))) (Aa2 (qE (qC .nil)) (qE (qC .nil)) rfl ?_)
 refine zv 4 rfl (Ad8 rfl rfl (Lq _ ⟨by omega,by omega⟩)) ?_;refine zt ?_;refine zp 19 ?_;refine zp 20 ?_;refine zd ?_;refine su ?_;exact rP
theorem BX3 (c:Cd) (hc:c.Ok) (t:Tr) (ht:t.Ok c.cuts) (i:Int) (s:Int×Int) (hs:Bd8 s) (q:OA) (cap bc bm:Nat) (W:World) (h:W.heap[bc]? = some (cdO c q cap bm)) :
  CC 320 #[.agg #[],mtV bc t,.I i,b2v s] W (Pure (.bool (decide (windowM c t + c.front < s.2))) W):=by
 obtain ⟨⟨s1,s2⟩,s3,s4⟩:=hs;have ab:=Bc2 hc ht;have k4:=hc.f1;have k5:=hc.f2;refine cS func320 ?_;refine st ?_;refine zn (Lm rfl) (fun b4=>?_)
 refine zn (Lm rfl) (fun b5=>?_)
 refine zn (Lm rfl) (fun b7=>?_)
 refine Ab9 11 Ah8 (qE (qC .nil)) ?_;refine zw 0 ?_;refine zw 1 ?_;refine zw 2 ?_;refine zw 4 ?_;refine zw 5 ?_;refine zw 6 ?_;refine zw 7 ?_;refine zw 8 ?_;refine zv 9 rfl (Aa0 rfl h (by simp) Ae0 rfl) ?_;refine zA 3 ?_;refine Xd rfl (zF rfl BY4) (fun w hm=>AG2 c hc t ht q cap bc bm w (hm.old_at h (by simp))) (Aa2 (qE (qC .nil)) (qE (qC .nil)) rfl ?_)
 refine zv 10 rfl (Kb rfl rfl (Lq _ ⟨by omega,by omega⟩)) ?_;refine zt ?_;refine zp 11 ?_;refine zp 12 ?_;refine zd ?_;refine su ?_;exact rP
theorem BA4 (c:Cd) (hc:c.Ok) (t:Tr) (ht:t.Ok c.cuts) (i:Int) (s:Int×Int) (hs:Bd8 s) (q:OA) (cap bc bm:Nat) (W:World) (h:W.heap[bc]? = some (cdO c q cap bm)) :
  CC 321 #[.agg #[],mtV bc t,.I i,b2v s] W (Pure (.bool (decide (s.1 < windowM c t - c.deep))) W):=by
 obtain ⟨⟨s1,s2⟩,s3,s4⟩:=hs;have ab:=Bc2 hc ht;have k4:=hc.d1;have k5:=hc.d2;refine cS func321 ?_;refine st ?_;refine zn (Lm rfl) (fun b4=>?_)
 refine zn (Lm rfl) (fun b5=>?_)
 refine zn (Lm rfl) (fun b7=>?_)
 refine Ab9 11 Ah8 (qE (qC .nil)) ?_;refine zw 0 ?_;refine zw 1 ?_;refine zw 2 ?_;refine zw 4 ?_;refine zw 5 ?_;refine zw 6 ?_;refine zw 7 ?_;refine zw 8 ?_;refine zv 9 rfl (Aa0 rfl h (by simp) Ae0 rfl) ?_;refine zA 3 ?_;refine Xd rfl (zF rfl BY4) (fun w hm=>AG2 c hc t ht q cap bc bm w (hm.old_at h (by simp))) (Aa2 (qE (qC .nil)) (qE (qC .nil)) rfl ?_)
 refine zv 10 rfl (Ad8 rfl rfl (Lq _ ⟨by omega,by omega⟩)) ?_;refine zt ?_;refine zp 11 ?_;refine zp 12 ?_;refine zd ?_;refine su ?_;exact rP
theorem CH6 (c:Cd) (t:Tr) (ht:t.Ok c.cuts) (k:Nat) (hk:k < c.p.things.length) (s:Int×Int) (q:OA) (b o cap bc bm:Nat) (W:World) (h:CdAt c q b o cap bc bm W) :
  CC 322 #[.agg #[],mtV bc t,.I (k:Int),b2v s] W (Pure (.bool (offM c t (thingAt c.p k))) W):=by
 have hc:=h.ok;have hv:=h.v;obtain ⟨t1,t2,t3,t4,t5,t6,t7,t8⟩:=ht;have k2:=hc.c2;have k3:=hc.h1;have k4:=hc.h2;have w1:=AG3 hc (x:=t.ll) (by omega);have w2:=AG3 hc (x:=t.lr) (by omega);have w3:=AG3 hc (x:=t.rl) (by omega);have w4:=AG3 hc (x:=t.rr) (by omega);obtain ⟨x,hx⟩:∃ x,c.p.things[k]=x:=⟨_,rfl⟩;rw [Af0 hk hx];have hl:=h.pk.len;refine cS func322 ?_;refine st ?_;refine zn (Lm rfl) (fun b4=>?_)
 refine zn (Lm rfl) (fun b5=>?_)
 refine zn (Lm rfl) (fun b7=>?_)
 refine lv (Aa0 rfl hv (by simp) AD3 rfl) ?_;refine lv (Aa3 rfl rfl Ax9 (by omega) (by omega) (h.s.ptrM hk)) ?_;refine lv (Aa5 rfl (fun w hm=>h.s.loadX (by decide) hm (by simp) Ay5 hk hx)) ?_;refine zn (Lp Al0) (fun b9=>?_)
 refine sQ .here ?_;refine su ?_;refine zn (Lu (parts:=[(0,.tmp 25),(1,.tmp 28)]) rfl Cf6 Ad6 rfl rfl rfl rfl) (fun b29=>?_)
 refine Ar1 2 ?_;refine st ?_;refine Ly rfl ?_ (fun h=>absurd h (by decide))
 intro c0;clear c0;refine st ?_;refine lu (Ab1 rfl rfl Cf6 (by decide) (by decide)) ?_;refine zn (Lp Ad6) (fun b11=>?_)
 refine sQ .here ?_;refine st ?_;refine Ab9 41 Ah8 (qF (qE .nil)) ?_;refine zw 0 ?_;refine zw 1 ?_;refine zw 2 ?_;refine zw 3 ?_;refine zw 4 ?_;refine zv 5 rfl (Aa0 rfl hv (by simp) Ae0 rfl) ?_;refine zw 6 ?_;refine zv 7 rfl (Ka rfl rfl (Lq _ ⟨by omega,by omega⟩)) ?_;refine zw 8 ?_;refine zv 9 rfl (Aa7 rfl rfl Ah3 (by decide) (by decide)) ?_;refine zw 10 ?_;refine zv 11 rfl (Ka rfl rfl (Lq _ ⟨by omega,by omega⟩)) ?_;refine zw 12 ?_;refine zw 13 ?_;refine zw 14 ?_;refine zw 15 ?_;refine zw 16 ?_;refine zv 17 rfl (Aa0 rfl hv (by simp) Ae0 rfl) ?_;refine zv 18 rfl (Ad8 rfl rfl (Lq _ ⟨by omega,by omega⟩)) ?_;refine zw 19 ?_;refine zw 20 ?_;refine zw 21 ?_;refine zw 22 ?_;refine zw 23 ?_;refine zv 24 rfl (Aa0 rfl hv (by simp) Ae0 rfl) ?_;refine zw 25 ?_;refine zw 26 ?_;refine zw 27 ?_;refine zw 28 ?_;refine zw 29 ?_;refine zv 30 rfl (Aa0 rfl hv (by simp) Ae0 rfl) ?_;refine zw 31 ?_;refine zv 32 rfl (Ka rfl rfl (Lq _ ⟨by omega,by omega⟩)) ?_;refine zv 33 rfl (Kb rfl rfl (Lq _ ⟨by omega,by omega⟩)) ?_;refine zw 34 ?_;refine zv 35 rfl (Aa7 rfl rfl Ah3 (by decide) (by decide)) ?_;refine zw 36 ?_;refine zv 37 rfl (Ka rfl rfl (Lq _ ⟨by omega,by omega⟩)) ?_;refine zv 38 rfl (Ad8 rfl rfl (Lq _ ⟨by omega,by omega⟩)) ?_;refine zv 39 rfl (Lr (parts:=[(0,.tmp 54),(1,.tmp 74)]) rfl Ai2 An9 rfl) ?_;refine zA 40 ?_;refine Xf rfl (Lp Ai2) (fun b12=>(Aa2 (qF (qE (qC .nil))) (qD (qD (qD (qD (qD (qD .nil)))))) rfl ?_))
 refine zt ?_;refine zB 41 ?_;refine Xr rfl (Lt rfl rfl .here Bc6 rfl rfl) (Ab2 ?_)
 refine zd ?_;refine su ?_
 refine Ac5 (dj:=81) (dp:=87) 6 rfl (fun g81=>by
  refine lv (Lo rfl Al7) ?_;refine lv (Aa6 rfl mm1 Ae0 rfl) ?_;refine lv (Lo rfl Bh4) ?_;refine Xa (Aa6 rfl mm0 Ae0 rfl) ?_;refine sv ?_;exact zs g81
 ) (fun g81=>by
   iterate 5 refine nQ ?_
   refine sv ?_;exact zs g81
 ) ?_
 refine st ?_;refine cn rfl ?_ ?_
 ·intro c1'
  refine su ?_;exact Aa9 rZ (by simp_all [offM])
 intro c1';have e0:=c1';refine st ?_;refine Xa (Kb rfl rfl (Lq _ ⟨by decide,by decide⟩)) ?_;refine vQ ?_;refine Kf ?_;refine Ak5 (zS 2 rfl (zS 5 rfl (zS 8 rfl (zS 9 rfl (zS 29 rfl (zS 30 rfl (zS 31 rfl (Sub.nil _)))))))) (qH (qH (qI .nil))) ?_;refine Ag3 ?_;refine st ?_;refine Ly rfl ?_ (fun h=>absurd h (by decide))
 intro c0;clear c0;refine st ?_;refine lu (Ab1 rfl rfl Cf6 (by decide) (by decide)) ?_;refine zn (Lp Ad6) (fun b11=>?_)
 refine sQ .here ?_;refine st ?_;refine Ab9 41 Ah8 (qF .nil) ?_;refine zw 0 ?_;refine zw 1 ?_;refine zw 2 ?_;refine zw 3 ?_;refine zw 4 ?_;refine zv 5 rfl (Aa0 rfl hv (by simp) Ae0 rfl) ?_;refine zw 6 ?_;refine zv 7 rfl (Ka rfl rfl (Lq _ ⟨by omega,by omega⟩)) ?_;refine zw 8 ?_;refine zv 9 rfl (Aa7 rfl rfl Ah3 (by decide) (by decide)) ?_;refine zw 10 ?_;refine zv 11 rfl (Ka rfl rfl (Lq _ ⟨by omega,by omega⟩)) ?_;refine zw 12 ?_;refine zw 13 ?_;refine zw 14 ?_;refine zw 15 ?_;refine zw 16 ?_;refine zv 17 rfl (Aa0 rfl hv (by simp) Ae0 rfl) ?_;refine zv 18 rfl (Ad8 rfl rfl (Lq _ ⟨by omega,by omega⟩)) ?_;refine zw 19 ?_;refine zw 20 ?_;refine zw 21 ?_;refine zw 22 ?_;refine zw 23 ?_;refine zv 24 rfl (Aa0 rfl hv (by simp) Ae0 rfl) ?_;refine zw 25 ?_;refine zw 26 ?_;refine zw 27 ?_;refine zw 28 ?_;refine zw 29 ?_;refine zv 30 rfl (Aa0 rfl hv (by simp) Ae0 rfl) ?_;refine zw 31 ?_;refine zv 32 rfl (Ka rfl rfl (Lq _ ⟨by omega,by omega⟩)) ?_;refine zv 33 rfl (Kb rfl rfl (Lq _ ⟨by omega,by omega⟩)) ?_;refine zw 34 ?_;refine zv 35 rfl (Aa7 rfl rfl Ah3 (by decide) (by decide)) ?_;refine zw 36 ?_;refine zv 37 rfl (Ka rfl rfl (Lq _ ⟨by omega,by omega⟩)) ?_;refine zv 38 rfl (Ad8 rfl rfl (Lq _ ⟨by omega,by omega⟩)) ?_;refine zv 39 rfl (Lr (parts:=[(0,.tmp 54),(1,.tmp 74)]) rfl Ai2 An9 rfl) ?_;refine zA 40 ?_;refine Xf rfl (Lp Ai2) (fun b12=>(Aa2 (qF (qC .nil)) (qD (qD (qD (qD .nil)))) rfl ?_))
 refine zt ?_;refine zB 41 ?_;refine Xr rfl (Lt rfl rfl .here Bc6 rfl rfl) (Ab2 ?_)
 refine zd ?_;refine su ?_
 refine Ac5 (dj:=81) (dp:=87) 6 rfl (fun g81=>by
  refine lv (Lo rfl Al7) ?_;refine lv (Aa6 rfl mm1 Ae0 rfl) ?_;refine lv (Lo rfl Bh4) ?_;refine Xa (Aa6 rfl mm0 Ae0 rfl) ?_;refine sv ?_;exact zs g81
 ) (fun g81=>by
   iterate 5 refine nQ ?_
   refine sv ?_;exact zs g81
 ) ?_
 refine st ?_;refine cn rfl ?_ ?_
 ·intro c1'
  refine su ?_;exact Aa9 rZ (by simp_all [offM])
 intro c1';have e1:=c1';refine st ?_;refine Xa (Kb rfl rfl (Lq _ ⟨by decide,by decide⟩)) ?_;refine vQ ?_;refine Kf ?_;refine Ak5 (zS 2 rfl (zS 5 rfl (zS 8 rfl (zS 9 rfl (zS 29 rfl (zS 30 rfl (zS 31 rfl (Sub.nil _)))))))) (qH (qH (qH .nil))) ?_;refine Ag3 ?_;refine st ?_;refine Ly rfl (fun h=>absurd h (by decide)) ?_;intro c0;clear c0;refine Ls ?_;refine su ?_;refine Aa4 ?_;refine su ?_;exact Aa9 rZ (by simp_all [offM])
theorem Cs3 (c:Cd) (t:Tr) (ht:t.Ok c.cuts) (k:Nat) (hk:k < c.p.things.length) (hw:(whyX c.p k).1=0) (q:OA) (b o cap bc bm:Nat) (W:World) (h:CdAt c q b o cap bc bm W) :
  CC 254 #[mtV bc t,.I (k:Int)] W (Pure (.I (whyM c t k)) W):=by
 have hc:=h.ok;have hv:=h.v;have hM:=h.m;have hs:=CD3 h.pk k;have hl:=h.pk.len;refine cS func254 ?_;refine st ?_;refine zn (Lm rfl) (fun b2=>?_)
 refine lv (Lr (parts:=[]) rfl CY7 Cq1 rfl) ?_;refine lv (Lz rfl Df8) ?_;refine lv (Lr (parts:=[]) rfl CY6 Cq0 rfl) ?_;refine lv (Lz rfl Df7) ?_;refine lv (Lr (parts:=[]) rfl CY5 Cp9 rfl) ?_;refine lv (Lz rfl Df6) ?_;refine lv (Lr (parts:=[]) rfl CY4 Cp8 rfl) ?_;refine lv (Lz rfl Df5) ?_;refine lv (Lr (parts:=[]) rfl CY3 Cp7 rfl) ?_;refine lv (Lz rfl Df4) ?_;refine lv (Lr (parts:=[(0,.tmp 9),(1,.tmp 11),(2,.tmp 13),(3,.tmp 15),(4,.tmp 17)]) rfl Cd8 Cp6 rfl) ?_;refine zn (Lp Cd8) (fun b5=>?_)
 refine sQ .here ?_;refine su ?_;refine Ar1 5 ?_;refine st ?_;refine Ly rfl ?_ (fun h=>absurd h (by decide))
 intro c0;clear c0;refine st ?_;refine lv (Aj4 rfl rfl AS4 (by decide) (by decide) (show _=some (Value.iface 393 (.agg #[])) from rfl)) ?_;refine Ab9 13 Ah8 (qE .nil) ?_;refine zw 0 ?_;refine zw 1 ?_;refine zw 2 ?_;refine zw 3 ?_;refine zw 4 ?_;refine zw 5 ?_;refine zw 6 ?_;refine zv 7 rfl (Aa0 rfl hv (by simp) Bc8 rfl) ?_;refine zw 8 ?_;refine zw 10 ?_;refine zv 11 rfl (Ax4 rfl rfl (Au0 _)) ?_;refine zw 12 ?_;refine zA 9 ?_;refine Xc rfl (Ax5 rfl rfl (fun w hm=>hm.old_at hM (by simp)) Az3 AB5 (by rw [AU3 hk,if_pos hw])) (Aa2 (qE .nil) (qE .nil) rfl ?_)
 refine zt ?_;refine zB 13 ?_;refine Xd rfl (Ag1 rfl rfl (fun w=>As3 _ w) Dy7) (fun w hm=>Cs2 c hc t ht k _ hs q cap bc bm w (hm.old_at hv (by simp))) (Ab2 ?_)
 refine zd ?_;refine st ?_;refine cn rfl ?_ ?_
 ·intro c1'
  refine st ?_;refine lu (Kb rfl rfl (Lq _ ⟨by decide,by decide⟩)) ?_;exact Aa9 rZ (by simp [whyM,hurtL,idxF, *])
 intro c1';have e0:=Int.not_lt.2 c1';refine st ?_;refine Xa (Kb rfl rfl (Lq _ ⟨by decide,by decide⟩)) ?_;refine vQ ?_;refine Kf ?_;refine Ak5 (zS 1 rfl (zS 2 rfl (zS 4 rfl (zS 19 rfl (zS 20 rfl (Sub.nil _)))))) (qD .nil) ?_;refine Ag3 ?_;refine st ?_;refine Ly rfl ?_ (fun h=>absurd h (by decide))
 intro c0;clear c0;refine st ?_;refine lv (Aj4 rfl rfl AS4 (by decide) (by decide) (show _=some (Value.iface 394 (.agg #[])) from rfl)) ?_;refine Ab9 13 Ah8 (qC .nil) ?_;refine zw 0 ?_;refine zw 1 ?_;refine zw 2 ?_;refine zw 3 ?_;refine zw 4 ?_;refine zw 5 ?_;refine zw 6 ?_;refine zv 7 rfl (Aa0 rfl hv (by simp) Bc8 rfl) ?_;refine zw 8 ?_;refine zw 10 ?_;refine zv 11 rfl (Ax4 rfl rfl (At9 _)) ?_;refine zw 12 ?_;refine zA 9 ?_;refine Xc rfl (Ax5 rfl rfl (fun w hm=>hm.old_at hM (by simp)) Az3 AB5 (by rw [AU3 hk,if_pos hw])) (Aa2 (qC .nil) (qC .nil) rfl ?_)
 refine zt ?_;refine zB 13 ?_;refine Xd rfl (Ag1 rfl rfl (fun w=>As2 _ w) Dy6) (fun w hm=>CP2 c hc t ht k _ hs q cap bc bm w (hm.old_at hv (by simp))) (Ab2 ?_)
 refine zd ?_;refine st ?_;refine cn rfl ?_ ?_
 ·intro c1'
  refine st ?_;refine lu (Kb rfl rfl (Lq _ ⟨by decide,by decide⟩)) ?_;exact Aa9 rZ (by simp [whyM,hurtL,idxF, *])
 intro c1';have e1:=Int.not_lt.2 c1';refine st ?_;refine Xa (Kb rfl rfl (Lq _ ⟨by decide,by decide⟩)) ?_;refine vQ ?_;refine Kf ?_;refine Ak5 (zS 1 rfl (zS 2 rfl (zS 4 rfl (zS 19 rfl (zS 20 rfl (Sub.nil _)))))) (qC .nil) ?_;refine Ag3 ?_;refine st ?_;refine Ly rfl ?_ (fun h=>absurd h (by decide))
 intro c0;clear c0;refine st ?_;refine lv (Aj4 rfl rfl AS4 (by decide) (by decide) (show _=some (Value.iface 395 (.agg #[])) from rfl)) ?_;refine Ab9 13 Ah8 (qC .nil) ?_;refine zw 0 ?_;refine zw 1 ?_;refine zw 2 ?_;refine zw 3 ?_;refine zw 4 ?_;refine zw 5 ?_;refine zw 6 ?_;refine zv 7 rfl (Aa0 rfl hv (by simp) Bc8 rfl) ?_;refine zw 8 ?_;refine zw 10 ?_;refine zv 11 rfl (Ax4 rfl rfl (At8 _)) ?_;refine zw 12 ?_;refine zA 9 ?_;refine Xc rfl (Ax5 rfl rfl (fun w hm=>hm.old_at hM (by simp)) Az3 AB5 (by rw [AU3 hk,if_pos hw])) (Aa2 (qC .nil) (qC .nil) rfl ?_)
 refine zt ?_;refine zB 13 ?_;refine Xd rfl (Ag1 rfl rfl (fun w=>As1 _ w) Dy5) (fun w hm=>BX3 c hc t ht k _ hs q cap bc bm w (hm.old_at hv (by simp))) (Ab2 ?_)
 refine zd ?_;refine st ?_;refine cn rfl ?_ ?_
 ·intro c1'
  refine st ?_;refine lu (Kb rfl rfl (Lq _ ⟨by decide,by decide⟩)) ?_;exact Aa9 rZ (by simp [whyM,hurtL,idxF, *])
 intro c1';have e2:=Int.not_lt.2 c1';refine st ?_;refine Xa (Kb rfl rfl (Lq _ ⟨by decide,by decide⟩)) ?_;refine vQ ?_;refine Kf ?_;refine Ak5 (zS 1 rfl (zS 2 rfl (zS 4 rfl (zS 19 rfl (zS 20 rfl (Sub.nil _)))))) (qC .nil) ?_;refine Ag3 ?_;refine st ?_;refine Ly rfl ?_ (fun h=>absurd h (by decide))
 intro c0;clear c0;refine st ?_;refine lv (Aj4 rfl rfl AS4 (by decide) (by decide) (show _=some (Value.iface 396 (.agg #[])) from rfl)) ?_;refine Ab9 13 Ah8 (qC .nil) ?_;refine zw 0 ?_;refine zw 1 ?_;refine zw 2 ?_;refine zw 3 ?_;refine zw 4 ?_;refine zw 5 ?_;refine zw 6 ?_;refine zv 7 rfl (Aa0 rfl hv (by simp) Bc8 rfl) ?_;refine zw 8 ?_;refine zw 10 ?_;refine zv 11 rfl (Ax4 rfl rfl (At7 _)) ?_;refine zw 12 ?_;refine zA 9 ?_;refine Xc rfl (Ax5 rfl rfl (fun w hm=>hm.old_at hM (by simp)) Az3 AB5 (by rw [AU3 hk,if_pos hw])) (Aa2 (qC .nil) (qC .nil) rfl ?_)
 refine zt ?_;refine zB 13 ?_;refine Xd rfl (Ag1 rfl rfl (fun w=>As0 _ w) Dy4) (fun w hm=>BA4 c hc t ht k _ hs q cap bc bm w (hm.old_at hv (by simp))) (Ab2 ?_)
 refine zd ?_;refine st ?_;refine cn rfl ?_ ?_
 ·intro c1'
  refine st ?_;refine lu (Kb rfl rfl (Lq _ ⟨by decide,by decide⟩)) ?_;exact Aa9 rZ (by simp [whyM,hurtL,idxF, *])
 intro c1';have e3:=Int.not_lt.2 c1';refine st ?_;refine Xa (Kb rfl rfl (Lq _ ⟨by decide,by decide⟩)) ?_;refine vQ ?_;refine Kf ?_;refine Ak5 (zS 1 rfl (zS 2 rfl (zS 4 rfl (zS 19 rfl (zS 20 rfl (Sub.nil _)))))) (qC .nil) ?_;refine Ag3 ?_;refine st ?_;refine Ly rfl ?_ (fun h=>absurd h (by decide))
 intro c0;clear c0;refine st ?_;refine lv (Aj4 rfl rfl AS4 (by decide) (by decide) (show _=some (Value.iface 397 (.agg #[])) from rfl)) ?_;refine Ab9 13 Ah8 (qC .nil) ?_;refine zw 0 ?_;refine zw 1 ?_;refine zw 2 ?_;refine zw 3 ?_;refine zw 4 ?_;refine zw 5 ?_;refine zw 6 ?_;refine zv 7 rfl (Aa0 rfl hv (by simp) Bc8 rfl) ?_;refine zw 8 ?_;refine zw 10 ?_;refine zv 11 rfl (Ax4 rfl rfl (At6 _)) ?_;refine zw 12 ?_;refine zA 9 ?_;refine Xc rfl (Ax5 rfl rfl (fun w hm=>hm.old_at hM (by simp)) Az3 AB5 (by rw [AU3 hk,if_pos hw])) (Aa2 (qC .nil) (qC .nil) rfl ?_)
 refine zt ?_;refine zB 13 ?_;refine Xd rfl (Ag1 rfl rfl (fun w=>Ar9 _ w) Dy3) (fun w hm=>CH6 c t ht k hk _ q b o cap bc bm w (h.mem hm.drop)) (Ab2 ?_)
 refine zd ?_;refine st ?_;refine cn rfl ?_ ?_
 ·intro c1'
  refine st ?_;refine lu (Kb rfl rfl (Lq _ ⟨by decide,by decide⟩)) ?_;exact Aa9 rZ (by simp [whyM,hurtL,idxF, *])
 intro c1';have e4:=c1';refine st ?_;refine Xa (Kb rfl rfl (Lq _ ⟨by decide,by decide⟩)) ?_;refine vQ ?_;refine Kf ?_;refine Ak5 (zS 1 rfl (zS 2 rfl (zS 4 rfl (zS 19 rfl (zS 20 rfl (Sub.nil _)))))) (qC .nil) ?_;refine Ag3 ?_;refine st ?_;refine Ly rfl (fun h=>absurd h (by decide)) ?_;intro c0;clear c0;refine Ls ?_;refine su ?_;refine Aa4 ?_;refine su ?_;exact Aa9 rZ (by simp [whyM,hurtL,idxF, *])
def seenS (p:Pr) (k:Nat):Int×Int:=if (whyX p k).1=0 then (shiftX p k).1 else (0,0)
theorem De2 {p:Pr} {k:Nat} (hk:k < p.things.length):Value.tuple #[(mFind (mEnts p) k).getD (.agg #[.I 0,.I 0]),.bool (mFind (mEnts p) k).isSome] = .tuple #[b2v (seenS p k),.bool (decide ((whyX p k).1=0))]:=by
 rw [AU3 hk];unfold seenS
 by_cases h:(whyX p k).1=0
 · simp [h]
 · simp [h,b2v]
abbrev thO (p:Pr):={ x:Eng.Own // OwnOk 1 x (seenN p).length ((seenN p).map fun n=>[Value.int .i64 n]).flatten }
theorem BD4 (c:Cd) (q:OA) (b o cap bc bm:Nat) (W:World) (h:CdAt c q b o cap bc bm W) :
  CC 253 #[.pointer (some ⟨bc,0,none⟩)] W (News (fun x:thO c.p=>.slice (ownQ x.1) (seenN c.p).length (ownC x.1)) (fun x=>ownB 3 x.1 ((seenN c.p).map fun n=>[Value.int .i64 n]).flatten++[]) W):=by
 have hv:=h.v;have hM:=h.m;have hl:=h.pk.len;refine cS func253 ?_;refine su ?_;refine lu (Aa0 rfl hv (by simp) AD3 rfl) ?_;refine Af2 (X:=Eng.Own) (n0:=[]) (c.p.things.length) (fun k x q=>(13,.I (k:Int))::(2,ownV x (seenNK c.p k).length)::q) (fun _ _=>_) (fun k x=>[]) (fun k x=>ownB 3 x ((seenNK c.p k).map fun n=>[Value.int .i64 n]).flatten++[]) (fun k x=>OwnOk 1 x (seenNK c.p k).length ((seenNK c.p k).map fun n=>[Value.int .i64 n]).flatten) none OwnOk.start rfl (zE 13 rfl rfl (zE 2 rfl rfl (zS 0 rfl (zS 12 rfl (Sub.nil _))))) (Pick.same rfl) ?_;intro k x kN kI;have hx1:=kI;refine st ?_;refine cn rfl ?_ ?_
 ·intro c0'
  have hk:k < c.p.things.length:=by omega
  refine su ?_;refine lv (Aa0 rfl hv (by simp) Bc8 rfl) ?_;refine lv (BB4 rfl rfl (fun w hm=>hm.old_at hM (by simp)) Az3 AB5 (De2 hk)) ?_;refine zn (Lp Ai2) (fun b4=>?_)
  refine sQ .here ?_;refine st ?_;refine cn rfl ?_ ?_
  ·intro c1'
   have hw:(whyX c.p k).1=0:=c1';have hsl:=AT3 c.p k;refine st ?_;refine zn (Lu (parts:=[(0,.tmp 27)]) rfl Af6 Al2 rfl rfl rfl rfl) (fun b28=>?_)
   refine Kh (A:=[(b28,_),(b4,_)]) (B:=_) (x:=x) (ys:=[.I (k:Int)]) BO3 rfl rfl rfl hx1 rfl (fun h=>by cases h) (fun w hm=>Aj6 (hm.at mm0)) (Ao0 rfl) (by simp only [maxLen];omega) (by omega) rfl (fun z29 hz29=>?_)
   refine st ?_;refine lA ?_;exact Ac3 z29 (by omega) (by first | (rw [Av6 hw,← AH7,List.length_append];exact hz29) | (rw [AC0 hw];exact hx1)) rfl (zE 13 rfl rfl (zE 2 rfl (by first | (rw [Av6 hw,List.length_append];rfl) | rw [AC0 hw]) (zS 0 rfl (zS 12 rfl (Sub.nil _))))) (Pick.skip (Pick.skip (Pick.same (by rw [Av6 hw,← AH7];rfl))))
  intro c1';have hw:(whyX c.p k).1 ≠ 0:=c1';refine st ?_;refine lA ?_;exact Ac3 x (by omega) (by first | (rw [Av6 hw,← AH7,List.length_append];exact hz29) | (rw [AC0 hw];exact hx1)) rfl (zE 13 rfl rfl (zE 2 rfl (by first | (rw [Av6 hw,List.length_append];rfl) | rw [AC0 hw]) (zS 0 rfl (zS 12 rfl (Sub.nil _))))) (Pick.skip (Pick.same (by rw [AC0 hw])))
 intro c0';obtain rfl:k=c.p.things.length:=by omega
 have y1:ownV x (seenNK c.p c.p.things.length).length = .slice (ownQ x) (seenN c.p).length (ownC x):=Ad3 hx1;simp only [y1];refine Ls ?_;refine su ?_;refine Aa4 ?_;refine su ?_;exact Ld (chg:=[]) rZ (fun _ hm=>⟨⟨x,hx1⟩,rfl,hm.pick (Pick.refl _)⟩)
theorem DV2 {p:Pr} (x:thO p) {w:World} (hm:∀ b o,(b,o)∈ownB 3 x.1 ((seenN p).map fun n=>[Value.int .i64 n]).flatten++[]→w.heap[b]? = some o):Sl w (ownQ x.1) (ownK x.1) 0 1 ((seenN p).map fun n=>[Value.int .i64 n]) :=
 Am3 (f:=fun n:Int=>[Value.int .i64 n]) (sz:=1) (fun _=>rfl) (by decide) x.2 (fun b o h=>hm b o (List.mem_append_left _ h))
end Go.Q
namespace Go.Pw1
open Go Go.Eng
def keyN (p:Pr) (i:Nat):Nat:=((seenM p).getD i (0,(0,0))).1.toNat
theorem Bf9 (p:Pr):(mEnts p).length=(seenM p).length:=by simp [mEnts,entsV]
theorem BI7 {p:Pr} {i:Nat} (hi:i < (mEnts p).length):(seenM p)[i]'(by rw [← Bf9];exact hi)=((keyN p i:Int),(shiftX p (keyN p i)).1)∧keyN p i < p.things.length∧(whyX p (keyN p i)).1=0:=by
 have hi2:i < (seenM p).length:=by rw [← Bf9];exact hi
 obtain ⟨j,h1,h2,h3⟩:=CE3.1 (List.getElem_mem hi2);have hk:keyN p i=j:=by unfold keyN;rw [List.getD_eq_getElem?_getD,List.getElem?_eq_getElem hi2,Option.getD_some,h1];simp
 rw [hk];exact ⟨h1,h2,h3⟩
theorem DO3 {p:Pr} {i:Nat} (hi:i < (mEnts p).length):Value.tuple #[.I (mEnts p)[i].1,(mEnts p)[i].2] = .tuple #[.I ((keyN p i:Nat):Int),b2v (shiftX p (keyN p i)).1]:=by
 obtain ⟨h1,_,_⟩:=BI7 hi
 have h2:(mEnts p)[i]=((keyN p i:Int),b2v (shiftX p (keyN p i)).1):=by
  simp only [mEnts,entsV,List.getElem_map,h1]
 rw [h2]
def orK (p:Pr) (x:List Nat):Nat:=x.foldl (fun s i=>s ||| 2 ^ keyN p i) 0
theorem Df0 (p:Pr) (x:List Nat) (i:Nat):orK p (x++[i])=orK p x ||| 2 ^ keyN p i:=by simp [orK,List.foldl_append]
theorem Dv1 {p:Pr} {j:Nat} {x:List Nat}:(orK p x).testBit j=decide (∃ i∈x,keyN p i=j):=by
 have key:∀ (x:List Nat) (s:Nat),(x.foldl (fun s i=>s ||| 2 ^ keyN p i) s).testBit j=(s.testBit j || decide (∃ i∈x,keyN p i=j)):=by
  intro x
  induction x with
  | nil=>intro s;simp
  | cons i x ih =>
    intro s;rw [List.foldl_cons,ih,Nat.testBit_or,Nat.testBit_two_pow]
    by_cases h:keyN p i=j
    · simp [h]
    · simp [h]
 have:=key x 0
 simpa [orK] using this
theorem Br3 {j:Nat}:∀ {l:List Int},(bitsOf l).testBit j=decide (∃ a∈l,a.toNat=j)
 | []=>by simp [bitsOf]
 | a::l=>by
   simp only [bitsOf,Nat.testBit_or,Br3 (l:=l),Nat.testBit_two_pow]
   by_cases h:a.toNat=j
   · simp [h]
   · simp [h]
theorem DM6 {p:Pr} {m:Nat}:∀ {x:List Nat},(∀ i∈x,keyN p i < m)→orK p x < 2 ^ m:=by
 intro x
 have key:∀ (x:List Nat) (s:Nat),s < 2 ^ m→(∀ i∈x,keyN p i < m)→x.foldl (fun s i=>s ||| 2 ^ keyN p i) s < 2 ^ m:=by
  intro x
  induction x with
  | nil=>intro s hs _;exact hs
  | cons i x ih =>
    intro s hs hl;exact ih _ (Lj hs (Ll (by decide) (hl i (by simp)))) (fun j hj=>hl j (List.mem_cons_of_mem _ hj))
 exact key x 0 (Li m)
theorem Dv2 {p:Pr} {x:List Nat} (h:∀ i,i < (mEnts p).length→i∈x) (hv:∀ i∈x,i < (mEnts p).length):orK p x=bitsOf (seenN p):=by
 apply Nat.eq_of_testBit_eq
 intro j;rw [Dv1,Br3]
 congr 1
 refine propext ⟨?_,?_⟩
 · rintro ⟨i,hi,rfl⟩
   obtain ⟨h1,h2,h3⟩:=BI7 (hv i hi);exact ⟨(keyN p i:Int),CE2.2 ⟨h2,h3⟩,by simp⟩
 · rintro ⟨a,ha,rfl⟩
   obtain ⟨e,he,rfl⟩:=List.mem_map.1 ha;obtain ⟨i,hi,rfl⟩:=List.getElem_of_mem he;have hi2:i < (mEnts p).length:=by rw [Bf9];exact hi
   exact ⟨i,h i hi2,by rw [(BI7 hi2).1];simp⟩
end Go.Pw1
namespace Go.Q
open Go Go.Eng Go.Pw1
theorem DL1 {p:Pr} (x:thO p) (h:0 < (seenN p).length):ownQ x.1=some ⟨ownK x.1,0,none⟩:=by
 obtain ⟨b,c,r,e,_⟩:=x.2.has h;rw [e];rfl
theorem CE1 (p:Pr):(seenN p).length≤p.things.length:=AT3 p _
theorem AU6 (c:Cd) (t:Tr) (ht:t.Ok c.cuts) (q:OA) (b o cap bc bm:Nat) (W:World) (h:CdAt c q b o cap bc bm W) :
  CC 202 #[mtV bc t] W (Pure (.tuple #[.I (hurtM c t).1,.I (hurtM c t).2]) W):=by
 have hv:=h.v;have hl:=h.pk.len;have hsl:=CE1 c.p;refine cS func202 ?_;refine st ?_;refine zn (Lm rfl) (fun b1=>?_)
 refine Xl (zF rfl DA8) (fun w hm=>BD4 c q b o cap bc bm w (h.mem hm)) (fun b8=>?_)
 refine su ?_;refine Ac8 ((seenN c.p).length) (fun k q=>(10,.I (k:Int))::q) (fun _=>_) (fun _=>[]) (fun k=>∀ j (h:j < k) (h2:j < (seenN c.p).length),whyM c t (seenN c.p)[j]=0) (fun j h=>absurd h (by omega)) rfl (zE 10 rfl rfl (zS 1 rfl (zS 8 rfl (zS 9 rfl (Sub.nil _))))) (qC (Pick.refl _)) ?_;intro k kN kI;refine st ?_;refine cn rfl ?_ ?_
 ·intro c0'
  have hk:k < (seenN c.p).length:=by omega
  obtain ⟨j,hi,hj,hw⟩:=Ba4 (List.getElem_mem hk);refine st ?_;refine lv (Aa3 rfl rfl Af6 (by omega) (by omega) (DL1 b8 (by omega))) ?_;refine lu (Aa5 rfl (fun w hm=>(DV2 b8 (fun b o h=>hm.at (.tail _ (h)))).loadM1 (by decide) (Mem.refl w) (by simp) Ae0 hk (v:=.I (j:Int)) (by rw [hi];rfl))) ?_;refine zc (zF rfl DA7) (fun w hm=>Cs3 c t ht j hj hw q b o cap bc bm w (h.mem hm.drop)) ?_;refine cn rfl ?_ ?_
  ·intro c1'
   refine su ?_;exact Aa9 (.r2 rfl (.tmp rfl) (.tmp rfl)) (by have e:=BJ8 (c:=c) (t:=t) hk (fun j2 h2=>kI j2 h2 (by omega)) (by rw [hi];exact c1');simp only [hurtM,e,hi])
  intro c1';refine st ?_;refine lA ?_;exact Ac2 (by omega) (fun j2 h2 h3=>by (rcases Lc j2 k with h4 | h4;exact kI j2 h4 h3;have e:j2=k:=(by omega);subst e;rw [hi];exact c1')) rfl (zE 10 rfl rfl (zS 1 rfl (zS 8 rfl (zS 9 rfl (Sub.nil _))))) (qC (Pick.refl _))
 intro c0';obtain rfl:k=(seenN c.p).length:=by omega
 refine Ls ?_;refine su ?_;refine Aa4 ?_;refine su ?_;exact Aa9 (.r2 rfl (.tmp rfl) (.tmp rfl)) (by have e:hurtF c t (seenN c.p)=(0,0):=BJ9 (fun i hi=>by (obtain ⟨j,hj,rfl⟩:=List.getElem_of_mem hi;exact kI j hj hj));simp only [hurtM,e])
theorem Bs0 (c:Cd) (q:OA) (b o cap:Nat) (W:World) (hS:Sl W q b o 9 (c.p.things.map Th.cells)) (hl:c.p.things.length≤100000000000) :
  CC 71 #[c.v q cap] W (Pure (.tuple #[.I (seenX c).1,.I (seenX c).2]) W):=by
 by_cases h0:openM c []=0
 · have hpk:=An0 (AU9 (CV5 c ▸ h0)).1
   have hl12:=hpk.len;refine cS func71 ?_;refine st ?_;refine zn (Lm rfl) (fun b1=>?_)
   refine Xj (zF rfl AH9) (fun w hm=>AE0 c [] h0 q b o cap none 0 0 0 w (hS.mono (by decide) hm (by simp)) hl Sl.emp (by simp)) (fun b8=>?_)
   refine st ?_;refine Ly rfl (fun h=>absurd h (by decide)) ?_;intro c0;clear c0;refine su ?_;refine zn (New.range rfl (fun w hm=>hm.at mm1) Az3) (fun b18=>?_)
   refine Af2 (X:=List Nat) (n0:=[(b8.1,_),(b8.2,_)]) ((mEnts c.p).length) (fun k x q=>(2,.I ((orK c.p x:Nat):Int))::q) (fun _ _=>_) (fun k x=>[(b18,itO b8.2 (mEnts c.p) x)]) (fun k x=>[]) (fun k x=>Vis (mEnts c.p).length k x) [] Vis.nil rfl (zE 2 rfl rfl (zS 18 rfl (Sub.nil _))) (qE (qC (Pick.skip (Pick.same rfl)))) ?_;intro k x kN kI;refine st ?_;refine RunL.next rfl (fun w hm=>hm.at mm2) (fun _=>.here) rfl (fun i19 hi19 hx19=>?_) (fun hx19=>?_)
   ·refine st ?_
    refine Ai9 rfl ?_;refine st ?_;refine Xa (Cw6 rfl (fun w hm=>hm.at mm0) (fun w hm=>hm.at mm2) hi19 (DO3 hi19)) ?_;refine vQ ?_;obtain ⟨y1,y2,y3⟩:=BI7 hi19;have y4:orK c.p x < 2 ^ 12:=DM6 (fun i hi=>by have:=(BI7 (kI.lt i hi)).2.1;omega);have y5:2 ^ keyN c.p i19≤2 ^ 12:=Lk (by omega) (by omega);have y6:2 ^ keyN c.p i19 < 2 ^ 12:=Ll (by omega) (by omega);have y7:=Lj y4 y6;refine st ?_;refine lv (Ap2 (b:=keyN c.p i19) rfl rfl (by show _≤64;omega) (Ak8 (n:=2 ^ keyN c.p i19) (by omega))) ?_;refine lv (Val.or (a:=orK c.p x) (b:=2 ^ keyN c.p i19) rfl rfl (by show _ < 18446744073709551616;omega) (by show _ < 18446744073709551616;omega) (Ak8 (by omega))) ?_;exact Ac3 (x++[i19]) (kI.more hi19 hx19) (kI.snoc hi19 hx19) rfl (zE 2 rfl (by rw [Df0]) (zS 18 rfl (Sub.nil _))) (qE (qC .nil))
   refine st ?_;refine Ae9 rfl ?_;refine Ls ?_;refine su ?_;refine Aa4 ?_;refine su ?_;exact Aa9 (.r2 rfl (.tmp rfl) (.tmp rfl)) (by simp [seenX,h0,Dv2 hx19 kI.lt])
 · refine cS func71 ?_
   refine st ?_;refine zn (Lm rfl) (fun b1=>?_)
   refine zc (zF rfl AH9) (fun w hm=>Ar4 c [] _ rfl h0 q b o cap none 0 0 0 w (hS.mono (by decide) hm (by simp)) hl Sl.emp (by simp)) ?_;refine Ly rfl ?_ (fun h=>absurd h (by simp [h0]))
   intro c0;clear c0;refine su ?_;exact Aa9 (.r2 rfl (.tmp rfl) (.tmp rfl)) (by simp [seenX,h0])
theorem CH2 {c:Cd} {l:List Tr} (h:openM c l=0):c.Ok∧c.p.Ok:=by
 obtain ⟨h1,h2,h3⟩:=AK0 h
 have hp:isPair c.p=true:=by
  cases hi:isPair c.p with
  | true=>rfl
  | false=>rw [Be4,hi] at h3;simp at h3
 exact ⟨(Ax2 h1).1,An0 hp⟩
theorem CH1 {c:Cd} {t:Tr} (h:openM c [t]=0):t.Ok c.cuts∧t.ll + t.lr=t.rl + t.rr:=by
 obtain ⟨h1,h2,h3⟩:=AK0 h;exact Bd1 (by simpa using h2)
theorem Cd6 (c:Cd) (t:Tr) (q:OA) (b o cap:Nat) (W:World) (hS:Sl W q b o 9 (c.p.things.map Th.cells)) (hl:c.p.things.length≤100000000000) :
  CC 136 #[c.v q cap,t.v] W (Pure (.tuple #[.I (hurtsX c t).1,.I (hurtsX c t).2.1,.I (hurtsX c t).2.2]) W):=by
 by_cases h0:openM c [t]=0
 · obtain ⟨hc,hpk⟩:=CH2 h0
   obtain ⟨ht,_⟩:=CH1 h0;refine cS func136 ?_;refine st ?_;refine zn (Lm rfl) (fun b2=>?_)
   refine zn (Lm rfl) (fun b3=>?_)
   refine zn (Lu (parts:=[(0,.tmp 10)]) rfl Bd9 An3 rfl rfl rfl rfl) (fun b11=>?_)
   refine Xj (zF rfl AH9) (fun w hm=>AE0 c [t] h0 q b o cap (some ⟨b11,0,none⟩) b11 0 1 w (hS.mono (by decide) hm (by simp)) hl (Lv (hm.at mm0) rfl) (by simp)) (fun b12=>?_)
   refine st ?_;refine Ly rfl (fun h=>absurd h (by decide)) ?_;intro c0;clear c0;refine su ?_;refine zc (zF rfl By5) (fun w hm=>Av3 _ _ _ _ w) ?_;refine lv (Lr (parts:=[(0,.tmp 19),(1,.tmp 21)]) rfl AZ8 AJ5 rfl) ?_;refine zc (zF rfl BY7) (fun w hm=>AU6 c t ht q b o cap b12.1 b12.2 w ⟨hm.at mm0,hm.at mm1,hS.mono (by decide) hm (by simp),hc,hpk⟩) ?_;refine cn rfl ?_ ?_
   ·intro c1'
    refine su ?_;exact Aa9 (.r3 rfl (.tmp rfl) (.tmp rfl) (.tmp rfl)) (by simp_all [hurtsX])
   intro c1';refine su ?_;exact Aa9 (.r3 rfl (.tmp rfl) (.tmp rfl) (.tmp rfl)) (by simp_all [hurtsX])
 · refine cS func136 ?_
   refine st ?_;refine zn (Lm rfl) (fun b2=>?_)
   refine zn (Lm rfl) (fun b3=>?_)
   refine zn (Lu (parts:=[(0,.tmp 10)]) rfl Bd9 An3 rfl rfl rfl rfl) (fun b11=>?_)
   refine zc (zF rfl AH9) (fun w hm=>Ar4 c [t] _ rfl h0 q b o cap (some ⟨b11,0,none⟩) b11 0 1 w (hS.mono (by decide) hm (by simp)) hl (Lv (hm.at mm0) rfl) (by simp)) ?_;refine Ly rfl ?_ (fun h=>absurd h (by simp [h0]))
   intro c0;clear c0;refine su ?_;exact Aa9 (.r3 rfl (.tmp rfl) (.tmp rfl) (.tmp rfl)) (by simp [hurtsX,h0])
end Go.Q
namespace Go.Pw1
open Go Go.Eng
end Go.Pw1
namespace Go.Q
open Go Go.Eng Go.Pw1
theorem Bf5 (a:Int×Int) (l:List (Int×Int)) (q:OA) (b o cap:Nat) (W:World) (hS:Sl W q b o 2 (l.map b2c)) (hl:l.length≤100) :
  CC 274 #[b2v a,.slice q l.length cap] W (Pure (b2v (narL a l)) W):=by
 refine cS func274 ?_;refine st ?_;refine zn (Lm rfl) (fun b2=>?_)
 refine zn (Lp Ai2) (fun b4=>?_)
 refine Ac8 (l.length) (fun k q=>(9,.I (k:Int))::q) (fun _=>_) (fun k=>[(b2,.cells (b2c (narL a (l.take k))).toArray 300)]) (fun _=>True) trivial rfl (zE 9 rfl rfl (zS 7 rfl (zS 8 rfl (zS 2 rfl (zS 4 rfl (Sub.nil _)))))) (qD (qC .nil)) ?_;intro k kN kI;clear kI;refine st ?_;refine cn rfl ?_ ?_
 ·intro c0'
  have hk:k < l.length:=by omega
  obtain ⟨x,hx⟩:∃ x,l[k]=x:=⟨_,rfl⟩;refine st ?_;refine lv (Aa3 rfl rfl CC9 (by omega) (by omega) (hS.ptrM hk)) ?_;refine lv (Aa5 rfl (fun w hm=>hS.loadX (by decide) hm (by simp) Bc6 hk hx)) ?_;refine zn (Lp Ai2) (fun b6=>?_)
  refine sQ .here ?_;refine su ?_;refine lu (Val.max rfl rfl) ?_;refine lv (Val.min rfl rfl) ?_;refine lv (Lr (parts:=[(0,.tmp 17),(1,.tmp 22)]) rfl Ai2 An9 rfl) ?_;refine sQ (.there .here) ?_;refine st ?_;refine lA ?_;exact Ac2 (by omega) trivial rfl (zE 9 rfl rfl (zS 7 rfl (zS 8 rfl (zS 2 rfl (zS 4 rfl (Sub.nil _)))))) (.cons (.there .here) (by rw [List.take_succ_eq_append_getElem hk,BG5,hx];rfl) (qD .nil))
 intro c0';obtain rfl:k=l.length:=by omega
 rw [List.take_length];refine Ls ?_;refine su ?_;refine Aa4 ?_;refine su ?_;refine sQ (.there .here) ?_;refine su ?_;exact Aa9 (.r1 rfl (.agg rfl mm1 Bc6 rfl)) (by first | rfl | simp)
theorem Co5 (c:Cd) (t:Tr) (ht:t.Ok c.cuts) (q:OA) (b o cap bc bm:Nat) (W:World) (h:CdAt c q b o cap bc bm W) :
  CC 257 #[mtV bc t] W (Pure (b2v (roomOf c t)) W):=by
 have hc:=h.ok;have hv:=h.v;have ab:=BB1 hc ht;have wb:=Bc2 hc ht;have k1:=hc.e1;have k2:=hc.e2;have k3:=hc.e3;have k4:=hc.p1;have k5:=hc.p2;have k6:=hc.q1;have k7:=hc.q2;have k8:=hc.f1;have k9:=hc.f2;have k10:=hc.d1;have k11:=hc.d2;refine cS func257 ?_;refine st ?_;refine zn (Lm rfl) (fun b1=>?_)
 refine zn (Lp Ai2) (fun b2=>?_)
 refine lv (Lr (parts:=[(0,.const (.I 0)),(1,.const (.I 2000))]) rfl Ai2 An9 rfl) ?_;refine Ab9 3 Ah8 (qE .nil) ?_;refine zw 0 ?_;refine zw 2 ?_;refine zA 1 ?_;refine Xd rfl (zF rfl BY4) (fun w hm=>AG2 c hc t ht q cap bc bm w (hm.old_at hv (by simp))) (Aa2 (qE .nil) (qE .nil) rfl ?_)
 refine zt ?_;refine zq 3 rfl (zF rfl BY3) (fun w hm=>AO4 c hc t ht q cap bc bm w (hm.old_at hv (by simp))) ?_;refine zp 4 ?_;refine zp 5 ?_;refine zd ?_;refine st ?_;refine Ab9 52 Ah8 (qE .nil) ?_;refine zw 0 ?_;refine zw 1 ?_;refine zw 2 ?_;refine zw 3 ?_;refine zw 4 ?_;refine zw 5 ?_;refine zw 6 ?_;refine zv 7 rfl (Aa0 rfl hv (by simp) Ae0 rfl) ?_;refine zv 8 rfl (Ad8 rfl rfl (Lq _ ⟨by omega,by omega⟩)) ?_;refine zw 9 ?_;refine zw 10 ?_;refine zw 11 ?_;refine zw 12 ?_;refine zw 13 ?_;refine zw 14 ?_;refine zv 15 rfl (Aa0 rfl hv (by simp) Ae0 rfl) ?_;refine zv 16 rfl (Kb rfl rfl (Lq _ ⟨by omega,by omega⟩)) ?_;refine zv 17 rfl (Lr (parts:=[(0,.tmp 20),(1,.tmp 28)]) rfl Ai2 An9 rfl) ?_;refine zw 18 ?_;refine zw 19 ?_;refine zw 20 ?_;refine zw 21 ?_;refine zw 22 ?_;refine zw 23 ?_;refine zw 24 ?_;refine zv 25 rfl (Aa0 rfl hv (by simp) Ae0 rfl) ?_;refine zv 26 rfl (Ad8 rfl rfl (Lq _ ⟨by omega,by omega⟩)) ?_;refine zw 27 ?_;refine zw 28 ?_;refine zw 29 ?_;refine zw 30 ?_;refine zw 31 ?_;refine zv 32 rfl (Aa0 rfl hv (by simp) Ae0 rfl) ?_;refine zv 33 rfl (Ad8 rfl rfl (Lq _ ⟨by omega,by omega⟩)) ?_;refine zw 34 ?_;refine zw 35 ?_;refine zw 36 ?_;refine zw 37 ?_;refine zw 38 ?_;refine zw 39 ?_;refine zw 40 ?_;refine zv 41 rfl (Aa0 rfl hv (by simp) Ae0 rfl) ?_;refine zv 42 rfl (Ad8 rfl rfl (Lq _ ⟨by omega,by omega⟩)) ?_;refine zw 43 ?_;refine zw 44 ?_;refine zw 45 ?_;refine zw 46 ?_;refine zw 47 ?_;refine zv 48 rfl (Aa0 rfl hv (by simp) Ae0 rfl) ?_;refine zv 49 rfl (Kb rfl rfl (Lq _ ⟨by omega,by omega⟩)) ?_;refine zv 50 rfl (Lr (parts:=[(0,.tmp 45),(1,.tmp 61)]) rfl Ai2 An9 rfl) ?_;refine zA 51 ?_;refine Xf rfl (Lu (parts:=[(0,.tmp 29),(1,.tmp 62)]) rfl CC9 Ai2 rfl rfl rfl rfl) (fun b63=>(Aa2 (qE (qC .nil)) (qD (qD .nil)) rfl ?_))
 refine zt ?_;refine zB 52 ?_;refine Xd rfl (Ab4 rfl rfl Dz8) (fun w hm=>Bf5 (0,2000) [(windowM c t - c.deep,windowM c t + c.front),(apartM c t - c.eyes.lo - c.prism,apartM c t - c.eyes.hi + c.squeeze)] (some ⟨b63,0,none⟩) b63 0 2 w (Sl.rows (hm.at mm0) (by simp [b2c])) (by simp)) (Ab2 ?_)
 refine zB 53 ?_;refine Xr rfl (Lt rfl rfl (.there .here) Bc6 rfl rfl) (Ab2 ?_)
 refine zd ?_;refine su ?_;exact Aa9 (.r1 rfl (.agg rfl mm1 Bc6 rfl)) (by first | rfl | simp)
theorem Bt1 (c:Cd) (t:Tr) (q:OA) (b o cap:Nat) (W:World) (hS:Sl W q b o 9 (c.p.things.map Th.cells)) (hl:c.p.things.length≤100000000000) :
  CC 205 #[c.v q cap,t.v] W (Pure (.tuple #[b2v (roomX c t).1,.I (roomX c t).2]) W):=by
 by_cases h0:openM c [t]=0
 · obtain ⟨hc,hpk⟩:=CH2 h0
   obtain ⟨ht,_⟩:=CH1 h0;refine cS func205 ?_;refine st ?_;refine zn (Lm rfl) (fun b2=>?_)
   refine zn (Lm rfl) (fun b3=>?_)
   refine zn (Lp Ad6) (fun b4=>?_)
   refine zn (Lu (parts:=[(0,.tmp 11)]) rfl Bd9 An3 rfl rfl rfl rfl) (fun b12=>?_)
   refine Xj (zF rfl AH9) (fun w hm=>AE0 c [t] h0 q b o cap (some ⟨b12,0,none⟩) b12 0 1 w (hS.mono (by decide) hm (by simp)) hl (Lv (hm.at mm0) rfl) (by simp)) (fun b13=>?_)
   refine st ?_;refine Ly rfl (fun h=>absurd h (by decide)) ?_;intro c0;clear c0;refine su ?_;refine zc (zF rfl By5) (fun w hm=>Av3 _ _ _ _ w) ?_;refine lv (Lr (parts:=[(0,.tmp 20),(1,.tmp 22)]) rfl AZ8 AJ5 rfl) ?_;refine zc (zF rfl DA4) (fun w hm=>Co5 c t ht q b o cap b13.1 b13.2 w ⟨hm.at mm0,hm.at mm1,hS.mono (by decide) hm (by simp),hc,hpk⟩) ?_;refine zn (Lp Ai2) (fun b8=>?_)
   refine sQ .here ?_;refine su ?_;refine zc (zF rfl CR6) (fun w hm=>AX2 (_,_) w) ?_;refine cn rfl ?_ ?_
   ·intro c1'
    have c1r:(roomOf c t).2 < (roomOf c t).1:=c1';refine st ?_;refine lv (Lr (parts:=[]) rfl Ad6 Ak3 rfl) ?_;refine sQ (.there (.there (.there (.there .here)))) ?_;refine su ?_;exact Aa9 (.r2 rfl (.agg rfl mm4 Ai6 rfl) (.tmp rfl)) (by rw [roomX,if_pos h0,if_pos c1r];rfl)
   intro c1';have c1r:¬ (roomOf c t).2 < (roomOf c t).1:=Int.not_lt.2 c1';refine su ?_;refine zc (zF rfl CR5) (fun w hm=>Bf3 (_,_) w) ?_;refine sQ (.there (.there (.there (.there .here)))) ?_;refine su ?_;exact Aa9 (.r2 rfl (.agg rfl mm4 Ai6 rfl) (.tmp rfl)) (by rw [roomX,if_pos h0,if_neg c1r];rfl)
 · refine cS func205 ?_
   refine st ?_;refine zn (Lm rfl) (fun b2=>?_)
   refine zn (Lm rfl) (fun b3=>?_)
   refine zn (Lp Ad6) (fun b4=>?_)
   refine zn (Lu (parts:=[(0,.tmp 11)]) rfl Bd9 An3 rfl rfl rfl rfl) (fun b12=>?_)
   refine zc (zF rfl AH9) (fun w hm=>Ar4 c [t] _ rfl h0 q b o cap (some ⟨b12,0,none⟩) b12 0 1 w (hS.mono (by decide) hm (by simp)) hl (Lv (hm.at mm0) rfl) (by simp)) ?_;refine Ly rfl ?_ (fun h=>absurd h (by simp [h0]))
   intro c0;clear c0;refine st ?_;refine lv (Lr (parts:=[]) rfl Ad6 Ak3 rfl) ?_;refine sQ (.there .here) ?_;refine su ?_;exact Aa9 (.r2 rfl (.agg rfl mm1 Ai6 rfl) (.tmp rfl)) (by simp [roomX,h0,b2v])
end Go.Q
namespace Go.Pw1
open Go Go.Eng
theorem Cj9 {a z z':Int} (ha:0≤a) (hz:0 < z) (h:z≤z'):a / z'≤a / z:=by
 have h1:a / z < a / z + 1:=by omega
 have h2:=(Int.ediv_lt_iff_lt_mul hz).1 h1;have h0:0≤a / z:=Int.ediv_nonneg ha (by omega);have h3:(a / z + 1) * z≤(a / z + 1) * z':=Int.mul_le_mul_of_nonneg_left h (by omega);have h4:=(Int.ediv_lt_iff_lt_mul (show 0 < z' by omega)).2 (Int.lt_of_lt_of_le h2 h3);omega
theorem Bd4 {p:Pr} (hp:isPair p=true) (hb:isB (allS p)=true) {z z':Int} (h1:p.near≤z) (h2:z≤z') (h3:z'≤p.far):(standsAt p z').1≤(standsAt p z).1∧(standsAt p z').2≤(standsAt p z).2:=by
 have hpk:=An0 hp;have n1:=hpk.n1;have w1:=DH8 hpk;have w2:(allS p).1≤(allS p).2:=by simpa [isB] using hb
 have hst:∀ z,p.near≤z→z≤p.far→standsAt p z=((allS p).1 / z,(allS p).2 / z):=fun z h2 h3=>by
  unfold standsAt;rw [BT4]
  have:within z p.near p.far=true:=by simp [within,h2,h3]
  simp [standsR,openR,hp,hb,this]
 rw [hst z h1 (by omega),hst z' (by omega) h3];exact ⟨Cj9 (by omega) (by omega) h2,Cj9 (by omega) (by omega) h2⟩
end Go.Pw1
namespace Go.Q
open Go Go.Eng Go.Pw1
theorem BD9 (f:Nat→Bool) (n:Nat) (hn:n≤4000000000) (hmono:∀ i j,i≤j→j < n→f i=true→f j=true) (fn:FuncId) (cp:LV) (he:Enters π fn) (W:World)
  (hf:∀ i,i < n→∀ w,Mem W [] [] w→CC fn ([Value.int .i64 (i:Int)]++cp).toArray w (Pure (.bool (f i)) w)) :
  CC 207 #[.I (n:Int),.func (.func fn) #[] cp.toArray] W (Pure (.I (leastN f n:Int)) W):=by
 refine cS func207 ?_;refine st ?_;refine Af2 (X:=Nat×Nat) (n0:=[]) (n) (fun k x q=>(5,.I (x.1:Int))::(6,.I (x.2:Int))::q) (fun _ _=>_) (fun k x=>[]) (fun k x=>[]) (fun k x=>(x.1≤x.2∧x.2≤n∧x.2 - x.1 + k≤n∧(∀ j,j < x.1→f j=false)∧∀ j,x.2≤j→j < n→f j=true)) (0,n) ⟨by simp,by simp,by simp,fun j h=>absurd h (by simp),fun j h h2=>absurd h2 (by simp at h;omega)⟩ rfl (zE 5 rfl rfl (zE 6 rfl rfl (zS 1 rfl (Sub.nil _)))) (Pick.same rfl) ?_;intro k x kN kI;obtain ⟨i1,i2,i3,i4,i5⟩:=kI;refine st ?_;refine cn rfl ?_ ?_
 ·intro c0'
  have hx:x.1 < x.2:=by omega
  have hm1:(x.1 + x.2) >>> 1=(x.1 + x.2) / 2:=Nat.shiftRight_eq_div_pow _ 1;refine st ?_;refine lv (Ah1 (a:=x.1) (b:=x.2) (x.1 + x.2) rfl rfl rfl (Ak8 (by omega))) ?_;refine lv (Al5 (p:=((x.1 + x.2:Nat):Int)) rfl BC9 Cz8 (u64_in (by omega))) ?_;refine lv (Aj9 (a:=x.1 + x.2) (b:=1) rfl rfl (by decide)) ?_;refine lv (Al5 (p:=(((x.1 + x.2) >>> 1:Nat):Int)) rfl Cz8 BC9 (Ak8 (by omega))) ?_;refine Xe (Ab4 rfl rfl he) (fun w hm=>hf _ (by omega) w hm.drop) ?_;refine st ?_;refine cn rfl ?_ ?_
  ·intro c1'
   refine st ?_;refine lA ?_;exact Ac3 ((x.1 + x.2) >>> 1 + 1,x.2) (by omega) ⟨by simp only;omega,by simp only;omega,by simp only;omega,fun j hj=>(by (cases hfj:f j;rfl;rw [hmono j _ (by simp only at hj;omega) (by omega) hfj] at c1';cases c1')),fun j h=>i5 j h⟩ rfl (zE 5 rfl rfl (zE 6 rfl rfl (zS 1 rfl (Sub.nil _)))) .nil
  intro c1';refine st ?_;exact Ac3 (x.1,(x.1 + x.2) >>> 1) (by omega) ⟨by simp only;omega,by simp only;omega,by simp only;omega,fun j hj=>i4 j hj,fun j h h2=>hmono _ _ h h2 c1'⟩ rfl (zE 5 rfl rfl (zE 6 rfl rfl (zS 1 rfl (Sub.nil _)))) .nil
 intro c0';have hx:x.1=x.2:=by omega
 refine Ls ?_;refine su ?_;refine Aa4 ?_;refine su ?_;exact Aa9 rZ (by rw [CK5 (m:=x.1) (by omega) i4 (fun h=>i5 _ (by omega) h)])
theorem Cv4 (s r:Int×Int) (b:Nat) (W:World) (hb:W.heap[b]? = some (.cells (b2c r).toArray 23)):CC 210 #[b2v s,.pointer (some ⟨b,0,none⟩)] W (Pure (.bool (decide (s.2≤r.2))) W):=by
 refine cS func210 ?_;refine st ?_;refine zn (Lm rfl) (fun b2=>?_)
 refine lu (Aa0 rfl hb (by simp) Ae0 rfl) ?_;exact rP
theorem Cv3 (s r:Int×Int) (b:Nat) (W:World) (hb:W.heap[b]? = some (.cells (b2c r).toArray 23)):CC 211 #[b2v s,.pointer (some ⟨b,0,none⟩)] W (Pure (.bool (decide (s.1 < r.1))) W):=by
 refine cS func211 ?_;refine st ?_;refine zn (Lm rfl) (fun b2=>?_)
 refine lu (Aa0 rfl hb (by simp) Ae0 rfl) ?_;exact rP
theorem Cv2 (g:Int×Int→Bool) (c:Cd) (q:OA) (b o cap:Nat) (i:Nat) (hp:c.p.Ok) (hi:c.p.near + i≤c.p.far) (fn:FuncId) (cp:LV) (he:Enters π fn) (b1 b2:Nat) (W:World) (hS:Sl W q b o 9 (c.p.things.map Th.cells))
  (h1:W.heap[b1]? = some (.cells (c.cells q cap).toArray 28)) (h2:W.heap[b2]? = some (.cells [.func (.func fn) #[] cp.toArray].toArray 329))
  (hf:∀ s w,Mem W [] [] w→CC fn ([b2v s]++cp).toArray w (Pure (.bool (g s)) w)) :
  CC 208 #[.I (i:Int),.pointer (some ⟨b1,0,none⟩),.pointer (some ⟨b2,0,none⟩)] W (Pure (.bool (g (standsAt c.p (c.p.near + i)))) W):=by
 have n1:=hp.n1;have n2:=hp.n2;have n3:=hp.n3;have hl:=hp.len;refine cS func208 ?_;refine su ?_;refine lu (Ag2 rfl h1 (by simp) Bc7 rfl) ?_;refine lv (Aa0 rfl h1 (by simp) Ae0 rfl) ?_;refine lA ?_;refine zc (zF rfl DC6) (fun w hm=>BP6 c.p _ q b o cap w (hS.mono (by decide) hm (by simp)) (by omega)) ?_;refine zn (Lp Ad6) (fun b5=>?_)
 refine sQ .here ?_;refine st ?_;refine lu (Aa0 rfl h2 (by simp) Dn2 rfl) ?_;refine Xe (Ab4 rfl rfl he) (fun w hm=>hf _ w hm.drop) ?_;refine su ?_;exact rP
theorem Bq8 (g:Int×Int→Bool) (c:Cd) (q:OA) (b o cap:Nat) (hp:c.p.Ok) (hmono:∀ i j:Nat,i≤j→c.p.near + j≤c.p.far→g (standsAt c.p (c.p.near + i))=true→g (standsAt c.p (c.p.near + j))=true) (fn:FuncId) (cp:LV) (he:Enters π fn) (b1:Nat) (W:World) (hS:Sl W q b o 9 (c.p.things.map Th.cells))
  (h1:W.heap[b1]? = some (.cells (c.cells q cap).toArray 28)) (hf:∀ s w,Mem W [] [] w→CC fn ([b2v s]++cp).toArray w (Pure (.bool (g s)) w)) :
  CC 206 #[.func (.func fn) #[] cp.toArray,.pointer (some ⟨b1,0,none⟩)] W (Pure (.I (c.p.near + leastN (fun i=>g (standsAt c.p (c.p.near + i))) (c.p.far - c.p.near + 1).toNat)) W):=by
 have n1:=hp.n1;have n2:=hp.n2;have n3:=hp.n3;have hl:=hp.len;have hle:=Ao9 (fun i=>g (standsAt c.p (c.p.near + i))) (c.p.far - c.p.near + 1).toNat;obtain ⟨N,hN⟩:∃ N:Nat,c.p.far - c.p.near + 1=N:=⟨(c.p.far - c.p.near + 1).toNat,by omega⟩;have hN2:(c.p.far - c.p.near + 1).toNat=N:=by omega
 rw [hN2] at hle ⊢;refine cS func206 ?_;refine st ?_;refine zn (Lm rfl) (fun b2=>?_)
 refine Ab9 13 Ah8 (qC .nil) ?_;refine zw 0 ?_;refine zw 1 ?_;refine zv 2 rfl (Aa0 rfl h1 (by simp) Ae0 rfl) ?_;refine zw 3 ?_;refine zw 4 ?_;refine zv 5 rfl (Aa0 rfl h1 (by simp) Ae0 rfl) ?_;refine zw 6 ?_;refine zw 7 ?_;refine zv 8 rfl (Aa0 rfl h1 (by simp) Ae0 rfl) ?_;refine zv 9 rfl (Ad8 rfl rfl (Lq _ ⟨by omega,by omega⟩)) ?_;refine zv 10 rfl (Kb rfl rfl (Lq _ ⟨by omega,by omega⟩)) ?_;simp only [hN];refine zw 11 ?_;refine zA 12 ?_;refine Xd rfl (zF rfl DC8) (fun w hm=>BD9 (fun i=>g (standsAt c.p (c.p.near + i))) N (by omega) (fun i j h1 h2 h3=>hmono i j h1 (by omega) h3) 208 [_,_] DC7 w (fun i hi w2 hm2=>Cv2 g c q b o cap i hp (by omega) fn cp he _ _ w2 ((hS.mono (by decide) hm (by simp)).mono (by decide) hm2 (by simp)) (hm2.old_at (hm.old_at h1 (by simp)) (by simp)) (hm2.old_at (hm.at mm0) (by simp)) (fun s w3 hm3=>hf s w3 ((hm.drop.pass hm2).pass hm3)))) (Aa2 (qC .nil) (qC .nil) rfl ?_)
 refine zt ?_;refine zo 13 rfl (Kb rfl rfl (Lq _ ⟨by omega,by omega⟩)) ?_;refine zp 14 ?_;refine zd ?_;refine su ?_;exact rP
theorem AI9 (c:Cd) (t:Tr) (q:OA) (b o cap:Nat) (W:World) (hS:Sl W q b o 9 (c.p.things.map Th.cells)) (hl:c.p.things.length≤100000000000) :
  CC 140 #[c.v q cap,t.v] W (Pure (.tuple #[b2v (depthsX c t).1,.I (depthsX c t).2]) W):=by
 by_cases h0:(roomX c t).2=0
 · have h00:checkR c (trR c t)=0:=by
    have h:=h0;rw [CE9] at h;unfold roomR at h
    split at h
    · assumption
    · exact h
   obtain ⟨hp,hbb,hc,_⟩:=AU9 h00;have hpk:=An0 hp;have n1:=hpk.n1;have n2:=hpk.n2;have n3:=hpk.n3;obtain ⟨r,hr⟩:∃ r,(roomX c t).1=r:=⟨_,rfl⟩;have hle1:=Ao9 (fun i=>decide ((standsAt c.p (c.p.near + i)).2≤r.2)) (c.p.far - c.p.near + 1).toNat;have hle2:=Ao9 (fun i=>decide ((standsAt c.p (c.p.near + i)).1 < r.1)) (c.p.far - c.p.near + 1).toNat;refine cS func140 ?_;refine st ?_;refine zn (Lm rfl) (fun b2=>?_)
   refine zn (Lm rfl) (fun b3=>?_)
   refine zn (Lp Ad6) (fun b4=>?_)
   refine zc (zF rfl CR8) (fun w hm=>Bt1 c t q b o cap w (hS.mono (by decide) hm (by simp)) hl) ?_;refine zn (Lp Ad6) (fun b6=>?_)
   refine sQ .here ?_;refine st ?_;refine Ly rfl (fun h=>absurd h (by simp [h0])) ?_;intro c0;clear c0;refine st ?_;refine Xe (Ab4 rfl rfl CR7) (fun w hm=>Bq8 (fun s=>decide (s.2≤r.2)) c q b o cap hpk (fun i j g1 g2 g3=>by (have g4:=Bd4 hp hbb (z:=c.p.near + i) (z':=c.p.near + j) (by omega) (by omega) g2;simp only [decide_eq_true_eq] at g3 ⊢;omega)) 210 [_] DC5 _ w (hS.mono (by decide) hm (by simp)) (hm.at mm3) (fun s w2 hm2=>Cv4 s r _ w2 (by rw [← hr];exact hm2.old_at (hm.at mm0) (by simp)))) ?_;refine st ?_;refine Xe (Ab4 rfl rfl CR7) (fun w hm=>Bq8 (fun s=>decide (s.1 < r.1)) c q b o cap hpk (fun i j g1 g2 g3=>by (have g4:=Bd4 hp hbb (z:=c.p.near + i) (z':=c.p.near + j) (by omega) (by omega) g2;simp only [decide_eq_true_eq] at g3 ⊢;omega)) 211 [_] DC4 _ w (hS.mono (by decide) hm (by simp)) (hm.at mm3) (fun s w2 hm2=>Cv3 s r _ w2 (by rw [← hr];exact hm2.old_at (hm.at mm0) (by simp)))) ?_;refine lv (Ad8 rfl rfl (Lq _ ⟨by omega,by omega⟩)) ?_;refine lv (Lr (parts:=[(0,.tmp 23),(1,.tmp 27)]) rfl Ai2 An9 rfl) ?_;refine zn (Lp Ai2) (fun b9=>?_)
   refine sQ .here ?_;refine su ?_;refine zc (zF rfl CR6) (fun w hm=>AX2 (_,_) w) ?_;refine cn rfl ?_ ?_
   ·intro c1'
    have c1r:(depthsOf c (roomX c t).1).2 < (depthsOf c (roomX c t).1).1:=by rw [hr];exact c1'
    refine st ?_;refine lv (Lr (parts:=[]) rfl Ad6 Ak3 rfl) ?_;refine sQ (.there (.there .here)) ?_;refine su ?_;exact Aa9 (.r2 rfl (.agg rfl mm2 Ai6 rfl) (.tmp rfl)) (by rw [depthsX,if_pos h0,if_pos c1r];rfl)
   intro c1';have c1r:¬ (depthsOf c (roomX c t).1).2 < (depthsOf c (roomX c t).1).1:=by rw [hr];exact Int.not_lt.2 c1'
   refine su ?_;refine zc (zF rfl CR5) (fun w hm=>Bf3 (_,_) w) ?_;refine sQ (.there (.there .here)) ?_;refine su ?_;exact Aa9 (.r2 rfl (.agg rfl mm2 Ai6 rfl) (.tmp rfl)) (by rw [depthsX,if_pos h0,if_neg c1r,hr];rfl)
 · refine cS func140 ?_
   refine st ?_;refine zn (Lm rfl) (fun b2=>?_)
   refine zn (Lm rfl) (fun b3=>?_)
   refine zn (Lp Ad6) (fun b4=>?_)
   refine zc (zF rfl CR8) (fun w hm=>Bt1 c t q b o cap w (hS.mono (by decide) hm (by simp)) hl) ?_;refine zn (Lp Ad6) (fun b6=>?_)
   refine sQ .here ?_;refine st ?_;refine Ly rfl ?_ (fun h=>absurd h (by simp [h0]))
   intro c0;clear c0;refine st ?_;refine lv (Lr (parts:=[]) rfl Ad6 Ak3 rfl) ?_;refine sQ (.there .here) ?_;refine su ?_;exact Aa9 (.r2 rfl (.agg rfl mm1 Ai6 rfl) (.tmp rfl)) (by simp [depthsX,h0,b2v])
end Go.Q
namespace Go.Pw1
open Go Go.Eng
def cmpL:List Int→List Int→Int
 | x::l,y::m=>if x < y then -1 else if y < x then 1 else cmpL l m
 | [],_::_=>-1
 | _::_,[]=>1
 | [],[]=>0
theorem Ck1:∀ {l m:List Int} {k:Nat} (hk:k < l.length) (hm:k < m.length),(∀ j (h:j < k) (h1:j < l.length) (h2:j < m.length),l[j]=m[j])→cmpL l m=if l[k] < m[k] then -1 else if m[k] < l[k] then 1 else cmpL (l.drop (k + 1)) (m.drop (k + 1))
 | x::l,y::m,0,_,_,_=>by simp [cmpL]
 | x::l,y::m,k + 1,hk,hm,h=>by
   have h0:=h 0 (by omega) (by simp) (by simp);simp only [List.getElem_cons_zero] at h0;subst h0;have h1:=Ck1 (l:=l) (m:=m) (k:=k) (by simpa using hk) (by simpa using hm) (fun j hj h1 h2=>h (j + 1) (by omega) (by simp;omega) (by simp;omega));simp only [cmpL,Int.lt_irrefl,if_false,List.getElem_cons_succ,List.drop_succ_cons];exact h1
theorem BM8:∀ {l m:List Int},l.length=m.length→(∀ j (h1:j < l.length) (h2:j < m.length),l[j]=m[j])→cmpL l m=0
 | [],[],_,_=>rfl
 | x::l,y::m,hl,h=>by
   have h0:=h 0 (by simp) (by simp);simp only [List.getElem_cons_zero] at h0;subst h0;simp only [cmpL,Int.lt_irrefl,if_false];exact BM8 (by simpa using hl) (fun j h1 h2=>h (j + 1) (by simp;omega) (by simp;omega))
theorem Ck0 (a b:Tr):(cmpL [a.ll,a.lr,a.rl,a.rr] [b.ll,b.lr,b.rl,b.rr] < 0) ↔ lexT a b:=by
 simp only [cmpL,lexT]
 by_cases h1:a.ll < b.ll
 · simp [h1]
 · by_cases h2:b.ll < a.ll
   · simp [h1,h2];omega
   · by_cases h3:a.lr < b.lr
     · simp [h1,h2,h3];omega
     · by_cases h4:b.lr < a.lr
       · simp [h1,h2,h3,h4];omega
       · by_cases h5:a.rl < b.rl
         · simp [h1,h2,h3,h4,h5];omega
         · by_cases h6:b.rl < a.rl
           · simp [h1,h2,h3,h4,h5,h6];omega
           · by_cases h7:a.rr < b.rr
             · simp [h1,h2,h3,h4,h5,h6,h7];omega
             · by_cases h8:b.rr < a.rr
               · simp [h1,h2,h3,h4,h5,h6,h7,h8]
               · simp [h1,h2,h3,h4,h5,h6,h7,h8]
abbrev TrS (c:Cd):={ t:Tr // trIs c t=true }
def subL (c:Cd) (l:List Tr):List (TrS c):=l.filterMap fun t=>if h:trIs c t=true then some ⟨t,h⟩ else none
theorem AD4 (c:Cd) (l m:List Tr):subL c (l++m)=subL c l++subL c m:=by simp [subL,List.filterMap_append]
theorem Bv0 {c:Cd} {t:Tr} (h:trIs c t=true):subL c [t]=[⟨t,h⟩]:=by simp [subL,h]
theorem Bu9 {c:Cd}:∀ {l:List Tr},(∀ t∈l,trIs c t=true)→(subL c l).map (·.1)=l
 | [],_=>rfl
 | t::l,h=>by
   have h1:=h t (by simp);rw [show t::l=[t]++l from rfl,AD4,Bv0 h1,List.map_append,Bu9 (fun u hu=>h u (List.mem_cons_of_mem _ hu))];rfl
def bstep (c:Cd) (o:Option Tr) (x:Tr):Option Tr:=match o with
 | none=>if fitT c x then some x else none
 | some u=>if befT u x then some u else if fitT c x then some x else some u
def bfold (c:Cd) (l:List Tr):Option Tr:=l.foldl (bstep c) none
theorem Cw0 (c:Cd) (l:List Tr) (x:Tr):bfold c (l++[x])=bstep c (bfold c l) x:=by simp [bfold,List.foldl_append]
theorem Br4 {c:Cd} {u:Tr}:∀ {l:List Tr},(∀ x∈l,befT u x)→l.foldl (bstep c) (some u)=some u
 | [],_=>rfl
 | x::l,h=>by
   simp only [List.foldl_cons,bstep];rw [if_pos (h x (by simp))];exact Br4 fun y hy=>h y (List.mem_cons_of_mem _ hy)
theorem AV4 {c:Cd}:∀ {l:List Tr},l.Pairwise befT→bfold c l=l.find? (fitT c)
 | [],_=>rfl
 | x::l,h=>by
   cases h with
   | cons hx hl =>
     unfold bfold;simp only [List.foldl_cons,bstep,List.find?_cons]
     cases hf:fitT c x with
     | true=>simp only [if_true];exact Br4 hx
     | false=>simp only [Bool.false_eq_true,if_false];exact AV4 hl
def bO (c:Cd) (pre:List (TrS c)):Option Tr:=bfold c (pre.map (·.1))
theorem Cb4 (c:Cd) (pre:List (TrS c)) (x:TrS c):bO c (pre++[x])=bstep c (bO c pre) x.1:=by simp [bO,Cw0]
theorem DT9 {c:Cd} (hc:c.Ok):bO c (subL c (trimsM c))=bestM c:=by
 unfold bO;rw [Bu9 (fun t ht=>(AB8 hc).1 ht)];exact AV4 (Bu6 c)
theorem DH3 {c:Cd} (hc:c.Ok) {pre rest:List (TrS c)} (h:pre++rest=subL c (trimsM c)) {u:Tr} (hu:bO c pre=some u):bestM c=some u:=by
 have h1:pre.map (·.1)++rest.map (·.1)=trimsM c:=by rw [← List.map_append,h,Bu9 (fun t ht=>(AB8 hc).1 ht)]
 have h2:=Bu6 c;rw [← h1] at h2;have h3:(pre.map (·.1)).find? (fitT c)=some u:=by rw [← AV4 (List.pairwise_append.1 h2).1];exact hu
 unfold bestM;rw [← h1,List.find?_append,h3];rfl
def tz:Tr:=⟨0,0,0,0⟩
theorem AE4 (lo:Int) {k:Nat}:∀ {N:Nat},k < N→∃ r,fromZ lo N=fromZ lo k++(lo + k)::r
 | N + 1,h=>by
   rcases Lc k N with h1 | h1
   · obtain ⟨r,hr⟩:=AE4 lo h1
     exact ⟨r++[lo + N],by simp [fromZ,hr]⟩
   · obtain rfl:k=N:=by omega
     exact ⟨[],rfl⟩
theorem BS8 {c:Cd} {k m n:Nat} (hk:k < (2 * c.cuts + 1).toNat) (hm:m < oneN c k) (hn:n < oneN c k) :
  ∃ rest,(trO c (fromZ 0 k)++trA c k (fromZ (oneLo c k) m)++trD k (oneLo c k + m) (fromZ (oneLo c k) n))++([⟨oneLo c k + m,k - (oneLo c k + m),oneLo c k + n,k - (oneLo c k + n)⟩]++rest)=trimsM c:=by
 obtain ⟨r1,h1⟩:=AE4 0 hk;obtain ⟨r2,h2⟩:=AE4 (oneLo c k) hm;obtain ⟨r3,h3⟩:=AE4 (oneLo c k) hn;have e3:trD k (oneLo c k + m) (fromZ (oneLo c k) (oneN c k))=trD k (oneLo c k + m) (fromZ (oneLo c k) n)++([⟨oneLo c k + m,k - (oneLo c k + m),oneLo c k + n,k - (oneLo c k + n)⟩]++trD k (oneLo c k + m) r3):=by rw [h3];simp [trD]
 have e2:trA c k (fromZ (oneLo c k) (oneN c k))=trA c k (fromZ (oneLo c k) m)++(trD k (oneLo c k + m) (fromZ (oneLo c k) (oneN c k))++trA c k r2):=by rw [h2];simp [trA];rw [← h2]
 have e1:trimsM c=trO c (fromZ 0 k)++(trA c k (fromZ (oneLo c k) (oneN c k))++trO c r1):=by unfold trimsM;rw [h1];simp [trO]
 rw [e1,e2,e3];exact ⟨trD k (oneLo c k + m) r3++trA c k r2++trO c r1,by simp [List.append_assoc]⟩
theorem Dv4 {c:Cd} (hc:c.Ok) (one:Int):oneN c one≤41:=by
 have:=hc.c1
 have:=hc.c2
 unfold oneN oneHi oneLo;omega
theorem Dt4 (one a:Int) (l:List Int):(trD one a l).length=l.length:=by simp [trD]
theorem CB3 (c:Cd) (one:Int):∀ l:List Int,(trA c one l).length=l.length * oneN c one
 | []=>by simp [trA]
 | a::l=>by
   have h:=CB3 c one l;have e:trA c one (a::l)=trD one a (fromZ (oneLo c one) (oneN c one))++trA c one l:=by simp [trA]
   rw [e,List.length_append,h,Dt4,AR0,List.length_cons,Nat.add_mul];omega
theorem CB2 {c:Cd} (hc:c.Ok):∀ l:List Int,(trO c l).length≤l.length * 1681
 | []=>by simp [trO]
 | a::l=>by
   have h:=CB2 hc l;have e:trO c (a::l)=trA c a (fromZ (oneLo c a) (oneN c a))++trO c l:=by simp [trO]
   have h2:=Dv4 hc a;have h3:oneN c a * oneN c a≤41 * 41:=Nat.mul_le_mul h2 h2;rw [e,List.length_append,CB3,AR0,List.length_cons,Nat.add_mul];omega
theorem Dc8 (c:Cd) (l:List Tr):(subL c l).length≤l.length:=List.length_filterMap_le _ _
theorem CA9 {c:Cd} (hc:c.Ok):(trimsM c).length≤140000:=by
 have h:=CB2 hc (fromZ 0 (2 * c.cuts + 1).toNat);rw [AR0] at h
 have:=hc.c2
 have h2:(2 * c.cuts + 1).toNat≤81:=by omega
 have h3:=Nat.mul_le_mul_right 1681 h2;unfold trimsM;omega
end Go.Pw1
namespace Go.Q
open Go Go.Eng Go.Pw1
theorem Bg3 (x:Int) (W:World):CC 286 #[.I x] W (Pure (.bool false) W):=by
 refine cS func286 ?_;refine su ?_;exact Aa9 rZ (by simp)
theorem Bz6 (x y:Int) (W:World):CC 284 #[.I x,.I y] W (Pure (.I (if x < y then -1 else if y < x then 1 else 0)) W):=by
 refine cS func284 ?_;refine st ?_;refine zc (zF rfl CQ2) (fun w hm=>Bg3 _ w) ?_;refine zc (zF rfl CQ2) (fun w hm=>Bg3 _ w) ?_;refine Ly rfl (fun h=>absurd h (by decide)) ?_;intro c0;clear c0;refine st ?_;refine Ly rfl (fun h=>absurd h (by decide)) ?_;intro c2;clear c2;refine st ?_;refine cn rfl ?_ ?_
 ·intro c3'
  refine su ?_;exact Aa9 rZ (by first | (simp [*];done) | (rw [if_neg (by omega),if_pos (by omega)]) | (rw [if_neg (by omega),if_neg (by omega)]))
 intro c3';refine st ?_;refine cn rfl ?_ ?_
 ·intro c4'
  refine su ?_;exact Aa9 rZ (by first | (simp [*];done) | (rw [if_neg (by omega),if_pos (by omega)]) | (rw [if_neg (by omega),if_neg (by omega)]))
 intro c4';refine su ?_;exact Aa9 rZ (by first | (simp [*];done) | (rw [if_neg (by omega),if_pos (by omega)]) | (rw [if_neg (by omega),if_neg (by omega)]))
theorem Cv7 (l m:List Int) (hlm:l.length=m.length) (hl:l.length≤1000) (q:OA) (b o cap:Nat) (q2:OA) (b2 o2 cap2:Nat) (W:World) (hS:Sl W q b o 1 (l.map fun n=>[.I n])) (hS2:Sl W q2 b2 o2 1 (m.map fun n=>[.I n])) :
  CC 273 #[.slice q l.length cap,.slice q2 m.length cap2] W (Pure (.I (cmpL l m)) W):=by
 refine cS func273 ?_;refine su ?_;refine Ac8 (l.length) (fun k q=>(11,.I (k:Int))::q) (fun _=>_) (fun _=>[]) (fun k=>∀ j (h:j < k) (h1:j < l.length) (h2:j < m.length),l[j]=m[j]) (fun j h=>absurd h (by omega)) rfl (zE 11 rfl rfl (zS 0 rfl (zS 1 rfl (zS 9 rfl (zS 10 rfl (Sub.nil _)))))) .nil ?_;intro k kN kI;refine st ?_;refine cn rfl ?_ ?_
 ·intro c0'
  have hk:k < l.length:=by omega
  have hk2:k < m.length:=by omega
  refine st ?_;refine lv (Aa3 rfl rfl Af6 (by omega) (by omega) (hS.ptrM hk)) ?_;refine lu (Aa5 rfl (fun w hm=>hS.loadM1 (by decide) hm (by simp) Ae0 hk (v:=.I l[k]) rfl)) ?_;refine Ly rfl (fun h=>absurd h (by simp;omega)) ?_;intro c1;clear c1;refine st ?_;refine lv (Aa3 rfl rfl Af6 (by omega) (by omega) (hS2.ptrM hk2)) ?_;refine lv (Aa5 rfl (fun w hm=>hS2.loadM1 (by decide) hm (by simp) Ae0 hk2 (v:=.I m[k]) rfl)) ?_;refine zc (zF rfl Dz5) (fun w hm=>Bz6 _ _ w) ?_;refine cn rfl ?_ ?_
  ·intro c2'
   have hne:l[k] ≠ m[k]:=fun e=>by (rw [e] at c2';simp at c2')
   refine su ?_;exact Aa9 rZ (by rw [Ck1 hk hk2 kI];rcases Int.lt_or_gt_of_ne hne with h | h;simp [h];have h5:¬ l[k] < m[k]:=(by omega);simp [h,h5])
  intro c2';have heq:l[k]=m[k]:=by (rcases Int.lt_trichotomy l[k] m[k] with h | h | h;simp [h] at c2';exact h;have h5:¬ l[k] < m[k]:=(by omega);simp [h,h5] at c2')
  refine st ?_;refine lA ?_;exact Ac2 (by omega) (fun j h h1 h2=>by (rcases Lc j k with h4 | h4;exact kI j h4 h1 h2;have e:j=k:=(by omega);subst e;exact heq)) rfl (zE 11 rfl rfl (zS 0 rfl (zS 1 rfl (zS 9 rfl (zS 10 rfl (Sub.nil _)))))) .nil
 intro c0';obtain rfl:k=l.length:=by omega
 refine Ls ?_;refine su ?_;refine Aa4 ?_;refine su ?_;refine Ly rfl (fun h=>absurd h (by simp;omega)) ?_;intro c3;clear c3;refine su ?_;exact Aa9 rZ (by rw [BM8 hlm (fun j h1 h2=>kI j h1 h1 h2)])
theorem Sl.row1At {w:World} {b:Nat} {T:TypeId} {pre cs:LV} {fr:Nat×Nat} (h:w.heap[b]? = some (.cells (pre++cs).toArray T fr)):Sl w (some ⟨b,pre.length,none⟩) b pre.length 1 (cs.map fun v=>[v]) :=
 ⟨fun _=>rfl,by simp,fun i hi j hj=>by
  obtain rfl:j=0:=by omega
  have hi':i < cs.length:=by simpa using hi
  rw [Ae1 h,show pre.length + i * 1 + 0=pre.length + i by omega,List.getElem?_append_right (by omega)];simp [hi']⟩
theorem Ck4 {a b:Tr} (h:sumT a < sumT b):decide (befT a b)=true:=decide_eq_true (.inl h)
theorem Ck6 {a b:Tr} (h:sumT a=sumT b):decide (befT a b)=decide (cmpL [a.ll,a.lr,a.rl,a.rr] [b.ll,b.lr,b.rl,b.rr] < 0):=by
 refine decide_eq_decide.2 ?_;rw [Ck0];exact ⟨fun g=>Or.elim (show sumT a < sumT b∨(sumT a=sumT b∧lexT a b) from g) (fun g=>by omega) (·.2),fun g=>Or.inr ⟨h,g⟩⟩
theorem Ck5 {a b:Tr} (h:sumT b≤sumT a) (h2:¬ sumT a=sumT b):decide (befT a b)=false:=decide_eq_false (fun g=>g.elim (fun g=>by omega) (fun g=>h2 g.1))
theorem Bb8 {a b:Tr} (h:sumT a=sumT b∧(a.ll=b.ll∧a.lr=b.lr∧a.rl=b.rl∧a.rr=b.rr∧True)∧True):decide (befT a b)=false:=decide_eq_false (fun g=>by unfold befT lexT at g;omega)
def ordV (a:Tr):Value:=.agg #[.I (sumT a),.I a.ll,.I a.lr,.I a.rl,.I a.rr]
theorem Bw1 (a b:Tr) (W:World):CC 256 #[ordV a,ordV b] W (Pure (.bool (decide (befT a b))) W):=by
 have hlex:=Ck0 a b;refine cS func256 ?_;refine st ?_;refine zn (Lm rfl) (fun b2=>?_)
 refine zn (Lm rfl) (fun b3=>?_)
 refine Am2 (X:=Unit) 20 (n0:=[(b3,_),(b2,_)]) (fun x q=>(4,.bool (decide (befT a b)))::q) (fun x=>[]) (fun x=>[]) (fun x=>[]) (fun x=>True) Ah8 (qE .nil) (zS 2 rfl (zS 3 rfl (Sub.nil _))) (qE .nil) ?_ ?_
 ·refine zw 0 ?_
  refine zw 1 ?_;refine zv 2 rfl (BO9 rfl rfl Dy0 (DN7 _ _ _ _ _ _ _ _ _ _ )) ?_;refine zw 3 ?_;refine Ap5 (dj:=8) rfl ?_ ?_
  ·intro g8
   have g8':=g8;clear g8;try simp only [nH] at g8'
   refine zw 4 ?_;refine zw 5 ?_;refine zw 6 ?_;refine zw 7 ?_;refine zw 8 ?_;refine zw 9 ?_;refine Ap5 (dj:=14) rfl ?_ ?_
   ·intro g14
    have g14':=g14;clear g14;try simp only [nH] at g14'
    refine zN 10 ?_;refine zN 11 ?_;refine zN 12 ?_;refine zN 13 ?_;refine zN 14 ?_;refine zN 15 ?_;refine zN 16 ?_;refine zN 17 ?_;refine zN 18 ?_;refine zN 19 ?_;refine zt ?_;refine zB 20 ?_;refine Xx rfl (Ab2 ?_)
    refine zB 21 ?_;refine Xx rfl (Ab2 ?_)
    refine zB 22 ?_;refine Xx rfl (Ab2 ?_)
    refine zp 23 ?_;refine zp 24 ?_;refine zp 25 ?_;refine zd ?_;exact Af4 () trivial rfl (zE 4 rfl (by first | rw [Ck4 g14'] | rw [Ck6 g20'] | rw [Ck5 g14' g20'] | rw [Bb8 g8']) (zS 2 rfl (zS 3 rfl (Sub.nil _)))) (qE .nil)
   intro g14;have g14':=g14;clear g14;try simp only [nH] at g14'
   refine zw 10 ?_;refine zw 11 ?_;refine zw 12 ?_;refine zw 13 ?_;refine zw 14 ?_;refine zw 15 ?_;refine Ap5 (dj:=20) rfl ?_ ?_
   ·intro g20
    have g20':=g20;clear g20;try simp only [nH] at g20'
    refine zw 16 ?_;refine zv 17 rfl (At1 rfl Ah3) ?_;refine zw 18 ?_;refine zv 19 rfl (At1 rfl Ah3) ?_;refine zt ?_;refine zq 20 rfl (zF rfl Dz9) (fun w hm=>Cv7 [a.ll,a.lr,a.rl,a.rr] [b.ll,b.lr,b.rl,b.rr] rfl (by simp) (some ⟨b2,1,none⟩) b2 1 4 (some ⟨b3,1,none⟩) b3 1 4 w (Sl.row1At (pre:=[_]) (hm.at mm1)) (Sl.row1At (pre:=[_]) (hm.at mm0))) ?_;refine zp 21 ?_;refine zp 22 ?_;refine zp 23 ?_;refine zp 24 ?_;refine zp 25 ?_;refine zd ?_;exact Af4 () trivial rfl (zE 4 rfl (by first | rw [Ck4 g14'] | rw [Ck6 g20'] | rw [Ck5 g14' g20'] | rw [Bb8 g8']) (zS 2 rfl (zS 3 rfl (Sub.nil _)))) (qE .nil)
   intro g20;have g20':=g20;clear g20;try simp only [nH] at g20'
   refine zN 16 ?_;refine zN 17 ?_;refine zN 18 ?_;refine zN 19 ?_;refine zt ?_;refine zB 20 ?_;refine Xx rfl (Ab2 ?_)
   refine zB 21 ?_;refine Xx rfl (Ab2 ?_)
   refine zp 22 ?_;refine zp 23 ?_;refine zp 24 ?_;refine zp 25 ?_;refine zd ?_;exact Af4 () trivial rfl (zE 4 rfl (by first | rw [Ck4 g14'] | rw [Ck6 g20'] | rw [Ck5 g14' g20'] | rw [Bb8 g8']) (zS 2 rfl (zS 3 rfl (Sub.nil _)))) (qE .nil)
  intro g8;have g8':=g8;clear g8;try simp only [nH] at g8'
  refine zN 4 ?_;refine zN 5 ?_;refine zN 6 ?_;refine zN 7 ?_;refine zN 8 ?_;refine zN 9 ?_;refine zN 10 ?_;refine zN 11 ?_;refine zN 12 ?_;refine zN 13 ?_;refine zN 14 ?_;refine zN 15 ?_;refine zN 16 ?_;refine zN 17 ?_;refine zN 18 ?_;refine zN 19 ?_;refine zt ?_;refine zB 20 ?_;refine Xx rfl (Ab2 ?_)
  refine zB 21 ?_;refine Xx rfl (Ab2 ?_)
  refine zB 22 ?_;refine Xx rfl (Ab2 ?_)
  refine zB 23 ?_;refine Xx rfl (Ab2 ?_)
  refine zp 24 ?_;refine zp 25 ?_;refine zd ?_;exact Af4 () trivial rfl (zE 4 rfl (by first | rw [Ck4 g14'] | rw [Ck6 g20'] | rw [Ck5 g14' g20'] | rw [Bb8 g8']) (zS 2 rfl (zS 3 rfl (Sub.nil _)))) (qE .nil)
 intro x xI;refine su ?_;exact rP
structure TrY (c:Cd) (q:OA) (cap bc bm b1:Nat) (W:World):Prop where
 v:W.heap[bc]? = some (cdO c q cap bm)
 x:W.heap[b1]? = some (.cells [.pointer (some ⟨bc,0,none⟩)].toArray 229)
theorem TrY.mem {c:Cd} {q:OA} {cap bc bm b1:Nat} {W w:World} {news:Blks} (h:TrY c q cap bc bm b1 W) (hm:Mem W [] news w):TrY c q cap bc bm b1 w:=⟨hm.old_at h.v (by simp),hm.old_at h.x (by simp)⟩
theorem TrY.kp {c:Cd} {q:OA} {cap bc bm b1 B:Nat} {nm:List Nat} {W W':World} (h:TrY c q cap bc bm b1 W) (h1:bc < B∧bc ∉ nm) (h2:b1 < B∧b1 ∉ nm) (hk:KpX B nm W W'):TrY c q cap bc bm b1 W' :=
 ⟨(hk bc h1.1 h1.2).trans h.v,(hk b1 h2.1 h2.2).trans h.x⟩
theorem Bd0 (bc:Nat) (W:World):CC 255 #[.pointer (some ⟨bc,0,none⟩)] W (News (fun b=>.func (.func 272) #[] #[.pointer (some ⟨b,0,none⟩)]) (fun b=>[(b,.cells [.pointer (some ⟨bc,0,none⟩)].toArray 229)]) W):=by
 refine cS func255 ?_;refine st ?_;refine zn (Lm rfl) (fun b1=>?_)
 exact Ld (chg:=[]) rZ (fun _ hm=>⟨b1,rfl,hm⟩)
abbrev pre3 (c:Cd) (k m n:Nat):List Tr:=trO c (fromZ 0 k)++trA c k (fromZ (oneLo c k) m)++trD k (oneLo c k + m) (fromZ (oneLo c k) n)
set_option maxHeartbeats 2000000 in
theorem BS7 (c:Cd) (hc:c.Ok) (q:OA) (cap bc bm b1:Nat) (w0:World) (nm:List Nat) (h0:TrY c q cap bc bm b1 w0) (hs1:bc < w0.heap.size∧bc ∉ nm) (hs2:b1 < w0.heap.size∧b1 ∉ nm) :
  SeqStopsK (Fr none) 8 π 272 #[.pointer (some ⟨b1,0,none⟩)] (fun x:TrS c=>#[.agg #[.I x.1.ll,.I x.1.lr,.I x.1.rl,.I x.1.rr]]) (KpX w0.heap.size nm) (fun xs=>xs=subL c (trimsM c)) (fun pre=>∃ rest,pre++rest=subL c (trimsM c)) 200000 w0:=by
 unfold SeqStopsK;intro l J Jx W hW hJ hJx hY hJ0;have c1:=hc.c1;have c2:=hc.c2;have hSn:TrY c q cap bc bm b1 W:=⟨(hW.block bc hs1.1).trans h0.v,(hW.block b1 hs2.1).trans h0.x⟩;have hJm:∀ {s:List (TrS c)} {A C:World} {news:Blks},J s A→Mem A [] news C→J s C:=fun h hm=>hJ _ _ _ none h hm.grown (fun r e=>by cases e)
 have hJxm:∀ {s:List (TrS c)} {A C:World} {news:Blks},Jx s A→Mem A [] news C→Jx s C:=fun h hm=>hJx _ _ _ none h hm.grown (fun r e=>by cases e)
 have hYY:∀ (pre:List (TrS c)) (x:TrS c) (A:World),J pre A→pre.length < 200000→TrY c q cap bc bm b1 A→YieldAt (Fr none) 8 π l #[.agg #[.I x.1.ll,.I x.1.lr,.I x.1.rl,.I x.1.rr]] A (fun e w'=>∃ y,e = .returned (.bool y)∧((y=true∧J (pre++[x]) w'∧TrY c q cap bc bm b1 w')∨(y=false∧Jx (pre++[x]) w'))):=fun pre x A h1 h2 h3 =>
  AM8 (hY pre x A h1 h2) (fun e w' hh=>by
   rcases hh with ⟨rfl,hh,hk⟩ | ⟨rfl,hh⟩
   · exact ⟨true,rfl,.inl ⟨rfl,hh,h3.kp hs1 hs2 hk⟩⟩
   · exact ⟨false,rfl,.inr ⟨rfl,hh⟩⟩)
 have hlen:=CA9 hc;refine AF1 (vs:=[.func (.yield l) #[] #[],.pointer (some ⟨b1,0,none⟩)]) func272 rfl rfl ?_ 8
 refine Ki ?_;refine Kj ?_;refine Xb (Aa0 rfl hSn.x (by simp) AW5 rfl) ?_;refine vR ?_;refine Xb (Lo rfl AC5) ?_;refine Xb (Lo rfl AK8) ?_;refine Xb (Aa0 rfl hSn.v (by simp) Ae0 rfl) ?_;refine Xb (Ka rfl rfl (Lq _ ⟨by omega,by omega⟩)) ?_;refine Xb (Kb rfl rfl (Lq _ ⟨by omega,by omega⟩)) ?_;refine vR ?_;refine Kk ?_;refine Kl ?_;refine Km ?_;refine Ar0 ((2 * c.cuts + 1).toNat) (fun k q=>(13,.I (k:Int))::q) (fun k Wk=>J (subL c (trO c (fromZ 0 k))) Wk∧TrY c q cap bc bm b1 Wk) (fun w hm=>⟨hJm hJ0 hm,hSn.mem hm⟩) (zE 13 rfl rfl (zS 0 rfl (zS 1 rfl (zS 12 rfl (Sub.nil _))))) ?_;intro k Wk kN kI;obtain ⟨hJk,hSk⟩:=kI;refine Ki ?_;refine Kj ?_;refine vR ?_;refine Kk ?_;refine Kl ?_;refine Ki ?_;refine Kn rfl ?_ ?_
 ·intro c0
  have c0':=c0;clear c0;try simp only [nH] at c0'
  have hk:k < (2 * c.cuts + 1).toNat:=by omega
  have lo0:0≤oneLo c k∧oneLo c k≤80:=by unfold oneLo;omega
  refine Ko ?_;refine Kl ?_;refine Ki ?_;refine Km ?_;refine Ki ?_;refine Kj ?_;refine vR ?_;refine vR ?_;refine Kk ?_;refine Kl ?_;refine Ki ?_;refine Kj ?_;refine vR ?_;refine Xb (Aa0 rfl hSk.x (by simp) AW5 rfl) ?_;refine vR ?_;refine Xb (Lo rfl AC5) ?_;refine Xb (Lo rfl AK8) ?_;refine Xb (Aa0 rfl hSk.v (by simp) Ae0 rfl) ?_;refine Xb (Ad8 rfl rfl (Lq _ ⟨by omega,by omega⟩)) ?_;refine Xb (Val.max rfl rfl) ?_;refine vR ?_;refine Kk ?_;refine Kl ?_;refine Km ?_;refine Ar0 (oneN c k) (fun m q=>(4,.I (oneLo c k + m))::q) (fun m Wm=>J (subL c (trO c (fromZ 0 k)++trA c k (fromZ (oneLo c k) m))) Wm∧TrY c q cap bc bm b1 Wm) (fun w hm=>⟨hJm (by simpa [trA,fromZ] using hJk) hm,hSk.mem hm⟩) (zE 4 rfl (by simp [oneLo]) (zS 0 rfl (zS 1 rfl (zS 3 rfl (zS 12 rfl (zS 13 rfl (Sub.nil _))))))) ?_;intro m Wm mN mI;obtain ⟨hJa,hSm⟩:=mI;refine Ki ?_;refine Ki ?_;refine Kj ?_;refine vR ?_;refine vR ?_;refine Xb (Aa0 rfl hSm.x (by simp) AW5 rfl) ?_;refine vR ?_;refine Xb (Lo rfl AC5) ?_;refine Xb (Lo rfl AK8) ?_;refine Xb (Aa0 rfl hSm.v (by simp) Ae0 rfl) ?_;refine Xb (Val.min rfl rfl) ?_;refine vR ?_;refine Kk ?_;refine Kl ?_;refine Kn rfl ?_ ?_
  ·intro c1
   have c1':=c1;clear c1;try simp only [nH] at c1'
   have hm3:m < oneN c k:=by unfold oneN oneHi;omega
   refine Ko ?_;refine Kl ?_;refine Ki ?_;refine Km ?_;refine Ki ?_;refine Kj ?_;refine vR ?_;refine Xb (Aa0 rfl hSm.x (by simp) AW5 rfl) ?_;refine vR ?_;refine Xb (Lo rfl AC5) ?_;refine Xb (Lo rfl AK8) ?_;refine Xb (Aa0 rfl hSm.v (by simp) Ae0 rfl) ?_;refine Xb (Ad8 rfl rfl (Lq _ ⟨by omega,by omega⟩)) ?_;refine Xb (Val.max rfl rfl) ?_;refine vR ?_;refine Kk ?_;refine Kl ?_;refine Km ?_;refine Ar0 (oneN c k) (fun n q=>(5,.I (oneLo c k + n))::q) (fun n Wn=>J (subL c (pre3 c k m n)) Wn∧TrY c q cap bc bm b1 Wn) (fun w hm=>⟨hJm (by simpa [pre3,trD,fromZ] using hJa) hm,hSm.mem hm⟩) (zE 5 rfl (by simp [oneLo]) (zS 0 rfl (zS 1 rfl (zS 3 rfl (zS 4 rfl (zS 12 rfl (zS 13 rfl (Sub.nil _)))))))) ?_;intro n Wn nN nI;obtain ⟨hJn,hSn3⟩:=nI;refine Ki ?_;refine Ki ?_;refine Kj ?_;refine vR ?_;refine vR ?_;refine Xb (Aa0 rfl hSn3.x (by simp) AW5 rfl) ?_;refine vR ?_;refine Xb (Lo rfl AC5) ?_;refine Xb (Lo rfl AK8) ?_;refine Xb (Aa0 rfl hSn3.v (by simp) Ae0 rfl) ?_;refine Xb (Val.min rfl rfl) ?_;refine vR ?_;refine Kk ?_;refine Kl ?_;refine Kn rfl ?_ ?_
   ·intro c2
    have c2':=c2;clear c2;try simp only [nH] at c2'
    have hn3:n < oneN c k:=by unfold oneN oneHi;omega
    obtain ⟨rest,hrest⟩:=BS8 hk hm3 hn3;have hx:trIs c ⟨oneLo c k + m,k - (oneLo c k + m),oneLo c k + n,k - (oneLo c k + n)⟩=true:=(AB8 hc).1 (by rw [← hrest];simp);have e3:subL c (pre3 c k m (n + 1))=subL c (pre3 c k m n)++[(⟨_,hx⟩:TrS c)]:=by (rw [← Bv0 hx,← AD4];congr 1;unfold pre3;rw [show fromZ (oneLo c k) (n + 1)=fromZ (oneLo c k) n++[oneLo c k + n] from rfl,Dc3];simp only [List.append_assoc])
    have e4:(subL c (pre3 c k m n)++[(⟨_,hx⟩:TrS c)])++subL c rest=subL c (trimsM c):=by rw [← Bv0 hx,← AD4,← AD4,← hrest,List.append_assoc]
    have hlt:(subL c (pre3 c k m n)).length < 200000:=by have h1:=congrArg List.length e4;have h2:=Dc8 c (trimsM c);rw [List.length_append,List.length_append] at h1;omega
    refine Ko ?_;refine Kl ?_;refine Ki ?_;refine Km ?_;refine Ki ?_;refine Kj ?_
    iterate 4 refine vR ?_
    refine Xb (Ad8 rfl rfl (Lq _ ⟨by omega,by omega⟩)) ?_
    iterate 3 refine vR ?_
    refine Xb (Ad8 rfl rfl (Lq _ ⟨by omega,by omega⟩)) ?_;refine Xb (Lr (parts:=[(0,.tmp 55),(1,.tmp 58),(2,.tmp 59),(3,.tmp 62)]) rfl Ay0 Bo3 rfl) ?_;refine RunLR.yield (RY:=fun y w'=>(y=true∧J (subL c (pre3 c k m n)++[(⟨_,hx⟩:TrS c)]) w'∧TrY c q cap bc bm b1 w')∨(y=false∧Jx (subL c (pre3 c k m n)++[(⟨_,hx⟩:TrS c)]) w')) (Ai4 rfl rfl) rfl rfl rfl (fun w hm=>hYY _ (⟨_,hx⟩:TrS c) w (hJm hJn hm) hlt (hSn3.mem hm)) ?_;intro y64 W64 h64;refine vR ?_;refine Kk ?_;refine Kl ?_;refine Kn rfl ?_ ?_
    ·intro c3
     have c3':=c3;clear c3;try simp only [nH] at c3'
     refine Kp ?_;refine Ad4 ?_;refine Ad1 ?_;refine Ad1 ?_;refine Ad4 ?_;refine Ad4 ?_;refine Ad1 ?_;refine Ad1 ?_;refine Ad4 ?_;refine Ad4 ?_;refine Ad1 ?_;refine Ad1 ?_;refine Ad4 ?_;intro a w2 s
     rcases h64 with ⟨h,_⟩ | ⟨_,hX2⟩
     ·rw [h] at c3';cases c3'
     exact ⟨s.defers,_,results_none rfl _ _ _,⟨_,rfl⟩,.inr ⟨_,⟨_,e4⟩,hJxm hX2 s.mem⟩⟩
    intro c3;have c3':=c3;clear c3;try simp only [nH] at c3'
    refine Ko ?_;refine st ?_;refine Kl ?_;refine Kj ?_;refine vR ?_;refine Xb (Kb rfl rfl (Lq _ ⟨by omega,by omega⟩)) ?_;refine vR ?_;refine Kk ?_;exact Al6 (by omega) (fun w hm=>(by rcases h64 with ⟨_,hJ2,hS2⟩ | ⟨h,_⟩;exact ⟨by (rw [e3];exact hJm hJ2 hm),hS2.mem hm⟩;rw [h] at c3';cases c3')) (zE 5 rfl (congrArg (Value.int .i64) (by omega)) (zS 0 rfl (zS 1 rfl (zS 3 rfl (zS 4 rfl (zS 12 rfl (zS 13 rfl (Sub.nil _))))))))
   intro c2;have c2':=c2;clear c2;try simp only [nH] at c2'
   obtain rfl:n=oneN c k:=by (unfold oneN oneHi at *;omega)
   refine Kq ?_;refine su ?_;refine Aa4 ?_;refine st ?_;refine Kl ?_;refine Kj ?_;refine vR ?_;refine Xb (Kb rfl rfl (Lq _ ⟨by omega,by omega⟩)) ?_;refine vR ?_;refine Kk ?_;exact Al6 (by omega) (fun w hm=>⟨by (rw [show fromZ (oneLo c k) (m + 1)=fromZ (oneLo c k) m++[oneLo c k + m] from rfl,Dc4,← List.append_assoc];exact hJm hJn hm),hSn3.mem hm⟩) (zE 4 rfl (congrArg (Value.int .i64) (by omega)) (zS 0 rfl (zS 1 rfl (zS 3 rfl (zS 12 rfl (zS 13 rfl (Sub.nil _)))))))
  intro c1;have c1':=c1;clear c1;try simp only [nH] at c1'
  obtain rfl:m=oneN c k:=by (unfold oneN oneHi at *;omega)
  refine Kq ?_;refine su ?_;refine Aa4 ?_;refine st ?_;refine Kl ?_;refine Kj ?_;refine Xb (Kb rfl rfl (Lq _ ⟨by omega,by omega⟩)) ?_;refine vR ?_;refine Kk ?_;exact Al6 (by omega) (fun w hm=>⟨by (rw [show fromZ 0 (k + 1)=fromZ 0 k++[(k:Int)] by simp [fromZ],Dc2];exact hJm hJa hm),hSm.mem hm⟩) (zE 13 rfl rfl (zS 0 rfl (zS 1 rfl (zS 12 rfl (Sub.nil _)))))
 intro c0;have c0':=c0;clear c0;try simp only [nH] at c0'
 obtain rfl:k=(2 * c.cuts + 1).toNat:=by omega
 refine Kq ?_;refine su ?_;refine Aa4 ?_;intro a w2 s;exact ⟨s.defers,_,results_none rfl _ _ _,⟨_,rfl⟩,.inl ⟨_,rfl,hJm hJk s.mem⟩⟩
end Go.Q
namespace Go.Pw1
open Go Go.Eng
def bestV (o:Option Tr):Value:=.tuple #[.agg #[.I (o.getD tz).ll,.I (o.getD tz).lr,.I (o.getD tz).rl,.I (o.getD tz).rr],.bool o.isSome]
theorem DH4 {c:Cd} {pre:List (TrS c)} {x:TrS c} {u:Tr} (h:bO c pre=some u) (h2:befT u x.1):bO c (pre++[x])=bO c pre:=by rw [Cb4,h];simp [bstep,h2]
theorem Dr8 {c:Cd} {pre:List (TrS c)} {x:TrS c} (h:∀ u,bO c pre=some u→¬ befT u x.1) (h2:fitT c x.1=true):bO c (pre++[x])=some x.1:=by
 rw [Cb4]
 cases ho:bO c pre with
 | none=>simp [bstep,h2]
 | some u=>simp [bstep,h u ho,h2]
theorem Dr7 {c:Cd} {pre:List (TrS c)} {x:TrS c} (h2:fitT c x.1=false):bO c (pre++[x])=bO c pre:=by
 rw [Cb4]
 cases ho:bO c pre with
 | none=>simp [bstep,h2]
 | some u=>simp [bstep,h2]
end Go.Pw1
namespace Go.Q
open Go Go.Eng Go.Pw1
theorem Cw1 (c:Cd) (q:OA) (b o cap bc bm:Nat) (W:World) (h:CdAt c q b o cap bc bm W) :
  CC 203 #[.pointer (some ⟨bc,0,none⟩)] W (Pure (bestV (bestM c)) W):=by
 have hv:=h.v;have hM:=h.m;have hc:=h.ok;have c2:=hc.c2;refine Ai0 func203 rfl rfl ?_;refine st ?_;refine zn (Lm rfl) (fun b1=>?_)
 refine zn (Lp Ay0) (fun b2=>?_)
 refine zn (Lp DI5) (fun b3=>?_)
 refine Kc ?_;refine st ?_;refine zn (Lp Bt4) (fun b4=>?_)
 refine RunC.label ?_;refine su ?_;refine Xj (zF rfl DA6) (fun w hm=>Bd0 bc w) (fun b10=>?_)
 refine st ?_;refine Cd5 (α:=TrS c) (Y:=Nat) (N:=200000) (S:=fun xs=>xs=subL c (trimsM c)) (Sp:=fun pre=>∃ rest,pre++rest=subL c (trimsM c)) [(b10,_),(b1,_)] (fun x=>[.agg #[.I x.1.ll,.I x.1.lr,.I x.1.rl,.I x.1.rr]]) (fun pre=>[(b2,.cells [.I ((bO c pre).getD tz).ll,.I ((bO c pre).getD tz).lr,.I ((bO c pre).getD tz).rl,.I ((bO c pre).getD tz).rr].toArray 296),(b3,.cells [.bool (bO c pre).isSome].toArray 4),(b4,.cells [.I (sumT ((bO c pre).getD tz)),.I ((bO c pre).getD tz).ll,.I ((bO c pre).getD tz).lr,.I ((bO c pre).getD tz).rl,.I ((bO c pre).getD tz).rr].toArray 374)]) (fun x y q=>(5,.pointer (some ⟨y,0,none⟩))::q) (fun x y=>[(y,.cells ([.I x.1.ll,.I x.1.lr,.I x.1.rl,.I x.1.rr]).toArray 296)]) (fun e pre V=>e = .exit 0∧∃ pre0 x u,pre=pre0++[x]∧bO c pre0=some u∧V=[(b2,.cells [.I u.ll,.I u.lr,.I u.rl,.I u.rr].toArray 296),(b3,.cells [.bool true].toArray 4),(b4,.cells [.I (sumT u),.I u.ll,.I u.lr,.I u.rl,.I u.rr].toArray 374)]) (zS 1 rfl (zS 2 rfl (zS 3 rfl (zS 4 rfl (Sub.nil _))))) (.cons (.there (.there (.there .here))) rfl (.cons (.there (.there .here)) rfl (.cons (.there .here) rfl (.cons .here rfl (.cons .here rfl .nil))))) (fun _=>rfl) (fun _ _ _ hb=>by simp only [List.mem_cons,List.not_mem_nil,or_false,Prod.mk.injEq] at hb;rcases hb with ⟨_,rfl⟩ | ⟨_,rfl⟩ | ⟨_,rfl⟩ <;> rfl) (fun _ _ _ _ hb=>by simp only [List.mem_cons,List.not_mem_nil,or_false,Prod.mk.injEq] at hb;obtain ⟨_,rfl⟩:=hb;rfl) (fun _=>rfl) rfl rfl DA0 (fun w hm=>BS7 c hc q cap bc bm b10 w _ ⟨hm.old_at hv (by simp),hm.at mm3⟩ (hm.oldApart (Array.getElem?_eq_some_iff.1 hv).1) (hm.apart mm0)) ?_ ?_ ?_ ?_
 ·intro l1 pre x V1 hV1
  refine Ab6 ?_;refine zn (Lp Ay0) (fun b5=>?_)
  refine sQ .here ?_;refine st ?_;exact BB9 b5 rfl (zE 5 rfl rfl (zS 1 rfl (zS 2 rfl (zS 3 rfl (zS 4 rfl (Sub.nil _)))))) (qC .nil)
 ·intro l1 pre x y W1 hlen1 hI1 hL1 hAp1
  have hv1_b10:=hI1.at mm3;have hn1_b10:=hAp1 _ (.inl ⟨_,mm0⟩);have hv1_b1:=hI1.at mm4;have hn1_b1:=hAp1 _ (.inl ⟨_,mm1⟩);have hv1_bc:=hI1.old_at hv (by simp);have hn1_bc:=hAp1 _ (.inr (Array.getElem?_eq_some_iff.1 hv).1);have hv1_bm:=hI1.old_at hM (by simp);have hn1_bm:=hAp1 _ (.inr (Array.getElem?_eq_some_iff.1 hM).1);have hx:=Bd1 x.2;obtain ⟨⟨x1,x2,x3,x4,x5,x6,x7,x8⟩,x9⟩:=hx;have hx:=Bd1 x.2;have hCd:∀ {c0 nw:Blks} {w:World},Mem W1 c0 nw w→c0.map (·.1)=_→CdAt c q b o cap bc bm w:=fun hm hc0=>h.mem (hI1.flat hm (fun b hb=>by rw [hc0];exact hAp1 b (.inr hb)))
  refine Km ?_;refine Ki ?_;refine Ab6 ?_;refine lu (Aa7 rfl rfl Ah3 (by decide) (by decide)) ?_;refine lu (Aa7 rfl rfl Ah3 (by decide) (by decide)) ?_;refine lA ?_;refine lu (Aa7 rfl rfl Ah3 (by decide) (by decide)) ?_;refine lA ?_;refine lu (Aa7 rfl rfl Ah3 (by decide) (by decide)) ?_;refine lu (Kb rfl rfl (Lq _ ⟨by omega,by omega⟩)) ?_;refine lv (Lr (parts:=[(0,.tmp 22),(1,.tmp 23)]) rfl Bt4 Cq4 rfl) ?_;refine zn (Lp Bt4) (fun b6=>?_)
  refine sQ .here ?_;refine st ?_;refine Kl ?_;refine Ki ?_;refine Ki ?_;refine Ab6 ?_;refine su ?_;refine Kl ?_;refine Kn rfl ?_ ?_
  ·intro c0
   have c0':=c0;clear c0;try simp only [nH] at c0'
   obtain ⟨u,hu⟩:∃ u,bO c pre=some u:=Option.isSome_iff_exists.1 c0';simp only [hu,Option.getD_some,Option.isSome_some];refine Ki ?_;refine Ki ?_;refine Ab6 ?_;refine su ?_;refine Kl ?_;refine Kn rfl ?_ ?_
   ·intro c1
    have c1':=c1;clear c1;try simp only [nH] at c1'
    refine Kq ?_;refine su ?_;refine Ah5 rfl ?_;exact Bk5 [(b2,_),(b3,_),(b4,_)] [(y,_)] ⟨rfl,pre,x,u,rfl,hu,rfl⟩ rfl
   intro c1;have c1':=c1;clear c1;try simp only [nH] at c1'
   refine Ko ?_;refine Kl ?_;refine Ki ?_;refine Ab6 ?_;refine su ?_;refine zc (zF rfl DA5) (fun w hm=>Bw1 u x.1 w) ?_;refine Kl ?_;refine Kn rfl ?_ ?_
   ·intro c2
    have c2':=c2;clear c2;try simp only [nH] at c2'
    refine Kq ?_;refine Ac0 ?_;refine Aa4 ?_;exact Aq9 [(y,_)] (by simp only [DH4 hu c2',hu,Option.getD_some,Option.isSome_some];rfl)
   intro c2;have c2':=c2;clear c2;try simp only [nH] at c2'
   refine Ko ?_;refine Kl ?_;refine Ki ?_;refine Ab6 ?_;refine lu (Aa0 rfl hv1_b1 (Az2 rfl hn1_b1) AW5 rfl) ?_;refine lv (Lr (parts:=[(0,.tmp 35),(1,.tmp 36)]) rfl AZ8 AJ5 rfl) ?_;refine zc (zF rfl BY7) (fun w hm=>AU6 c x.1 hx.1 q b o cap bc bm w (hCd hm rfl)) ?_;refine Kl ?_;refine Ki ?_;refine Ab6 ?_;refine st ?_;refine Kl ?_;refine Kn rfl ?_ ?_
   ·intro c3
    have c3':=c3;clear c3;try simp only [nH] at c3'
    have hfit:fitT c x.1=true:=decide_eq_true c3';refine Bk8 3 Ah8 (qC .nil) ?_;refine Xv (i:=1) rfl (fun c hck=>(Ab5 rfl (List.mem_append_right c mm0) BD0 rfl)) (fun _ _ _ h=>h) (qC .nil) ?_;refine zA 0 ?_;refine Xc rfl (Ab5 rfl mm3 AF6 rfl) (Aa2 (qC .nil) (qC .nil) rfl ?_)
    refine zA 2 ?_;refine Xr rfl (Ab7 rfl rfl .here AF6 rfl rfl) (Aa2 (qC .nil) (qC .nil) rfl ?_)
    refine zt ?_;refine zB 3 ?_;refine Xr rfl (Ab7 rfl rfl (.there (.there .here)) BD0 rfl rfl) (Ab2 ?_)
    refine zB 4 ?_;refine Xr rfl (Ab7 rfl rfl (.there .here) Cm9 rfl rfl) (Ab2 ?_)
    refine zd ?_;refine st ?_;exact Aq9 [(y,_)] (by simp only [Dr8 (fun u2 h2=>by (rw [hu] at h2;cases h2;exact c2')) hfit,Option.getD_some,Option.isSome_some];rfl)
   intro c3;have c3':=c3;clear c3;try simp only [nH] at c3'
   have hfit:fitT c x.1=false:=decide_eq_false c3';refine Ko ?_;refine st ?_;exact Aq9 [(y,_)] (by simp only [Dr7 hfit,hu,Option.getD_some,Option.isSome_some];rfl)
  intro c0;have c0':=c0;clear c0;try simp only [nH] at c0'
  have hn:bO c pre=none:=by simpa using c0'
  refine Ko ?_;refine Kl ?_;refine Ki ?_;refine Ab6 ?_;refine lu (Aa0 rfl hv1_b1 (Az2 rfl hn1_b1) AW5 rfl) ?_;refine lv (Lr (parts:=[(0,.tmp 35),(1,.tmp 36)]) rfl AZ8 AJ5 rfl) ?_;refine zc (zF rfl BY7) (fun w hm=>AU6 c x.1 hx.1 q b o cap bc bm w (hCd hm rfl)) ?_;refine Kl ?_;refine Ki ?_;refine Ab6 ?_;refine st ?_;refine Kl ?_;refine Kn rfl ?_ ?_
  ·intro c3
   have c3':=c3;clear c3;try simp only [nH] at c3'
   have hfit:fitT c x.1=true:=decide_eq_true c3';refine Bk8 3 Ah8 (qC .nil) ?_;refine Xv (i:=1) rfl (fun c hck=>(Ab5 rfl (List.mem_append_right c mm0) BD0 rfl)) (fun _ _ _ h=>h) (qC .nil) ?_;refine zA 0 ?_;refine Xc rfl (Ab5 rfl mm3 AF6 rfl) (Aa2 (qC .nil) (qC .nil) rfl ?_)
   refine zA 2 ?_;refine Xr rfl (Ab7 rfl rfl .here AF6 rfl rfl) (Aa2 (qC .nil) (qC .nil) rfl ?_)
   refine zt ?_;refine zB 3 ?_;refine Xr rfl (Ab7 rfl rfl (.there (.there .here)) BD0 rfl rfl) (Ab2 ?_)
   refine zB 4 ?_;refine Xr rfl (Ab7 rfl rfl (.there .here) Cm9 rfl rfl) (Ab2 ?_)
   refine zd ?_;refine st ?_;exact Aq9 [(y,_)] (by simp only [Dr8 (fun u2 h2=>by (rw [hn] at h2;cases h2)) hfit,Option.getD_some,Option.isSome_some];rfl)
  intro c3;have c3':=c3;clear c3;try simp only [nH] at c3'
  have hfit:fitT c x.1=false:=decide_eq_false c3';refine Ko ?_;refine st ?_;exact Aq9 [(y,_)] (by simp only [Dr7 hfit];rfl)
 ·intro xs bD0 hXS
  obtain rfl:=hXS;rw [DT9 hc];refine st ?_;refine Ao2 3 Ah8 (qC (qD (qD (qD (qD .nil))))) ?_;refine zw 1 ?_;refine zA 0 ?_;refine Xc rfl (Ab5 rfl mm1 AF6 rfl) (Aa2 (qC (qD (qD (qD (qD .nil))))) (qF (qC .nil)) rfl ?_)
  refine zA 2 ?_;refine Xr rfl (Lt rfl rfl (.there .here) AF6 rfl rfl) (Aa2 (qC (qD (qD (qD (qD .nil))))) (qF (qC .nil)) rfl ?_)
  refine zt ?_;refine zB 3 ?_;refine Xr rfl (Lt rfl rfl (.there (.there .here)) Cm9 rfl rfl) (Ab2 ?_)
  refine zd ?_;refine Ae5 ?_;refine su ?_;refine Ai8 ?_;exact Ap4 [bD0] (qF (qE .nil)) (.r2 rfl (.agg rfl mm0 AF6 rfl) (.one rfl mm1 Cm9 rfl)) (AD9 (by rfl))
 intro c pre V' bD0 hSp hNm hSt;obtain ⟨rfl,pre0,x,u,rfl,hu,rfl⟩:=hSt;obtain ⟨rest,hrest⟩:=hSp;have hbest:=DH3 hc (by rw [← List.append_assoc];exact hrest) hu;refine Ls ?_;refine Aa4 ?_;refine st ?_;refine Ao2 3 Ah8 (qC (qD (qD (qD (qD .nil))))) ?_;refine zw 1 ?_;refine zA 0 ?_;refine Xc rfl (Ab5 rfl mm1 AF6 rfl) (Aa2 (qC (qD (qD (qD (qD .nil))))) (qF (qC .nil)) rfl ?_)
 refine zA 2 ?_;refine Xr rfl (Lt rfl rfl (.there .here) AF6 rfl rfl) (Aa2 (qC (qD (qD (qD (qD .nil))))) (qF (qC .nil)) rfl ?_)
 refine zt ?_;refine zB 3 ?_;refine Xr rfl (Lt rfl rfl (.there (.there .here)) Cm9 rfl rfl) (Ab2 ?_)
 refine zd ?_;refine Ae5 ?_;refine su ?_;refine Ai8 ?_;exact Ap4 [bD0] (qF (qE .nil)) (.r2 rfl (.agg rfl mm0 AF6 rfl) (.one rfl mm1 Cm9 rfl)) (AD9 (by rw [hbest];rfl))
theorem Cw7 (c:Cd) (q:OA) (b o cap:Nat) (W:World) (hS:Sl W q b o 9 (c.p.things.map Th.cells)) (hl:c.p.things.length≤100000000000) :
  CC 138 #[c.v q cap] W (Pure (.tuple #[(trimX c).1.v,.I (trimX c).2]) W):=by
 by_cases h0:openM c []=0
 · obtain ⟨hc,hpk⟩:=CH2 h0
   refine cS func138 ?_;refine st ?_;refine zn (Lm rfl) (fun b1=>?_)
   refine zn (Lp An3) (fun b2=>?_)
   refine Xj (zF rfl AH9) (fun w hm=>AE0 c [] h0 q b o cap none 0 0 0 w (hS.mono (by decide) hm (by simp)) hl Sl.emp (by simp)) (fun b10=>?_)
   refine st ?_;refine Ly rfl (fun h=>absurd h (by decide)) ?_;intro c0;clear c0;refine st ?_;refine zc (zF rfl DD0) (fun w hm=>Cw1 c q b o cap b10.1 b10.2 w ⟨hm.at mm0,hm.at mm1,hS.mono (by decide) hm (by simp),hc,hpk⟩) ?_;refine zn (Lp Ay0) (fun b6=>?_)
   refine sQ .here ?_;refine st ?_;refine cn rfl ?_ ?_
   ·intro c1'
    have hb:bestM c=none:=by simpa using c1'
    refine st ?_;refine lv (Lr (parts:=[]) rfl An3 AG8 rfl) ?_;refine sQ (.there (.there (.there .here))) ?_;refine su ?_;exact Aa9 (.r2 rfl (.agg rfl mm3 Bl5 rfl) (.tmp rfl)) (by simp only [trimX,h0,if_true,hb];rfl)
   intro c1';obtain ⟨u,hb⟩:∃ u,bestM c=some u:=Option.isSome_iff_exists.1 c1';refine su ?_;refine zc (zF rfl DC9) (fun w hm=>Ca0 _ _ _ _ w) ?_;refine sQ (.there (.there (.there .here))) ?_;refine su ?_;exact Aa9 (.r2 rfl (.agg rfl mm3 Bl5 rfl) (.tmp rfl)) (by simp only [trimX,h0,if_true,hb];rfl)
 · refine cS func138 ?_
   refine st ?_;refine zn (Lm rfl) (fun b1=>?_)
   refine zn (Lp An3) (fun b2=>?_)
   refine zc (zF rfl AH9) (fun w hm=>Ar4 c [] _ rfl h0 q b o cap none 0 0 0 w (hS.mono (by decide) hm (by simp)) hl Sl.emp (by simp)) ?_;refine Ly rfl ?_ (fun h=>absurd h (by simp [h0]))
   intro c0;clear c0;refine st ?_;refine lv (Lr (parts:=[]) rfl An3 AG8 rfl) ?_;refine sQ .here ?_;refine su ?_;exact Aa9 (.r2 rfl (.agg rfl mm0 Bl5 rfl) (.tmp rfl)) (by simp only [trimX,h0,if_false];rfl)
theorem CS7:Enters π 150:=eZ func150
theorem BZ2:Enters π 160:=eZ func160
theorem BZ1:Enters π 161:=eZ func161
theorem CS4:Enters π 162:=eZ func162
theorem CS3:Enters π 166:=eZ func166
theorem DC3:Enters π 223:=eZ func223
theorem DC1:Enters π 232:=eZ func232
theorem DC0:Enters π 233:=eZ func233
theorem DB9:Enters π 234:=eZ func234
theorem CR0:Enters π 237:=eZ func237
theorem CQ6:Enters π 267:=eZ func267
theorem By1:Enters π 313:=eZ func313
theorem BL2:fieldB π 165 0=some 0:=by kernel_rfl
instance:Fld π 165 0 0:=⟨BL2⟩
theorem CO0:fieldB π 165 1=some 1:=by kernel_rfl
instance:Fld π 165 1 1:=⟨CO0⟩
theorem CN9:fieldB π 165 2=some 2:=by kernel_rfl
instance:Fld π 165 2 2:=⟨CN9⟩
theorem CM5:fieldB π 358 0=some 0:=by kernel_rfl
instance:Fld π 358 0 0:=⟨CM5⟩
theorem CM4:fieldB π 358 1=some 1:=by kernel_rfl
instance:Fld π 358 1 1:=⟨CM4⟩
theorem Dg2:(π.underlying 356).any (fun t=>match t with | .interface _=>false | _=>true)=true:=by kernel_rfl
theorem Dg1:(π.underlying 358).any (fun t=>match t with | .interface _=>false | _=>true)=true:=by kernel_rfl
theorem Cq5:placesB π 358=some [(0,1),(1,1)]:=by kernel_rfl
theorem CD2:slB π 176=some (5,1):=by kernel_rfl
instance:Slc π 176 5 1:=⟨CD2⟩
theorem CC7:π.underlying 176=some (.slice 5):=by kernel_rfl
theorem DJ8:tyB π 356=some (false,1):=by kernel_rfl
instance:Tyc π 356 false 1:=⟨DJ8⟩
theorem DW8:tyB π 5=some (false,1):=by kernel_rfl
instance:Tyc π 5 false 1:=⟨DW8⟩
theorem AN0:tyB π 9=some (false,1):=by kernel_rfl
instance:Tyc π 9 false 1:=⟨AN0⟩
theorem Bc5:π.underlying 356=some (.string):=by kernel_rfl
theorem Dt1:π.underlying 5=some (.int .u8):=by kernel_rfl
theorem Au9:π.underlying 9=some (.string):=by kernel_rfl
theorem CZ0:zeroB π 358=some [.string ⟨#[]⟩,.string ⟨#[]⟩]:=by kernel_rfl
end Go.Q
namespace Go.Hp
open Go Go.Eng Go.Pw1
def bytesV (l:Str):List (LV):=l.map fun c=>[byteV c]
def strsV (l:List Str):List (LV):=l.map fun s=>[.string (bs s)]
theorem Bn2 {α:Type} {f:α→Bool} {l:List α} {k:Nat} (hk:k < l.length):(l.take (k + 1)).countP f=(l.take k).countP f + if f l[k] then 1 else 0:=by
 rw [List.take_succ_eq_append_getElem hk,List.countP_append];simp [List.countP_cons]
structure BxA where
 bx:Bx
 q:OA
 b:Nat
 o:Nat
 cap:Nat
def BxA.cells (x:BxA):LV:=[.I x.bx.colour,.slice x.q x.bx.titles.length x.cap]
def Tn.cells (t:Tn):LV:=[.I t.colour,.string (bs t.number),.string (bs t.text)]
def En.cells (t:En):LV:=[.I t.colour,.string (bs t.number),.string (bs t.title)]
structure MxA where
 bxs:List BxA
 q:OA
 b:Nat
 o:Nat
 cap:Nat
 cards:List Tn
 q2:OA
 b2:Nat
 o2:Nat
 cap2:Nat
def MxA.cells (m:MxA):LV:=[.slice m.q m.bxs.length m.cap,.slice m.q2 m.cards.length m.cap2]
def MxA.v (m:MxA):Value:=.agg m.cells.toArray
def MxA.pl (m:MxA):Mx:=⟨m.bxs.map (·.bx),m.cards⟩
def TOk (W:World) (x:BxA):Prop:=Sl W x.q x.b x.o 1 (strsV x.bx.titles)
structure MOk (W:World) (m:MxA):Prop where
 bx:Sl W m.q m.b m.o 2 (m.bxs.map BxA.cells)
 ti:∀ x∈m.bxs,TOk W x
 cd:Sl W m.q2 m.b2 m.o2 3 (m.cards.map Tn.cells)
theorem MOk.mono0 {W w:World} {m:MxA} {news:Blks} (h:MOk W m) (hm:Mem W [] news w):MOk w m :=
 ⟨h.bx.mono (by decide) hm (by simp),fun x hx=>(h.ti x hx).mono (by decide) hm (by simp),h.cd.mono (by decide) hm (by simp)⟩
end Go.Hp
namespace Go.Q
open Go Go.Eng Go.Hp Go.Pw1
theorem AE3 (n lo hi:Int) (W:World):CC 160 #[.I n,.I lo,.I hi] W (Pure (.bool (within n lo hi)) W):=by
 refine cS func160 ?_;refine st ?_
 refine Ab0 (dj:=10) (dp:=14) 4 rfl (fun g10=>by
  refine sv ?_;exact zs g10
 ) (fun g10=>by
   iterate 3 refine nQ ?_
   refine sv ?_;exact zs g10
 ) ?_
 refine su ?_;exact rP
theorem AX3 (c:UInt8) (W:World):CC 162 #[byteV c] W (Pure (.bool (letterX c)) W):=by
 refine cS func162 ?_;refine st ?_
 refine Ab0 (dj:=5) (dp:=8) 3 rfl (fun g5=>by
  refine sv ?_;exact zs g5
 ) (fun g5=>by
   refine nQ ?_;refine nQ ?_;refine sv ?_;exact zs g5
 ) ?_
 refine su ?_;exact rP
theorem Ca5 (c:UInt8) (W:World):CC 234 #[byteV c] W (Pure (.bool (digitX c)) W):=by
 refine cS func234 ?_;refine st ?_
 refine Ab0 (dj:=5) (dp:=8) 3 rfl (fun g5=>by
  refine sv ?_;exact zs g5
 ) (fun g5=>by
   refine nQ ?_;refine nQ ?_;refine sv ?_;exact zs g5
 ) ?_
 refine su ?_;exact rP
theorem Cn9 (c:UInt8) (W:World):CC 232 #[byteV c] W (Pure (.bool (starX c)) W):=by
 refine cS func232 ?_;refine su ?_;exact rP
theorem Ct9 (c:UInt8) (W:World):CC 233 #[byteV c] W (Pure (.bool (goodX c)) W):=by
 refine cS func233 ?_;refine st ?_;refine zc (zF rfl CS4) (fun w hm=>AX3 _ w) ?_
 refine Ac5 (dj:=5) (dp:=8) 3 rfl (fun g5=>by
  refine st ?_;refine Xe (zF rfl DB9) (fun w hm=>Ca5 _ w) ?_;refine sv ?_;exact zs g5
 ) (fun g5=>by
   refine nQ ?_;refine nQ ?_;refine sv ?_;exact zs g5
 ) ?_
 refine st ?_
 refine Ac5 (dj:=9) (dp:=12) 3 rfl (fun g9=>by
  refine sv ?_;exact zs g9
 ) (fun g9=>by
   refine nQ ?_;refine nQ ?_;refine sv ?_;exact zs g9
 ) ?_
 refine st ?_
 refine Ac5 (dj:=13) (dp:=16) 3 rfl (fun g13=>by
  refine sv ?_;exact zs g13
 ) (fun g13=>by
   refine nQ ?_;refine nQ ?_;refine sv ?_;exact zs g13
 ) ?_
 refine su ?_;exact rP
theorem AE8 (f:UInt8→Bool) (l:Str) (q:OA) (b o cap:Nat) (fn:FuncId) (W:World) (hS:Sl W q b o 1 (bytesV l)) (hl:l.length≤100000000000) (he:Enters π fn)
  (hf:∀ c w,CC fn #[byteV c] w (Pure (.bool (f c)) w)) :
  CC 161 #[.slice q l.length cap,.func (.func fn) #[] #[]] W (Pure (.I ((l.countP f:Nat):Int)) W):=by
 refine cS func161 ?_;refine su ?_;refine Ac8 (l.length) (fun k q=>(9,.I (k:Int))::(4,.I (((l.take k).countP f:Nat):Int))::q) (fun _=>_) (fun _=>[]) (fun _=>True) trivial rfl (zE 9 rfl rfl (zE 4 rfl rfl (zS 0 rfl (zS 1 rfl (zS 7 rfl (zS 8 rfl (Sub.nil _))))))) .nil ?_;intro k kN kI;clear kI;refine st ?_;refine cn rfl ?_ ?_
 ·intro c0'
  have hk:k < l.length:=by omega
  have hcl:=List.countP_le_length (p:=f) (l:=l.take k);rw [List.length_take] at hcl;refine st ?_;refine lv (Aa3 rfl rfl CD2 (by omega) (by omega) (hS.ptrM hk)) ?_;refine lv (Aa5 rfl (fun w hm=>hS.loadM1 (by decide) hm (by simp) DW8 hk (v:=byteV l[k]) rfl)) ?_;refine Xe (Ab4 rfl rfl he) (fun w hm=>hf _ w) ?_;refine st ?_;refine cn rfl ?_ ?_
  ·intro c1'
   refine st ?_;refine lA ?_;refine lA ?_;exact Ac2 (by omega) trivial rfl (zE 9 rfl rfl (zE 4 rfl (by rw [Bn2 hk,c1'];simp) (zS 0 rfl (zS 1 rfl (zS 7 rfl (zS 8 rfl (Sub.nil _))))))) .nil
  intro c1';refine st ?_;refine lA ?_;exact Ac2 (by omega) trivial rfl (zE 9 rfl rfl (zE 4 rfl (by rw [Bn2 hk,c1'];simp) (zS 0 rfl (zS 1 rfl (zS 7 rfl (zS 8 rfl (Sub.nil _))))))) .nil
 intro c0';obtain rfl:k=l.length:=by omega
 simp only [List.take_length];refine Ls ?_;refine su ?_;refine Aa4 ?_;refine su ?_;exact rP
end Go.Q
namespace Go.Hp
open Go Go.Eng Go.Pw1
theorem BA2 {w:World} {b e p:Nat} {l:Str} (h:w.heap[b]? = some (bytesO e (l.map byteV) p)):Sl w (some ⟨b,0,none⟩) b 0 1 (bytesV l):=by
 refine ⟨fun _=>rfl,fun x hx=>?_,fun i hi j hj=>?_⟩
 · obtain ⟨c,_,rfl⟩:=List.mem_map.1 hx;rfl
 · obtain rfl:j=0:=by omega
   have hi2:i < l.length:=by simpa [bytesV] using hi
   simp [World.cell?,h,bytesO,bytesV,hi2,List.getElem?_append_left,byteV]
theorem Bn4:∀ s:Str,Lib.indexByte s 42=match starAt s with | some i=>(i:Int) | none=>-1
 | []=>rfl
 | c::s=>by
   have ih:=Bn4 s;unfold Lib.indexByte starAt
   have hc:(c == 42)=decide (c.toNat=42):=by
    rw [Bool.eq_iff_iff];simp only [beq_iff_eq,decide_eq_true_eq];exact ⟨fun h=>by rw [h];rfl,fun h=>UInt8.toNat_inj.1 h⟩
   rw [hc]
   by_cases h:c.toNat=42
   · simp [h]
   · simp only [h,decide_false,Bool.false_eq_true,if_false,ih]
     cases starAt s with
     | none=>rfl
     | some i =>
       have h1:((i:Int) == -1)=false:=by simp
       simp [h1]
theorem BD7:∀ {s:Str} {i:Nat},starAt s=some i→i < s.length
 | c::s,i,h=>by
   unfold starAt at h
   split at h
   · cases h;simp
   · cases hs:starAt s with
     | none=>rw [hs] at h;cases h
     | some j =>
       rw [hs] at h
       have:=BD7 hs
       simp at h
       subst h;simpa using this
def pieceT (p:Str):TypeId:=if (starAt p).isSome then 358 else 356
def pieceP (p:Str):Value:=match starAt p with
 | some i=>.agg #[.string (bs (p.take i)),.string (bs (p.drop (i + 1)))]
 | none=>.string (bs p)
def pieceF (p:Str):FuncId:=if (starAt p).isSome then 314 else 313
def pieceV (p:Str):Value:=.iface (pieceT p) (pieceP p)
end Go.Hp
namespace Go.Q
open Go Go.Eng Go.Hp Go.Pw1
theorem AQ7 (s:Str) (hl:s.length≤1000000) (W:World):CC 166 #[.string (bs s)] W (Pure (.bool (pieceX s)) W):=by
 refine cS func166 ?_;refine st ?_;refine BQ0 (NewX.bytes rfl Au9 CC7 Dt1) rfl rfl rfl (fun p7 _ b7=>?_)
 refine su ?_
 refine Ab0 (dj:=11) (dp:=18) 7 rfl (fun g11=>by
  have g11':=g11;try simp only [nH] at g11'
  refine st ?_;refine Xe (zF rfl BZ1) (fun w hm=>AE8 goodX s _ b7 0 _ 233 w (BA2 (hm.at mm0)) (by omega) DC0 Ct9) ?_;refine st ?_;refine Xa (Ae3 rfl CD2) ?_;refine sv ?_;exact zs g11
 ) (fun g11=>by
   iterate 6 refine nQ ?_
   refine sv ?_;exact zs g11
 ) ?_
 refine st ?_
 refine Ab0 (dj:=19) (dp:=24) 5 rfl (fun g19=>by
  have g19':=g19;try simp only [nH] at g19'
  refine st ?_;refine Xe (zF rfl BZ1) (fun w hm=>AE8 starX s _ b7 0 _ 232 w (BA2 (hm.at mm0)) (by omega) DC1 Cn9) ?_;refine sv ?_;exact zs g19
 ) (fun g19=>by
   iterate 4 refine nQ ?_
   refine sv ?_;exact zs g19
 ) ?_
 refine su ?_;exact Aa9 rZ (by simp only [pieceX];refine congrArg Value.bool ?_;refine Bool.eq_iff_iff.2 ?_;simp only [Bool.and_eq_true,decide_eq_true_eq];omega)
theorem Bl9 (s:Str) (hl:s.length≤1000000) (W:World):CC 159 #[.string (bs s)] W (Pure (.bool (badTitle s)) W):=by
 refine cS func159 ?_;refine st ?_;refine lv (Aj0 rfl Au9) ?_;refine zc (zF rfl BZ2) (fun w hm=>AE3 _ _ _ w) ?_
 refine Ac5 (dj:=7) (dp:=14) 7 rfl (fun g7=>by
  have g7':=g7;try simp only [nH] at g7'
  refine st ?_;refine BQ0 (NewX.bytes rfl Au9 CC7 Dt1) rfl rfl rfl (fun p9 _ b9=>?_)
  refine zc (zF rfl BZ1) (fun w hm=>AE8 letterX s _ b9 0 _ 162 w (BA2 (hm.at mm0)) (by omega) CS4 AX3) ?_;refine Xa (Aj0 rfl Au9) ?_;refine sv ?_;exact Ac1 (Kg rfl (qU (qT (qS (Ad2 rfl (by rw [g7]) (Ab3 _)))))) (.cons _ (List.Sublist.refl _))
 ) (fun g7=>by
   iterate 6 refine nQ ?_
   refine sv ?_;exact zs g7
 ) ?_
 refine su ?_;exact Aa9 rZ (by simp only [badTitle];refine congrArg Value.bool ?_;refine Bool.eq_iff_iff.2 ?_;simp only [Bool.or_eq_true,decide_eq_true_eq,Int.ofNat_lt])
theorem BA6 (t:Tn) (h:t.number.length≤1000000∧t.text.length≤1000000) (W:World):CC 165 #[.agg t.cells.toArray] W (Pure (.bool (badCard t)) W):=by
 refine cS func165 ?_;refine st ?_;refine zn (Lm rfl) (fun b1=>?_)
 refine zc (zF rfl BZ2) (fun w hm=>AE3 _ _ _ w) ?_
 refine Ac5 (dj:=7) (dp:=12) 5 rfl (fun g7=>by
  refine su ?_;refine Xe (zF rfl CS3) (fun w hm=>AQ7 t.number h.1 w) ?_;refine sv ?_;exact zs g7
 ) (fun g7=>by
   iterate 4 refine nQ ?_
   refine sv ?_;exact zs g7
 ) ?_
 refine st ?_
 refine Ac5 (dj:=13) (dp:=18) 5 rfl (fun g13=>by
  refine su ?_;refine Xe (zF rfl CS3) (fun w hm=>AQ7 t.text h.2 w) ?_;refine sv ?_;exact zs g13
 ) (fun g13=>by
   iterate 4 refine nQ ?_
   refine sv ?_;exact zs g13
 ) ?_
 refine su ?_;exact rP
theorem AD2 (p s:Str) (hp:p.length≤1000000) (hs:s.length≤1000000) (W:World):CC 313 #[.string (bs p),.string (bs s)] W (Pure (.bool (suitsW p s)) W):=by
 refine cS func313 ?_;refine st ?_;refine lv (Aj0 rfl Bc5) ?_;refine lv (Aj0 rfl Au9) ?_;refine cn rfl ?_ ?_
 ·intro c0'
  have hne:p.length ≠ s.length:=by omega
  refine su ?_;exact Aa9 rZ (by rw [Bn3 hne])
 intro c0';have heq:p.length=s.length:=by omega
 refine st ?_;refine lv (Aj0 rfl Au9) ?_;refine Ac8 (s.length) (fun k q=>(13,.I (k:Int))::q) (fun _=>_) (fun _=>[]) (fun k=>∀ j (h:j < k) (h1:j < p.length) (h2:j < s.length),p[j].toNat=63∨p[j]=s[j]) (fun j h=>absurd h (by omega)) rfl (zE 13 rfl rfl (zS 0 rfl (zS 1 rfl (zS 11 rfl (zS 12 rfl (Sub.nil _)))))) .nil ?_;intro k kN kI;refine st ?_;refine cn rfl ?_ ?_
 ·intro c1'
  have hk:k < s.length:=by omega
  have hk2:k < p.length:=by omega
  obtain ⟨x,hx⟩:∃ x,p[k]=x:=⟨_,rfl⟩;obtain ⟨y,hy⟩:∃ y,s[k]=y:=⟨_,rfl⟩;have hx2:p[(k:Int).toNat]? = some x:=by simp [hk2,hx]
  have hy2:s[(k:Int).toNat]? = some y:=by simp [hk,hy]
  refine Kd ?_;refine Ke ?_;refine Lx ?_;refine Kr ?_;refine csr ?_;refine vQ ?_;refine vQ ?_;refine nnx ?_;refine Lx ?_
  apply Ak7 (J:=J0 _ _ _ _ _ _) 11 Ah8 .nil
  ·refine zv 0 rfl (Aa8 rfl) ?_
   refine zv 1 rfl (Aa8 rfl) ?_;refine zv 2 rfl (AA3 rfl rfl Bc5 (by omega) hx2) ?_;refine zv 3 rfl (Aa8 rfl) ?_;refine zv 4 rfl (Aa8 rfl) ?_;refine Ap5 (dj:=20) rfl ?_ ?_
   ·intro g20
    have g20':=g20;clear g20;try simp only [nH] at g20'
    refine zv 5 rfl (Aa8 rfl) ?_;refine zv 6 rfl (Aa8 rfl) ?_;refine zv 7 rfl (AA3 rfl rfl Bc5 (by omega) hx2) ?_;refine zv 8 rfl (Aa8 rfl) ?_;refine zv 9 rfl (Aa8 rfl) ?_;refine zv 10 rfl (AA3 rfl rfl Au9 (by omega) hy2) ?_;refine zt ?_;refine zp 11 ?_;refine zp 12 ?_;refine zd ?_;exact Aw2  (zE 28 (v:=.bool (!(decide ((x.toNat:Int)=63) || decide ((x.toNat:Int)=(y.toNat:Int))))) rfl (by first | rfl | (refine congrArg Value.bool (Bool.eq_iff_iff.2 ?_);simp only [Bool.or_eq_true,Bool.and_eq_true,Bool.not_eq_true',Bool.or_eq_false_iff,Bool.and_eq_false_iff,Bool.not_eq_false',decide_eq_true_eq,decide_eq_false_iff_not,Bool.false_eq_true,true_iff,false_iff,iff_true,iff_false,and_true,true_and,Bool.and_true,Bool.true_and];omega)) (qU (qU (qU (qT (Ab3 _)))))) (Pick.refl _)
   intro g20;have g20':=g20;clear g20;try simp only [nH] at g20'
   refine Xw (i:=5) rfl (fun _ _ _ h=>h) .nil ?_;refine Xw (i:=6) rfl (fun _ _ _ h=>h) .nil ?_;refine Xw (i:=7) rfl (fun _ _ _ h=>h) .nil ?_;refine Xw (i:=8) rfl (fun _ _ _ h=>h) .nil ?_;refine Xw (i:=9) rfl (fun _ _ _ h=>h) .nil ?_;refine Xw (i:=10) rfl (fun _ _ _ h=>h) .nil ?_;refine zt ?_;refine zB 11 ?_;refine Xx rfl (Ab2 ?_)
   refine zp 12 ?_;refine zd ?_;exact Aw2  (zE 28 (v:=.bool (!(decide ((x.toNat:Int)=63) || decide ((x.toNat:Int)=(y.toNat:Int))))) rfl (by first | rfl | (refine congrArg Value.bool (Bool.eq_iff_iff.2 ?_);simp only [Bool.or_eq_true,Bool.and_eq_true,Bool.not_eq_true',Bool.or_eq_false_iff,Bool.and_eq_false_iff,Bool.not_eq_false',decide_eq_true_eq,decide_eq_false_iff_not,Bool.false_eq_true,true_iff,false_iff,iff_true,iff_false,and_true,true_and,Bool.and_true,Bool.true_and];omega)) (qU (qU (qU (qT (Ab3 _)))))) .nil
  refine J0.out ?_;refine st ?_;refine cn rfl ?_ ?_
  ·intro c2'
   have hN:suitsW p s=false:=by (rw [Bool.eq_false_iff];intro h;have h3:=(AT2.1 h).2 k hk2 hk;rw [hx,hy] at h3;rcases h3 with h3 | h3;omega;(have h4:=congrArg UInt8.toNat h3;omega))
   refine su ?_;exact Aa9 rZ (by rw [hN])
  intro c2';have hJ:p[k].toNat=63∨p[k]=s[k]:=by (rw [hx,hy];rcases c2' with h | h;(left;omega);(right;exact UInt8.toNat_inj.1 (by omega)))
  refine st ?_;refine lA ?_;exact Ac2 (by omega) (fun j h h1 h2=>by (rcases Lc j k with h4 | h4;exact kI j h4 h1 h2;have e:j=k:=(by omega);subst e;exact hJ)) rfl (zE 13 rfl rfl (zS 0 rfl (zS 1 rfl (zS 11 rfl (zS 12 rfl (Sub.nil _)))))) .nil
 intro c1';obtain rfl:k=s.length:=by omega
 refine Ls ?_;refine su ?_;refine Aa4 ?_;refine su ?_;exact Aa9 rZ (by rw [AT2.2 ⟨heq,fun j h1 h2=>kI j h2 h1 h2⟩])
theorem Cu5 (h t s:Str) (hh:h.length≤1000000) (ht:t.length≤1000000) (hs:s.length≤1000000) (W:World):CC 314 #[.agg #[.string (bs h),.string (bs t)],.string (bs s)] W (Pure (.bool (suitsE h t s)) W):=by
 refine cS func314 ?_;refine st ?_;refine zn (Lm rfl) (fun b2=>?_)
 refine Ab9 7 Ah8 (qC .nil) ?_;refine zw 0 ?_;refine zw 1 ?_;refine zv 2 rfl (Aj0 rfl Bc5) ?_;refine zw 3 ?_;refine zw 4 ?_;refine zv 5 rfl (Aj0 rfl Bc5) ?_;refine zw 6 ?_;refine zt ?_;refine zp 7 ?_;refine zd ?_;refine Ke ?_;refine Lx ?_;refine AT0 (zS 1 rfl (zS 2 rfl (zS 5 rfl (zS 6 rfl (Sub.nil _))))) (qC .nil) ?_
 apply Ak7 (J:=J0 _ _ _ _ _ _) 23 Ah8 (qC .nil)
 ·refine zw 0 ?_
  refine zw 1 ?_;refine zv 2 rfl (Kb rfl rfl (Lq _ ⟨by omega,by omega⟩)) ?_;refine zw 3 ?_;refine zv 4 rfl (Aj0 rfl Au9) ?_;refine zw 5 ?_;refine zw 6 ?_;refine Ap5 (dj:=19) rfl ?_ ?_
  ·intro g19
   have g19':=g19;clear g19;try simp only [nH] at g19'
   refine zw 7 ?_;refine zw 8 ?_;refine zw 9 ?_;refine zw 10 ?_;refine zv 11 rfl (BO7 rfl rfl Au9 (by omega)) ?_;refine zA 12 ?_;refine Xd rfl (zF rfl By1) (fun w hm=>AD2 h _ hh (by simp;omega) w) (Aa2 (qC .nil) (qC .nil) rfl ?_)
   refine zw 13 ?_;refine zw 14 ?_;refine Ap5 (dj:=27) rfl ?_ ?_
   ·intro g27
    have g27':=g27;clear g27;try simp only [nH] at g27'
    refine zw 15 ?_;refine zw 16 ?_;refine zw 17 ?_;refine zw 18 ?_;refine zv 19 rfl (Aj0 rfl Au9) ?_;refine zw 20 ?_;refine zv 21 rfl (Ad8 rfl rfl (Lq _ ⟨by omega,by omega⟩)) ?_;refine zv 22 rfl (AO6 (a:=s.length - t.length) rfl (by show some (Value.int _ _)=some (Value.int _ _);congr 2;first | omega | (exfalso;simp at g27')) Au9 (by omega)) ?_;refine zt ?_;refine zq 23 rfl (zF rfl By1) (fun w hm=>AD2 t _ ht (by simp;omega) w) ?_;refine zp 24 ?_;refine zp 25 ?_;refine zd ?_;exact Aw2  (zE 4 (v:=.bool (suitsE h t s)) rfl (by simp_all [suitsE] <;> (intros;omega)) (qU (qU (qU (qU (qU (qU (qU (Ab3 _))))))))) (Pick.refl _)
   intro g27;have g27':=g27;clear g27;try simp only [nH] at g27'
   refine zN 15 ?_;refine zN 16 ?_;refine zN 17 ?_;refine zN 18 ?_;refine zN 19 ?_;refine zN 20 ?_;refine zN 21 ?_;refine zN 22 ?_;refine zt ?_;refine zB 23 ?_;refine Xx rfl (Ab2 ?_)
   refine zp 24 ?_;refine zp 25 ?_;refine zd ?_;exact Aw2  (zE 4 (v:=.bool (suitsE h t s)) rfl (by simp_all [suitsE] <;> (intros;omega)) (qU (qU (qU (qU (qU (qU (qU (Ab3 _))))))))) (qC .nil)
  intro g19;have g19':=g19;clear g19;try simp only [nH] at g19'
  refine zN 7 ?_;refine zN 8 ?_;refine zN 9 ?_;refine zN 10 ?_;refine zN 11 ?_;refine zA 12 ?_;refine Xx rfl (Aa2 (qC .nil) (qC .nil) rfl ?_)
  refine zw 13 ?_;refine zw 14 ?_;refine Ap5 (dj:=27) rfl ?_ ?_
  ·intro g27
   have g27':=g27;clear g27;try simp only [nH] at g27'
   refine zw 15 ?_;refine zw 16 ?_;refine zw 17 ?_;refine zw 18 ?_;refine zv 19 rfl (Aj0 rfl Au9) ?_;refine zw 20 ?_;refine zv 21 rfl (Ad8 rfl rfl (Lq _ ⟨by omega,by omega⟩)) ?_;refine zv 22 rfl (AO6 (a:=s.length - t.length) rfl (by show some (Value.int _ _)=some (Value.int _ _);congr 2;first | omega | (exfalso;simp at g27')) Au9 (by omega)) ?_;refine zt ?_;refine zq 23 rfl (zF rfl By1) (fun w hm=>AD2 t _ ht (by simp;omega) w) ?_;refine zp 24 ?_;refine zp 25 ?_;refine zd ?_;exact Aw2  (zE 4 (v:=.bool (suitsE h t s)) rfl (by simp_all [suitsE] <;> (intros;omega)) (qU (qU (qU (qU (qU (qU (qU (Ab3 _))))))))) (qC .nil)
  intro g27;have g27':=g27;clear g27;try simp only [nH] at g27'
  refine zN 15 ?_;refine zN 16 ?_;refine zN 17 ?_;refine zN 18 ?_;refine zN 19 ?_;refine zN 20 ?_;refine zN 21 ?_;refine zN 22 ?_;refine zt ?_;refine zB 23 ?_;refine Xx rfl (Ab2 ?_)
  refine zp 24 ?_;refine zp 25 ?_;refine zd ?_;exact Aw2  (zE 4 (v:=.bool (suitsE h t s)) rfl (by simp_all [suitsE] <;> (intros;omega)) (qU (qU (qU (qU (qU (qU (qU (Ab3 _))))))))) (qC .nil)
 refine J0.out ?_;refine su ?_;exact rP
theorem Bg7 (s:Str) (W:World):CC 223 #[.string (bs s),.int .u8 42] W (Pure (.I (Lib.indexByte s 42)) W):=by
 refine cS func223 ?_;refine st ?_;refine lu (DI2 func264 (by kernel_rfl) (by kernel_rfl) (by kernel_rfl) (e:=Extern.BytealgIndexByte.indexByte) (by kernel_rfl) rfl (fun w=>Lib.run_indexByteString (bs s) 42 w)) ?_;exact rP
theorem Bg5 (s:Str) (W:World):CC 150 #[.string (bs s),.string (bs [42])] W (Pure (.I (Lib.indexByte s 42)) W):=by
 refine cS func150 ?_;refine csr ?_;refine vQ ?_;refine nsr ?_;refine vQ ?_;refine Xa (Aj0 rfl Au9) ?_;refine vQ ?_;refine nnx ?_;refine Lx ?_;refine Kr ?_;refine csr ?_
 iterate 3 refine vQ ?_
 refine Ac5 (dj:=19) (dp:=23) 4 rfl (fun g19=>by
  refine vQ ?_;refine vQ ?_;refine Xa (AL0 rfl rfl) ?_;refine vQ ?_;exact Ac1 (Kg rfl (qU (Ad2 rfl (by rw [g19]) (Ab3 _)))) (List.Sublist.refl _)
 ) (fun g19=>by
   iterate 3 refine nQ ?_
   refine vQ ?_;exact Ac1 (Kg rfl (qU (Ad2 rfl (by rw [g19]) (Ab3 _)))) (List.Sublist.refl _)
 ) ?_
 refine vQ ?_;refine nnx ?_;refine Ly rfl ?_ ?_
 ·intro c0
  have c0':=c0;clear c0;try simp only [nH] at c0'
  refine csr ?_;refine vQ ?_;refine nnx ?_;refine Ks ?_;refine Ad4 ?_;refine Ad1 ?_;exact Aa9 rZ (by rcases c0' with h | h;(simp at h);(subst h;rfl))
 intro c0;have c0':=c0;clear c0;try simp only [nH] at c0'
 refine csr ?_
 iterate 3 refine vQ ?_
 refine nnx ?_;refine Ly rfl ?_ (fun h=>absurd h (by simp))
 intro c1;clear c1;refine csr ?_;refine vQ ?_;refine vQ ?_;refine Xa (AA3 rfl rfl Au9 (by decide) (c:=42) rfl) ?_;refine Xe (Ab8 rfl DC3) (fun w hm=>Bg7 s w) ?_;refine vQ ?_;refine nnx ?_;refine Ks ?_;refine Ad4 ?_;refine Ad1 ?_;exact rP
theorem CV2 (s:Str) (hl:s.length≤1000000) (W:World):CC 267 #[.string (bs s),.string (bs [42])] W (Pure (match starAt s with | some i=>.tuple #[.string (bs (s.take i)),.string (bs (s.drop (i + 1))),.bool true] | none=>.tuple #[.string (bs s),.string (bs []),.bool false]) W):=by
 have hi:=Bn4 s
 cases h:starAt s with
 | some i =>
   rw [h] at hi;simp only at hi
   have hlt:=BD7 h;refine cS func267 ?_;refine st ?_;refine zc (zF rfl CS7) (fun w hm=>(by have h9:=Bg5 s w;rw [hi] at h9;exact h9)) ?_;refine Ly rfl ?_ (fun h=>absurd h (by simp))
   intro c0;clear c0;refine st ?_;refine Ab9 10 Ah8 .nil ?_;refine zv 0 rfl (Aa8 rfl) ?_;refine zv 1 rfl (Aa8 rfl) ?_;refine zv 2 rfl (BO7 rfl rfl Au9 (by omega)) ?_;refine zv 3 rfl (Aa8 rfl) ?_;refine zv 4 rfl (Aa8 rfl) ?_;refine zv 5 rfl (Aa8 rfl) ?_;refine zv 6 rfl (Aj0 rfl Au9) ?_;refine zv 7 rfl (Ah1 (a:=i) (b:=1) (i + 1) rfl rfl rfl (Ak8 (by omega))) ?_;refine zv 8 rfl (AO6 rfl rfl Au9 (by omega)) ?_;refine zv 9 rfl (Aa8 rfl) ?_;refine zt ?_;refine zp 10 ?_;refine zp 11 ?_;refine zd ?_;refine su ?_;exact Aa9 (.r3 rfl (.tmp rfl) (.tmp rfl) (.tmp rfl)) (by first | rfl | simp)
 | none =>
   rw [h] at hi;simp only at hi
   refine cS func267 ?_;refine st ?_;refine zc (zF rfl CS7) (fun w hm=>(by have h9:=Bg5 s w;rw [hi] at h9;exact h9)) ?_;refine Ly rfl (fun h=>absurd h (by simp)) ?_;intro c0;clear c0;refine su ?_;exact Aa9 (.r3 rfl (.tmp rfl) (.tmp rfl) (.tmp rfl)) (by first | rfl | simp)
theorem Cv5 (s:Str) (hl:s.length≤1000000) (W:World):CC 237 #[.string (bs s),.string (bs [42])] W (Pure (match starAt s with | some i=>.tuple #[.string (bs (s.take i)),.string (bs (s.drop (i + 1))),.bool true] | none=>.tuple #[.string (bs s),.string (bs []),.bool false]) W):=by
 have hc:=fun w=>CV2 s hl w
 cases h:starAt s with
 | some i =>
   simp only [h] at hc;refine cS func237 ?_;refine st ?_;refine zc (zF rfl CQ6) (fun w hm=>hc w) ?_;exact Aa9 (.r3 rfl (.tmp rfl) (.tmp rfl) (.tmp rfl)) (by first | rfl | simp)
 | none =>
   simp only [h] at hc;refine cS func237 ?_;refine st ?_;refine zc (zF rfl CQ6) (fun w hm=>hc w) ?_;exact Aa9 (.r3 rfl (.tmp rfl) (.tmp rfl) (.tmp rfl)) (by first | rfl | simp)
theorem Ao5 (s:Str) (hl:s.length≤1000000) (W:World):CC 169 #[.string (bs s)] W (Pure (pieceV s) W):=by
 have hc:=fun w=>Cv5 s hl w
 cases h:starAt s with
 | some i =>
   simp only [h] at hc;refine cS func169 ?_;refine st ?_;refine zc (zF rfl CR0) (fun w hm=>hc w) ?_;refine Ly rfl ?_ (fun h=>absurd h (by simp))
   intro c0;clear c0;refine st ?_;refine lv (Lr (parts:=[(0,.tmp 13),(1,.tmp 14)]) rfl CZ0 Cq5 rfl) ?_;refine lu (Lz rfl Dg1) ?_;exact Aa9 rZ (by simp [pieceV,pieceT,pieceP,h])
 | none =>
   simp only [h] at hc;refine cS func169 ?_;refine st ?_;refine zc (zF rfl CR0) (fun w hm=>hc w) ?_;refine Ly rfl (fun h=>absurd h (by simp)) ?_;intro c0;clear c0;refine st ?_;refine lu (Lz rfl Dg2) ?_;exact Aa9 rZ (by simp [pieceV,pieceT,pieceP,h])
theorem DU5:apB π 200=some (205,3,40):=by kernel_rfl
theorem Dr9:apB π 201=some (122,1,8):=by kernel_rfl
theorem Ck8:arrNB π 286=some (2,2):=by kernel_rfl
theorem DG2:Enters π 100:=eZ func100
theorem CT6:Enters π 114:=eZ func114
theorem DG0:Enters π 115:=eZ func115
theorem AO1:Enters π 118:=eZ func118
theorem Bq7:Enters π 12:=eZ func12
theorem DF5:Enters π 143:=eZ func143
theorem DF4:Enters π 159:=eZ func159
theorem DF3:Enters π 163:=eZ func163
theorem DF2:Enters π 164:=eZ func164
theorem DF1:Enters π 165:=eZ func165
theorem DF0:Enters π 167:=eZ func167
theorem CS2:Enters π 168:=eZ func168
theorem Bi5:Enters π 169:=eZ func169
theorem DE9:Enters π 170:=eZ func170
theorem DE8:Enters π 171:=eZ func171
theorem DC2:Enters π 231:=eZ func231
theorem DB8:Enters π 235:=eZ func235
theorem DB7:Enters π 236:=eZ func236
theorem Dz0:Enters π 314:=eZ func314
theorem DR9:Enters π 35:=eZ func35
theorem BK9:fieldB π 203 1=some 2:=by kernel_rfl
instance:Fld π 203 1 2:=⟨BK9⟩
theorem BK8:fieldB π 203 2=some 3:=by kernel_rfl
instance:Fld π 203 2 3:=⟨BK8⟩
theorem BK7:fieldB π 205 0=some 0:=by kernel_rfl
instance:Fld π 205 0 0:=⟨BK7⟩
theorem CN7:fieldB π 205 1=some 1:=by kernel_rfl
instance:Fld π 205 1 1:=⟨CN7⟩
theorem CN6:fieldB π 205 2=some 2:=by kernel_rfl
instance:Fld π 205 2 2:=⟨CN6⟩
theorem CN2:fieldB π 285 0=some 0:=by kernel_rfl
instance:Fld π 285 0 0:=⟨CN2⟩
theorem CN1:fieldB π 285 1=some 1:=by kernel_rfl
instance:Fld π 285 1 1:=⟨CN1⟩
theorem Bx4:fieldB π 39 0=some 0:=by kernel_rfl
instance:Fld π 39 0 0:=⟨Bx4⟩
theorem AK7:fieldB π 39 1=some 1:=by kernel_rfl
instance:Fld π 39 1 1:=⟨AK7⟩
theorem Di6:fieldB π 65 0=some 0:=by kernel_rfl
instance:Fld π 65 0 0:=⟨Di6⟩
theorem Di5:fieldB π 65 1=some 1:=by kernel_rfl
instance:Fld π 65 1 1:=⟨Di5⟩
theorem Au2 (v:Value) (w:World):(method (π.types.size + Made.depth) 356 v "pairworks/heap.suits").run π w = .ok (313,v) w:=by kernel_rfl
theorem Au1 (v:Value) (w:World):(method (π.types.size + Made.depth) 358 v "pairworks/heap.suits").run π w = .ok (314,v) w:=by kernel_rfl
theorem AT8:placesB π 203=some [(0,2),(2,1),(3,1),(4,1)]:=by kernel_rfl
theorem Cr1:placesB π 205=some [(0,1),(1,1),(2,1)]:=by kernel_rfl
theorem AC2:placesB π 285=some [(0,1),(1,1)]:=by kernel_rfl
theorem AT6:placesB π 286=some [(0,2),(2,2)]:=by kernel_rfl
theorem CD1:slB π 200=some (205,3):=by kernel_rfl
instance:Slc π 200 205 3:=⟨CD1⟩
theorem Au7:slB π 201=some (122,1):=by kernel_rfl
instance:Slc π 201 122 1:=⟨Au7⟩
theorem An4:slB π 29=some (9,1):=by kernel_rfl
instance:Slc π 29 9 1:=⟨An4⟩
theorem Bd7:slB π 36=some (65,2):=by kernel_rfl
instance:Slc π 36 65 2:=⟨Bd7⟩
theorem AZ0:slB π 37=some (165,3):=by kernel_rfl
instance:Slc π 37 165 3:=⟨AZ0⟩
theorem Bc9:tyB π 122=some (false,1):=by kernel_rfl
instance:Tyc π 122 false 1:=⟨Bc9⟩
theorem CA6:tyB π 165=some (true,3):=by kernel_rfl
instance:Tyc π 165 true 3:=⟨CA6⟩
theorem Dn8:tyB π 167=some (false,1):=by kernel_rfl
instance:Tyc π 167 false 1:=⟨Dn8⟩
theorem BD2:tyB π 200=some (false,1):=by kernel_rfl
instance:Tyc π 200 false 1:=⟨BD2⟩
theorem Bm7:tyB π 201=some (false,1):=by kernel_rfl
instance:Tyc π 201 false 1:=⟨Bm7⟩
theorem Dn5:tyB π 205=some (true,3):=by kernel_rfl
instance:Tyc π 205 true 3:=⟨Dn5⟩
theorem DK3:tyB π 281=some (false,1):=by kernel_rfl
instance:Tyc π 281 false 1:=⟨DK3⟩
theorem DK2:tyB π 283=some (false,1):=by kernel_rfl
instance:Tyc π 283 false 1:=⟨DK2⟩
theorem DK1:tyB π 285=some (true,2):=by kernel_rfl
instance:Tyc π 285 true 2:=⟨DK1⟩
theorem Cf1:tyB π 286=some (true,4):=by kernel_rfl
instance:Tyc π 286 true 4:=⟨Cf1⟩
theorem Dc0:tyB π 29=some (false,1):=by kernel_rfl
instance:Tyc π 29 false 1:=⟨Dc0⟩
theorem Db8:tyB π 36=some (false,1):=by kernel_rfl
instance:Tyc π 36 false 1:=⟨Db8⟩
theorem Bu5:tyB π 37=some (false,1):=by kernel_rfl
instance:Tyc π 37 false 1:=⟨Bu5⟩
theorem BS6:tyB π 39=some (true,2):=by kernel_rfl
instance:Tyc π 39 true 2:=⟨BS6⟩
theorem Db6:tyB π 65=some (true,2):=by kernel_rfl
instance:Tyc π 65 true 2:=⟨Db6⟩
theorem Ay2:zeroB π 122=some [.int .u64 0]:=by kernel_rfl
theorem AC9:zeroB π 165=some [.I 0,.string ⟨#[]⟩,.string ⟨#[]⟩]:=by kernel_rfl
theorem CZ9:zeroB π 167=some [.nilFunc]:=by kernel_rfl
theorem Bt9:zeroB π 203=some [.slice none 0 0,.slice none 0 0,.slice none 0 0,.slice none 0 0,.map none]:=by kernel_rfl
theorem Bt8:zeroB π 205=some [.I 0,.string ⟨#[]⟩,.string ⟨#[]⟩]:=by kernel_rfl
theorem AC8:zeroB π 285=some [.nilIface,.nilFunc]:=by kernel_rfl
theorem AJ1:zeroB π 286=some [.nilIface,.nilFunc,.nilIface,.nilFunc]:=by kernel_rfl
theorem AG1:zeroB π 65=some [.I 0,.slice none 0 0]:=by kernel_rfl
end Go.Q
namespace Go.Hp
open Go Go.Eng Go.Pw1
def visB:List Bx→List Bx
 | []=>[]
 | b::l=>if badBox b then [b] else b::visB l
theorem Bu1:∀ {l:List Bx},l.any badBox=false→visB l=l
 | [],_=>rfl
 | b::l,h=>by
   simp only [List.any_cons,Bool.or_eq_false_iff] at h;simp only [visB,h.1,Bool.false_eq_true,if_false,Bu1 h.2]
theorem Ce9:∀ {l:List Bx} {k:Nat} (hk:k < l.length),(l.take k).any badBox=false→badBox l[k]=true→visB l=l.take (k + 1)
 | b::l,0,_,_,h=>by simp at h;simp [visB,h]
 | b::l,k + 1,hk,h1,h2=>by
   simp only [List.take_succ_cons,List.any_cons,Bool.or_eq_false_iff] at h1;simp only [List.getElem_cons_succ] at h2;simp only [visB,h1.1,Bool.false_eq_true,if_false,List.take_succ_cons];rw [Ce9 (by simpa using hk) h1.2 h2]
theorem AH0 {l:List BxA} {k:Nat} (hk:k < l.length):manyX ((l.take (k + 1)).map (·.bx))=manyX ((l.take k).map (·.bx)) + l[k].bx.titles.length:=by
 rw [List.take_succ_eq_append_getElem hk];simp only [manyX,List.map_append,List.sum_append,List.map_cons,List.map_nil,List.sum_cons,List.sum_nil];omega
theorem BV9 {l:List BxA} (h:∀ x∈l,x.bx.titles.length≤1000):∀ k,manyX ((l.take k).map (·.bx))≤k * 1000
 | 0=>by simp [manyX]
 | k + 1=>by
   have ih:=BV9 h k
   rcases Lc k l.length with hk | hk
   · rw [AH0 hk]
     have h2:=h _ (List.getElem_mem hk);rw [Nat.add_mul,Nat.one_mul];exact Nat.add_le_add ih h2
   · have e1:l.take (k + 1)=l:=List.take_of_length_le (by omega)
     have e2:l.take k=l:=List.take_of_length_le hk;rw [e2] at ih;rw [e1,Nat.add_mul];exact Kt ih (Nat.le_add_right _ _)
theorem Sl.mono1 {W w:World} {p:OA} {b o sz:Nat} {xs:List (LV)} {k:Nat} {ob:Obj} {news:Blks} (h:Sl W p b o sz xs) (hz:0 < sz) (hm:Mem W [(k,ob)] news w) (hc:xs ≠ []→b ≠ k):Sl w p b o sz xs :=
 h.mono' hz hm fun hx ob' hin=>by
  rcases List.mem_cons.1 hin with h1 | h1
  · exact hc hx (Prod.mk.inj h1).1
  · cases h1
theorem BT2 {l:List Str} (h:strsV l ≠ []):l ≠ []:=by rintro rfl;exact h rfl
structure TSmall (x:BxA):Prop where
 n:x.bx.titles.length≤1000
 t:∀ t∈x.bx.titles,t.length≤1000000
structure MSm (m:MxA):Prop where
 bx:m.bxs.length≤1000
 cd:m.cards.length≤1000
 ti:∀ x∈m.bxs,TSmall x
 tx:∀ t∈m.cards,t.number.length≤1000000∧t.text.length≤1000000
theorem Dw1 {W w:World} {chg news:Blks} {b b':Nat} {c c':Array Value} {T T':TypeId} {f f':Nat×Nat} (hm:Mem W chg news w) (h:(b,.cells c T f)∈chg++news) (h':(b',.cells c' T' f')∈chg++news) (hT:T ≠ T'):b ≠ b':=fun e=>by
 have h1:=hm.at h;have h2:=hm.at h';rw [e,h2] at h1;simp at h1
 exact hT h1.2.1.symm
theorem CI8 {m:MxA} (h:(m.bxs.length:Int)≤4∧(m.cards.length:Int)≤8):((!(m.bxs.map (·.bx)).any badBox && decide (((manyX (visB (m.bxs.map (·.bx))):Nat):Int)≤12)) && !m.cards.any badCard)=mixedX m.pl:=by
 have n1:m.bxs.length≤4:=by omega
 have n2:m.cards.length≤8:=by omega
 have h12:∀ x:Nat,decide (((x:Nat):Int)≤12)=decide (x≤12):=fun x=>decide_eq_decide.2 (by omega)
 rcases Bool.eq_false_or_eq_true ((m.bxs.map (·.bx)).any badBox) with hb | hb
 · unfold mixedX MxA.pl
   simp only [hb];simp
 · unfold mixedX MxA.pl
   rw [Bu1 hb];simp only [hb,List.length_map,n1,n2,h12];simp
theorem Dg6 {m:MxA} (h:4 < (m.bxs.length:Int)∨8 < (m.cards.length:Int)):mixedX m.pl=false:=by
 rw [Bool.eq_false_iff];intro h2;unfold mixedX at h2;simp only [Bool.and_eq_true] at h2;obtain ⟨⟨⟨⟨a1,a2⟩,_⟩,_⟩,_⟩:=h2;have a3:(m.bxs.map (·.bx)).length≤4:=of_decide_eq_true a1;have a4:m.cards.length≤8:=of_decide_eq_true a2;rw [List.length_map] at a3;omega
end Go.Hp
namespace Go.Q
open Go Go.Eng Go.Hp Go.Pw1
theorem BJ3 (l:List Str) (hsm:∀ t∈l,t.length≤1000000) (hl:l.length≤1000) (q:OA) (b o cap:Nat) (W:World) (hS:Sl W q b o 1 (strsV l)) :
  CC 231 #[.slice q l.length cap,.func (.func 159) #[] #[]] W (Pure (.I (idxF badTitle l)) W):=by
 refine cS func231 ?_;refine su ?_;refine Ac8 (l.length) (fun k q=>(8,.I (k:Int))::q) (fun _=>_) (fun _=>[]) (fun k=>(l.take k).any badTitle=false) (by simp) rfl (zE 8 rfl rfl (zS 0 rfl (zS 1 rfl (zS 7 rfl (Sub.nil _))))) .nil ?_;intro k kN kI;refine st ?_;refine cn rfl ?_ ?_
 ·intro c0'
  have hk:k < l.length:=by omega
  refine st ?_;refine lv (Aa3 rfl rfl An4 (by omega) (by omega) (hS.ptrM hk)) ?_;refine lv (Aa5 rfl (fun w hm=>hS.loadM1 (by decide) hm (by simp) AN0 hk (v:=.string (bs l[k])) rfl)) ?_;refine Xe (Ab4 rfl rfl DF4) (fun w hm=>Bl9 _ (hsm _ (List.getElem_mem hk)) w) ?_;refine st ?_;refine cn rfl ?_ ?_
  ·intro c1'
   refine su ?_;exact Aa9 rZ (by rw [AE2 badTitle l k hk kI c1'])
  intro c1';refine st ?_;refine lA ?_;exact Ac2 (by omega) (AA1 hk kI c1') rfl (zE 8 rfl rfl (zS 0 rfl (zS 1 rfl (zS 7 rfl (Sub.nil _))))) .nil
 intro c0';obtain rfl:k=l.length:=by omega
 rw [List.take_length] at kI;refine Ls ?_;refine su ?_;refine Aa4 ?_;refine su ?_;exact Aa9 rZ (by rw [Ax0 badTitle l kI])
theorem Bj0 (l:List Str) (hsm:∀ t∈l,t.length≤1000000) (hl:l.length≤1000) (q:OA) (b o cap:Nat) (W:World) (hS:Sl W q b o 1 (strsV l)) :
  CC 164 #[.slice q l.length cap,.func (.func 159) #[] #[]] W (Pure (.bool (l.any badTitle)) W):=by
 refine cS func164 ?_;refine st ?_;refine zc (zF rfl DC2) (fun w hm=>BJ3 l hsm hl q b o cap w (hS.mono (by decide) hm (by simp))) ?_;exact Aa9 rZ (by rw [← AK6])
theorem BJ2 (l:List Tn) (hsm:∀ t∈l,t.number.length≤1000000∧t.text.length≤1000000) (hl:l.length≤1000) (q:OA) (b o cap:Nat) (W:World) (hS:Sl W q b o 3 (l.map Tn.cells)) :
  CC 236 #[.slice q l.length cap,.func (.func 165) #[] #[]] W (Pure (.I (idxF badCard l)) W):=by
 refine cS func236 ?_;refine su ?_;refine Ac8 (l.length) (fun k q=>(8,.I (k:Int))::q) (fun _=>_) (fun _=>[]) (fun k=>(l.take k).any badCard=false) (by simp) rfl (zE 8 rfl rfl (zS 0 rfl (zS 1 rfl (zS 7 rfl (Sub.nil _))))) .nil ?_;intro k kN kI;refine st ?_;refine cn rfl ?_ ?_
 ·intro c0'
  have hk:k < l.length:=by omega
  refine st ?_;refine lv (Aa3 rfl rfl AZ0 (by omega) (by omega) (hS.ptrM hk)) ?_;refine lv (Aa5 rfl (fun w hm=>hS.loadM (by decide) hm (by simp) CA6 hk)) ?_;refine Xe (Ab4 rfl rfl DF1) (fun w hm=>BA6 _ (hsm _ (List.getElem_mem hk)) w) ?_;refine st ?_;refine cn rfl ?_ ?_
  ·intro c1'
   refine su ?_;exact Aa9 rZ (by rw [AE2 badCard l k hk kI c1'])
  intro c1';refine st ?_;refine lA ?_;exact Ac2 (by omega) (AA1 hk kI c1') rfl (zE 8 rfl rfl (zS 0 rfl (zS 1 rfl (zS 7 rfl (Sub.nil _))))) .nil
 intro c0';obtain rfl:k=l.length:=by omega
 rw [List.take_length] at kI;refine Ls ?_;refine su ?_;refine Aa4 ?_;refine su ?_;exact Aa9 rZ (by rw [Ax0 badCard l kI])
theorem AI1 (l:List Tn) (hsm:∀ t∈l,t.number.length≤1000000∧t.text.length≤1000000) (hl:l.length≤1000) (q:OA) (b o cap:Nat) (W:World) (hS:Sl W q b o 3 (l.map Tn.cells)) :
  CC 168 #[.slice q l.length cap,.func (.func 165) #[] #[]] W (Pure (.bool (l.any badCard)) W):=by
 refine cS func168 ?_;refine st ?_;refine zc (zF rfl DB7) (fun w hm=>BJ2 l hsm hl q b o cap w (hS.mono (by decide) hm (by simp))) ?_;exact Aa9 rZ (by rw [← AK6])
theorem BO1 (x:BxA) (hx:TSmall x) (n:Nat) (hn:n≤10000000) (bM bF:Nat) (W:World) (h4:W.heap[bM]? = some (.cells [.I (n:Int)].toArray 3)) (h3:W.heap[bF]? = some (.cells [.func (.func 159) #[] #[]].toArray 167)) (hne:bF ≠ bM)
  (hT:TOk W x) (hb:x.bx.titles ≠ []→x.b ≠ bM) :
  CC 163 #[.agg x.cells.toArray,.pointer (some ⟨bM,0,none⟩),.pointer (some ⟨bF,0,none⟩)] W (TurnsX bM (.cells [.I ((n + x.bx.titles.length:Nat):Int)].toArray 3) (fun _:Unit=>.bool (badBox x.bx)) (fun _=>True) W):=by
 have hx1:=hx.n;refine Af9 h4 func163 rfl rfl ?_;refine st ?_;refine zn (Lm rfl) (fun b3=>?_)
 refine lv (Ah1 (a:=n) (b:=x.bx.titles.length) (n + x.bx.titles.length) rfl rfl rfl (Ak8 (by omega))) ?_;refine Xs (Ab7 rfl rfl .here Ae0 rfl rfl) ?_;refine su ?_;refine zc (zF rfl BZ2) (fun w hm=>AE3 _ _ _ w) ?_
 refine Ac5 (dj:=14) (dp:=19) 5 rfl (fun g14=>by
  refine su ?_;refine lv (Aa0 rfl h3 (by simp [hne]) Dn8 rfl) ?_;refine Xe (zF rfl DF2) (fun w hm=>Bj0 x.bx.titles hx.t hx1 x.q x.b x.o x.cap w (Sl.mono1 hT (by decide) hm (fun h=>hb (BT2 h)))) ?_;refine sv ?_;exact zs g14
 ) (fun g14=>by
   iterate 4 refine nQ ?_
   refine sv ?_;exact zs g14
 ) ?_
 refine su ?_;exact AS7 () trivial rZ (by simp [badBox])
theorem BJ5 (l:List BxA) (hsm:∀ x∈l,TSmall x) (hl:l.length≤1000) (q:OA) (b o cap bM bF:Nat) (W:World) (h4:W.heap[bM]? = some (.cells [.I ((0:Nat):Int)].toArray 3)) (h3:W.heap[bF]? = some (.cells [.func (.func 159) #[] #[]].toArray 167)) (hne:bF ≠ bM)
  (hS:Sl W q b o 2 (l.map BxA.cells)) (hb:l ≠ []→b ≠ bM) (hT:∀ x∈l,TOk W x) (hTb:∀ x∈l,x.bx.titles ≠ []→x.b ≠ bM) :
  CC 235 #[.slice q l.length cap,.func (.func 163) #[] #[.pointer (some ⟨bM,0,none⟩),.pointer (some ⟨bF,0,none⟩)]] W
   (TurnsX bM (.cells [.I ((manyX (visB (l.map (·.bx))):Nat):Int)].toArray 3) (fun _:Unit=>.I (idxF badBox (l.map (·.bx)))) (fun _=>True) W):=by
 have hml:=BV9 fun x hx=>(hsm x hx).n
 refine Af9 h4 func235 rfl rfl ?_;refine su ?_;refine Ac8 (l.length) (fun k q=>(8,.I (k:Int))::q) (fun k=>[(bM,.cells [.I ((manyX ((l.take k).map (·.bx)):Nat):Int)].toArray 3)]) (fun _=>[]) (fun k=>((l.take k).map (·.bx)).any badBox=false) (by simp) rfl (zE 8 rfl rfl (zS 0 rfl (zS 1 rfl (zS 7 rfl (Sub.nil _))))) .nil ?_;intro k kN kI;refine st ?_;refine cn rfl ?_ ?_
 ·intro c0'
  have hk:k < l.length:=by omega
  obtain ⟨x,hx⟩:∃ x,l[k]=x:=⟨_,rfl⟩;have hxm:x∈l:=hx ▸ List.getElem_mem hk;have hmk:=hml k;refine st ?_;refine lv (Aa3 rfl rfl Bd7 (by omega) (by omega) (hS.ptrM hk)) ?_;refine lv (Aa5 rfl (fun w hm=>(Sl.mono1 hS (by decide) hm (fun h=>hb (by rintro rfl;exact h rfl))).loadX (by decide) (Mem.refl w) (by simp) Db6 hk hx)) ?_;refine AM4 (Ab4 rfl rfl DF3) rfl rfl rfl .here (fun w hm=>BO1 x (hsm x hxm) _ (by omega) bM bF w (hm.at mm0) (hm.old_at h3 (by simp [hne])) hne (Sl.mono1 (hT x hxm) (by decide) hm (fun h=>hTb x hxm (BT2 h))) (hTb x hxm)) (fun x16 hx16=>?_)
  refine st ?_;refine cn rfl ?_ ?_
  ·intro c1'
   refine st ?_;refine Ks ?_;refine Ad4 ?_;refine Ad1 ?_;refine Ad1 ?_;refine Ad4 ?_;refine Ad1 ?_;rw [List.map_take] at kI;have hkm:k < (l.map (·.bx)).length:=by simpa using hk
   have hbk:badBox (l.map (·.bx))[k]=true:=by simp [hx,c1']
   have hv:manyX (visB (l.map (·.bx)))=manyX ((l.take k).map (·.bx)) + x.bx.titles.length:=by rw [Ce9 hkm kI hbk,← List.map_take,AH0 hk,hx]
   rw [hv];exact AS7 () trivial rZ (by rw [AE2 badBox _ k hkm kI hbk])
  intro c1';refine st ?_;refine lA ?_;exact Ac2 (by omega) (by rw [List.map_take] at kI ⊢;exact AA1 (by simpa using hk) kI (by simp [hx,c1'])) (by rw [AH0 hk,hx]) (zE 8 rfl rfl (zS 0 rfl (zS 1 rfl (zS 7 rfl (Sub.nil _))))) .nil
 intro c0';obtain rfl:k=l.length:=by omega
 rw [List.take_length] at kI;simp only [List.take_length];refine Ls ?_;refine su ?_;refine Aa4 ?_;refine st ?_;refine Ks ?_;rw [Bu1 kI];exact AS7 () trivial rZ (by rw [Ax0 badBox _ kI])
theorem Bj1 (l:List BxA) (hsm:∀ x∈l,TSmall x) (hl:l.length≤1000) (q:OA) (b o cap bM bF:Nat) (W:World) (h4:W.heap[bM]? = some (.cells [.I ((0:Nat):Int)].toArray 3)) (h3:W.heap[bF]? = some (.cells [.func (.func 159) #[] #[]].toArray 167)) (hne:bF ≠ bM)
  (hS:Sl W q b o 2 (l.map BxA.cells)) (hb:l ≠ []→b ≠ bM) (hT:∀ x∈l,TOk W x) (hTb:∀ x∈l,x.bx.titles ≠ []→x.b ≠ bM) :
  CC 167 #[.slice q l.length cap,.func (.func 163) #[] #[.pointer (some ⟨bM,0,none⟩),.pointer (some ⟨bF,0,none⟩)]] W
   (TurnsX bM (.cells [.I ((manyX (visB (l.map (·.bx))):Nat):Int)].toArray 3) (fun _:Unit=>.bool ((l.map (·.bx)).any badBox)) (fun _=>True) W):=by
 refine Af9 h4 func167 rfl rfl ?_;refine st ?_;refine AM4 (zF rfl DB8) rfl rfl rfl .here (fun w hm=>BJ5 l hsm hl q b o cap bM bF w (hm.at mm0) (hm.old_at h3 (by simp [hne])) hne (Sl.mono1 hS (by decide) hm (fun h=>hb (by rintro rfl;exact h rfl))) hb (fun x hx=>Sl.mono1 (hT x hx) (by decide) hm (fun h=>hTb x hx (BT2 h))) hTb) (fun x7 hx7=>?_)
 refine su ?_;exact AS7 () trivial rZ (by rw [← AK6])
theorem AQ8 (m:MxA) (hsm:MSm m) (W:World) (hM:MOk W m):CC 114 #[m.v] W (Pure (.bool (mixedX m.pl)) W):=by
 have hs1:=hsm.bx;have hs2:=hsm.cd;refine cS func114 ?_;refine csr ?_;refine Xg (Lm rfl) (fun b1=>?_)
 refine vQ ?_;refine nsr ?_;refine Xg (Lp CZ9) (fun b3=>?_)
 refine sQ .here ?_;refine nsr ?_;refine Xg (Lp Al2) (fun b4=>?_)
 refine sQ .here ?_;refine nsr ?_;refine vQ ?_;refine vQ ?_;refine nsr ?_;refine vQ ?_;refine nsr ?_;refine Xa (Lo rfl Bx4) ?_;refine Xa (Aa6 rfl mm2 Db8 rfl) ?_;refine Xa (Ae3 rfl Bd7) ?_;refine vQ ?_;refine vQ ?_
 refine Ab0 (dj:=12) (dp:=17) 5 rfl (fun g12=>by
  refine Xa (Lo rfl AK7) ?_;refine Xa (Aa6 rfl mm2 Bu5 rfl) ?_;refine Xa (Ae3 rfl AZ0) ?_;refine vQ ?_;refine vQ ?_;exact Ac1 (Kg rfl (qU (qS (Ad2 rfl (by rw [g12]) (Ab3 _))))) (List.Sublist.refl _)
 ) (fun g12=>by
   iterate 4 refine nQ ?_
   refine vQ ?_;exact Ac1 (Kg rfl (qU (qS (Ad2 rfl (by rw [g12]) (Ab3 _))))) (List.Sublist.refl _)
 ) ?_
 refine vQ ?_;refine BP8 (dj:=18) rfl ?_ ?_
 ·intro g18
  have g18':=g18;clear g18;try simp only [nH] at g18'
  refine Xa (Lo rfl Bx4) ?_;refine Xa (Aa6 rfl mm2 Db8 rfl) ?_;refine vQ ?_;refine Cx0 (Ab8 rfl DF0) rfl rfl rfl .here (fun w hm=>Bj1 m.bxs hsm.ti hs1 m.q m.b m.o m.cap b4 b3 w (hm.at mm0) (hm.at mm1) (Dw1 hm mm1 mm0 (by decide)) (hM.bx.mono (by decide) hm (by simp)) (fun h=>hM.bx.ne (by decide) hm mm0 (by simpa using h)) (fun x hx=>(hM.ti x hx).mono (by decide) hm (by simp)) (fun x hx h=>(hM.ti x hx).ne (by decide) hm mm0 (by simpa [strsV] using h))) (fun x22 hx22=>?_)
  iterate 3 refine vQ ?_
  refine Ab0 (dj:=25) (dp:=28) 3 rfl (fun g25=>by
   refine Xa (Aa6 rfl mm0 Ae0 rfl) ?_;refine vQ ?_;refine vQ ?_;exact Ac1 (Kg rfl (qT (qS (Ad2 rfl (by rw [g25]) (Ab3 _))))) (List.Sublist.refl _)
  ) (fun g25=>by
    refine nQ ?_;refine nQ ?_;refine vQ ?_;exact Ac1 (Kg rfl (qT (qS (Ad2 rfl (by rw [g25]) (Ab3 _))))) (List.Sublist.refl _)
  ) ?_
  refine vQ ?_
  refine Ab0 (dj:=29) (dp:=35) 6 rfl (fun g29=>by
   refine Xa (Lo rfl AK7) ?_;refine Xa (Aa6 rfl mm2 Bu5 rfl) ?_;refine vQ ?_;refine Xe (Ab8 rfl CS2) (fun w hm=>AI1 m.cards hsm.tx hs2 m.q2 m.b2 m.o2 m.cap2 w (hM.cd.mono (by decide) hm (by simp))) ?_;refine vQ ?_;refine vQ ?_;exact Ac1 (Kg rfl (qU (qT (Ad2 rfl (by rw [g29]) (Ab3 _))))) (List.Sublist.refl _)
  ) (fun g29=>by
    iterate 5 refine nQ ?_
    refine vQ ?_;exact Ac1 (Kg rfl (qU (qT (Ad2 rfl (by rw [g29]) (Ab3 _))))) (List.Sublist.refl _)
  ) ?_
  refine vQ ?_;refine nnx ?_;refine Ks ?_;exact Aa9 rZ (by rw [← CI8 g18'])
 intro g18;have g18':=g18;clear g18;try simp only [nH] at g18'
 iterate 5 refine nQ ?_
 refine vQ ?_;refine vQ ?_
 refine Ab0 (dj:=25) (dp:=28) 3 rfl (fun g25=>by
  refine Xa (Aa6 rfl mm0 Ae0 rfl) ?_;refine vQ ?_;refine vQ ?_;exact Ac1 (Kg rfl (qT (qS (Ad2 rfl (by rw [g25]) (Ab3 _))))) (List.Sublist.refl _)
 ) (fun g25=>by
   refine nQ ?_;refine nQ ?_;refine vQ ?_;exact Ac1 (Kg rfl (qT (qS (Ad2 rfl (by rw [g25]) (Ab3 _))))) (List.Sublist.refl _)
 ) ?_
 refine vQ ?_
 refine Ab0 (dj:=29) (dp:=35) 6 rfl (fun g29=>by
  refine Xa (Lo rfl AK7) ?_;refine Xa (Aa6 rfl mm2 Bu5 rfl) ?_;refine vQ ?_;refine Xe (Ab8 rfl CS2) (fun w hm=>AI1 m.cards hsm.tx hs2 m.q2 m.b2 m.o2 m.cap2 w (hM.cd.mono (by decide) hm (by simp))) ?_;refine vQ ?_;refine vQ ?_;exact Ac1 (Kg rfl (qU (qT (Ad2 rfl (by rw [g29]) (Ab3 _))))) (List.Sublist.refl _)
 ) (fun g29=>by
   iterate 5 refine nQ ?_
   refine vQ ?_;exact Ac1 (Kg rfl (qU (qT (Ad2 rfl (by rw [g29]) (Ab3 _))))) (List.Sublist.refl _)
 ) ?_
 refine vQ ?_;refine nnx ?_;refine Ks ?_;exact Aa9 rZ (by rw [Dg6 g18'];simp)
end Go.Q
namespace Go.Hp
open Go Go.Eng Go.Pw1
def orL (l:List Nat):Nat:=l.foldl (· ||| ·) 0
theorem De9 (l:List Nat) (a:Nat):orL (l++[a])=orL l ||| a:=by simp [orL]
theorem DM5 {n:Nat}:∀ (l:List Nat),(∀ a∈l,a < 2 ^ n)→orL l < 2 ^ n:=by
 intro l
 have key:∀ (l:List Nat) (z:Nat),z < 2 ^ n→(∀ a∈l,a < 2 ^ n)→l.foldl (· ||| ·) z < 2 ^ n:=by
  intro l
  induction l with
  | nil=>intro z hz _;exact hz
  | cons a l ih=>intro z hz h;exact ih _ (Lj hz (h a (by simp))) (fun b hb=>h b (List.mem_cons_of_mem _ hb))
 exact key l 0 (Li n)
def setsV (l:List Nat):List (LV):=l.map fun (x:Nat)=>[.int .u64 (x:Int)]
theorem AR6 {t:Tn} {es:List En} {k:Nat} (hk:k < es.length) {x:En} (hx:es[k]=x):fitsL t 0 (es.take (k + 1))=fitsL t 0 (es.take k) ||| (if fitX t x then 2 ^ k else 0):=by
 rw [List.take_succ_eq_append_getElem hk,Bq0,hx];simp [Nat.min_eq_left (Nat.le_of_lt hk)]
end Go.Hp
namespace Go.Q
open Go Go.Eng Go.Hp Go.Pw1
theorem BS4 (l:List Nat) (hlt:∀ a∈l,a < 2 ^ 12) (hl:l.length≤1000) (q:OA) (b o cap:Nat) (W:World) (hS:Sl W q b o 1 (setsV l)):CC 118 #[.slice q l.length cap] W (Pure (.int .u64 ((orL l:Nat):Int)) W):=by
 refine cS func118 ?_;refine su ?_;refine Ac8 (l.length) (fun k q=>(7,.I (k:Int))::(2,.int .u64 ((orL (l.take k):Nat):Int))::q) (fun _=>_) (fun _=>[]) (fun _=>True) trivial rfl (zE 7 rfl rfl (zE 2 rfl rfl (zS 5 rfl (zS 6 rfl (Sub.nil _))))) .nil ?_;intro k kN kI;clear kI;refine st ?_;refine cn rfl ?_ ?_
 ·intro c0'
  have hk:k < l.length:=by omega
  obtain ⟨x,hx⟩:∃ x,l[k]=x:=⟨_,rfl⟩;have h1:=hlt x (hx ▸ List.getElem_mem hk);have h2:=DM5 (l.take k) (fun a ha=>hlt a (List.mem_of_mem_take ha));have h3:=Lj h2 h1;refine st ?_;refine lv (Aa3 rfl rfl Au7 (by omega) (by omega) (hS.ptrM hk)) ?_;refine lv (Aa5 rfl (fun w hm=>hS.loadM1 (by decide) hm (by simp) Bc9 hk (v:=.int .u64 (x:Int)) (by simp [hx]))) ?_;refine lv (Val.or (a:=orL (l.take k)) (b:=x) rfl rfl (by show _ < 18446744073709551616;omega) (by show _ < 18446744073709551616;omega) (u64_in (by omega))) ?_;refine lA ?_;exact Ac2 (by omega) trivial rfl (zE 7 rfl rfl (zE 2 rfl (by rw [List.take_succ_eq_append_getElem hk,De9,hx]) (zS 5 rfl (zS 6 rfl (Sub.nil _))))) .nil
 intro c0';obtain rfl:k=l.length:=by omega
 simp only [List.take_length];refine Ls ?_;refine su ?_;refine Aa4 ?_;refine su ?_;exact rP
theorem Al3 (a c:Nat) (ha:a < 2 ^ 12) (hc:c < 2 ^ 12) (b:Nat) (W:World) (h:W.heap[b]? = some (.cells [.int .u64 (a:Int),.int .u64 (c:Int)].toArray 122)):CC 118 #[.slice (some ⟨b,0,none⟩) 2 2] W (Pure (.int .u64 ((a ||| c:Nat):Int)) W):=by
 have h1:=BS4 [a,c] (by intro x hx;rcases List.mem_cons.1 hx with rfl | hx;exact ha;cases List.mem_singleton.1 hx;exact hc) (by simp) (some ⟨b,0,none⟩) b 0 2 W (Sl.row1 h);have e:orL [a,c]=a ||| c:=by simp [orL]
 rw [e] at h1;exact h1
theorem Bh1 (s i:Nat) (hs:s < 2 ^ 12) (hi:i≤60) (W:World):CC 117 #[.int .u64 (s:Int),.I (i:Int)] W (Pure (.bool (s.testBit i)) W):=by
 have h1:=Lh s i;have h2:=Lg (n:=s >>> i) (m:=1);refine cS func117 ?_;refine st ?_;refine lv (Aj9 (a:=s) (b:=i) rfl rfl (by show i≤64;omega)) ?_;refine lu (Ku (a:=s >>> i) (b:=1) rfl rfl (by show _ < 18446744073709551616;omega) (by decide) (u64_in (by omega))) ?_;exact Aa9 rZ (by refine congrArg Value.bool ?_;rw [Nat.testBit_eq_decide_div_mod_eq,← Nat.shiftRight_eq_div_pow,decide_eq_decide,Nat.and_one_is_mod];omega)
theorem Cu2 (x:En) (W:World):CC 170 #[.agg x.cells.toArray] W (Pure (.string (bs x.number)) W):=by
 refine cS func170 ?_;refine st ?_;refine zn (Lm rfl) (fun b1=>?_)
 exact rP
theorem Cu1 (x:En) (W:World):CC 171 #[.agg x.cells.toArray] W (Pure (.string (bs x.title)) W):=by
 refine cS func171 ?_;refine st ?_;refine zn (Lm rfl) (fun b1=>?_)
 exact rP
theorem Bd2 (p s:Str) (hp:p.length≤1000000) (hs:s.length≤1000000) (W:World):CC (pieceF p) #[pieceP p,.string (bs s)] W (Pure (.bool (suitsX p s)) W):=by
 unfold pieceF pieceP suitsX
 cases h:starAt p with
 | some i=>exact Cu5 (p.take i) (p.drop (i + 1)) s (by simp;omega) (by simp;omega) hs W
 | none=>exact AD2 p s hp hs W
theorem AX6 {r:Regs} {x:Operand} {p:Str} {xs:List Operand} {vs:LV} {ats:Array TypeId} {dst:Option Tmp} {gd:Option (Nat×Bool)} {ty:TypeId} {pos:String} {after:Array Edge} (hv:rev r x=some (pieceV p)) (hx:revs r xs=some vs) :
  IsCall π r { dst,op:=.call { callee:=.invoke x "pairworks/heap.suits",args:=xs.toArray,argTypes:=ats },type:=ty,pos,after,guard:=gd } (pieceF p) (pieceP p::vs).toArray:=by
 unfold pieceV pieceT pieceP at hv;unfold pieceF pieceP
 cases h:starAt p with
 | some i =>
   rw [h] at hv;exact Ag1 hv hx (fun w=>Au1 _ w) Dz0
 | none =>
   rw [h] at hv;exact Ag1 hv hx (fun w=>Au2 _ w) By1
theorem CO8 (t:Tn) (ht:t.number.length≤1000000∧t.text.length≤1000000) (es:List En) (hes:es.length≤12) (hen:∀ x∈es,x.number.length≤1000000∧x.title.length≤1000000) (bh:Nat) (v0 v1 v3 v4:Value) (qe:OA) (be ce:Nat) (W:World)
  (hv:W.heap[bh]? = some (.cells [v0,v1,.slice qe es.length ce,v3,v4].toArray 203)) (hS:Sl W qe be 0 3 (es.map En.cells)) :
  CC 115 #[.pointer (some ⟨bh,0,none⟩),.agg t.cells.toArray] W (Pure (.int .u64 ((fitsL t 0 es:Nat):Int)) W):=by
 refine cS func115 ?_;refine st ?_;refine zn (Lm rfl) (fun b3=>?_)
 refine Kc ?_;refine Lx ?_
 apply Ak7 (J:=J1 _ _ _ _ _ _) 10 Ah8 (qC .nil)
 ·refine zw 0 ?_
  refine zw 1 ?_;refine zw 4 ?_;refine zw 5 ?_;refine Af7 (rs:=[2,9]) (by kernel_rfl) (by simp) (by kernel_rfl) (fun m hm=>?_)
  simp only [List.mem_cons,List.not_mem_nil,or_false] at hm
  rcases hm with rfl | rfl
  ·refine Xd rfl (zF rfl Bi5) (fun w hm=>Ao5 t.number ht.1 w) (Aa2 (qC .nil) (qC .nil) rfl ?_)
   refine zv 3 rfl (Lr (parts:=[(0,.tmp 12),(1,.func 170)]) rfl AC8 AC2 rfl) ?_;refine Af7 (rs:=[6,9]) (by kernel_rfl) (by simp) (by kernel_rfl) (fun m hm=>?_)
   simp only [List.mem_cons,List.not_mem_nil,or_false] at hm
   rcases hm with rfl | rfl
   ·refine Xd rfl (zF rfl Bi5) (fun w hm=>Ao5 t.text ht.2 w) (Aa2 (qC .nil) (qC .nil) rfl ?_)
    refine zv 7 rfl (Lr (parts:=[(0,.tmp 16),(1,.func 171)]) rfl AC8 AC2 rfl) ?_;refine zv 8 rfl (Lr (parts:=[(0,.tmp 13),(1,.tmp 17)]) rfl AJ1 AT6 rfl) ?_;refine zA 9 ?_;refine Xf rfl (Lp AJ1) (fun b5=>(Aa2 (qE .nil) (qD .nil) rfl ?_))
    refine zt ?_;refine zB 10 ?_;refine Xr rfl (Lt rfl rfl .here Cf1 rfl rfl) (Ab2 ?_)
    refine zd ?_;exact Af1 b5 (Ab3 _) (Pick.refl _)
   refine Xf rfl (Lp AJ1) (fun b5=>(Aa2 (qE .nil) (qD .nil) rfl ?_))
   refine zA 6 ?_;refine Xd rfl (zF rfl Bi5) (fun w hm=>Ao5 t.text ht.2 w) (Aa2 (qE .nil) (qE .nil) rfl ?_)
   refine zv 7 rfl (Lr (parts:=[(0,.tmp 16),(1,.func 171)]) rfl AC8 AC2 rfl) ?_;refine zv 8 rfl (Lr (parts:=[(0,.tmp 13),(1,.tmp 17)]) rfl AJ1 AT6 rfl) ?_;refine zt ?_;refine zB 10 ?_;refine Xr rfl (Lt rfl rfl .here Cf1 rfl rfl) (Ab2 ?_)
   refine zd ?_;exact Af1 b5 (zS 5 rfl (zS 18 rfl (zS 17 rfl (zS 16 rfl (zS 13 rfl (zS 12 rfl (zS 15 rfl (zS 14 rfl (zS 11 rfl (zS 10 rfl (qU (qU (qT (Ab3 _)))))))))))))) (qE .nil)
  refine Xf rfl (Lp AJ1) (fun b5=>(Aa2 (qE .nil) (qD .nil) rfl ?_))
  refine zA 2 ?_;refine Xd rfl (zF rfl Bi5) (fun w hm=>Ao5 t.number ht.1 w) (Aa2 (qE .nil) (qE .nil) rfl ?_)
  refine zv 3 rfl (Lr (parts:=[(0,.tmp 12),(1,.func 170)]) rfl AC8 AC2 rfl) ?_;refine zA 6 ?_;refine Xd rfl (zF rfl Bi5) (fun w hm=>Ao5 t.text ht.2 w) (Aa2 (qE .nil) (qE .nil) rfl ?_)
  refine zv 7 rfl (Lr (parts:=[(0,.tmp 16),(1,.func 171)]) rfl AC8 AC2 rfl) ?_;refine zv 8 rfl (Lr (parts:=[(0,.tmp 13),(1,.tmp 17)]) rfl AJ1 AT6 rfl) ?_;refine zt ?_;refine zB 10 ?_;refine Xr rfl (Lt rfl rfl .here Cf1 rfl rfl) (Ab2 ?_)
  refine zd ?_;exact Af1 b5 (zS 5 rfl (zS 18 rfl (zS 17 rfl (zS 16 rfl (zS 13 rfl (zS 12 rfl (zS 15 rfl (zS 14 rfl (zS 11 rfl (zS 10 rfl (qU (qU (qT (Ab3 _)))))))))))))) (qE .nil)
 refine J1.out (fun b5=>?_)
 refine st ?_;refine RunC.label ?_;refine su ?_;refine lu (Aa0 rfl hv (by simp) BD2 rfl) ?_;refine Ac8 (es.length) (fun k q=>(24,.I (k:Int))::(4,.int .u64 ((fitsL t 0 (es.take k):Nat):Int))::q) (fun _=>_) (fun _=>[]) (fun _=>True) trivial rfl (zE 24 rfl rfl (zE 4 rfl rfl (zS 3 rfl (zS 5 rfl (zS 22 rfl (zS 23 rfl (Sub.nil _))))))) (qE .nil) ?_;intro k kN kI;clear kI;refine st ?_;refine cn rfl ?_ ?_
 ·intro c0'
  have hk:k < es.length:=by omega
  obtain ⟨x,hx⟩:∃ x,es[k]=x:=⟨_,rfl⟩;have hxs:=hen x (hx ▸ List.getElem_mem hk);have h1:=Cj0 t (es.take k) 0;rw [List.length_take,Nat.zero_add,Nat.min_eq_left (by omega)] at h1;have h2:2 ^ k < 2 ^ 12:=Ll (by decide) (by omega);refine st ?_;refine lv (Aa3 rfl rfl CD1 (by omega) (by omega) (hS.ptrM hk)) ?_;refine lv (Aa5 rfl (fun w hm=>hS.loadX (by decide) hm (by simp) Dn5 hk hx)) ?_;refine zn (Lp Bt8) (fun b7=>?_)
  refine sQ .here ?_;refine su ?_
  refine Ab0 (dj:=32) (dp:=38) 6 rfl (fun g32=>by
   refine lv (Lo rfl BL2) ?_;refine lv (Aa6 rfl mm2 Ae0 rfl) ?_;refine lv (Lo rfl BK7) ?_;refine Xa (Aa6 rfl mm0 Ae0 rfl) ?_;refine sv ?_;exact zs g32
  ) (fun g32=>by
    iterate 5 refine nQ ?_
    refine sv ?_;exact zs g32
  ) ?_
  refine st ?_;refine cn rfl ?_ ?_
  ·intro c1'
   have hf:fitX t x=false:=by simp [fitX,c1']
   refine Ls ?_;refine Ac0 ?_;refine Aa4 ?_;refine st ?_;refine lA ?_;exact Ac2 (by omega) trivial rfl (zE 24 rfl rfl (zE 4 rfl (by rw [AR6 hk hx,hf];simp) (zS 3 rfl (zS 5 rfl (zS 22 rfl (zS 23 rfl (Sub.nil _))))))) (qD (qD .nil))
  intro c1';have hcol:t.colour=0∨t.colour=x.colour:=by omega
  refine su ?_;refine Ar1 2 ?_;refine st ?_;refine Ly rfl ?_ (fun h=>absurd h (by decide))
  intro c2;clear c2;refine st ?_;refine lv (Br9 rfl rfl Ck8 (by decide) (by decide) rfl) ?_;refine zn (Lp AC8) (fun b9=>?_)
  refine sQ .here ?_;refine st ?_;refine Ab9 8 Ah8 (qF .nil) ?_;refine zw 0 ?_;refine zw 1 ?_;refine zw 2 ?_;refine zw 3 ?_;refine zw 4 ?_;refine zv 6 rfl (Val.nilIface (t:=pieceT _) (v:=pieceP _) rfl) ?_;refine zw 7 ?_;refine zA 5 ?_;refine Xd rfl (Ab4 rfl rfl DE9) (fun w hm=>Cu2 x w) (Aa2 (qF .nil) (qF .nil) rfl ?_)
  refine zt ?_;refine zB 8 ?_;refine Xd rfl (AX6 rfl rfl) (fun w hm=>Bd2 _ _ (by first | exact ht.1 | exact ht.2) (by first | exact hxs.1 | exact hxs.2) w) (Ab2 ?_)
  refine zp 9 ?_;refine zd ?_;refine st ?_;refine cn rfl ?_ ?_
  ·intro c3'
   have hf:fitX t x=false:=by simp [fitX,c3']
   refine Ls ?_;refine Ah5 rfl ?_;refine su ?_;refine Ah5 rfl ?_;refine Ac0 ?_;refine Aa4 ?_;refine st ?_;refine lA ?_;exact Ac2 (by omega) trivial rfl (zE 24 rfl rfl (zE 4 rfl (by rw [AR6 hk hx,hf];simp) (zS 3 rfl (zS 5 rfl (zS 22 rfl (zS 23 rfl (Sub.nil _))))))) (qH (qH .nil))
  intro c3';refine st ?_;refine Xa (Kb rfl rfl (Lq _ ⟨by decide,by decide⟩)) ?_;refine vQ ?_;refine Kf ?_;refine Ak5 (zS 3 rfl (zS 4 rfl (zS 5 rfl (zS 6 rfl (zS 7 rfl (zS 22 rfl (zS 23 rfl (zS 24 rfl (zS 39 rfl (zS 40 rfl (Sub.nil _))))))))))) (qD (qD (qD .nil))) ?_;refine Ag3 ?_;refine st ?_;refine Ly rfl ?_ (fun h=>absurd h (by decide))
  intro c2;clear c2;refine st ?_;refine lv (Br9 rfl rfl Ck8 (by decide) (by decide) rfl) ?_;refine zn (Lp AC8) (fun b9=>?_)
  refine sQ .here ?_;refine st ?_;refine Ab9 8 Ah8 (qF .nil) ?_;refine zw 0 ?_;refine zw 1 ?_;refine zw 2 ?_;refine zw 3 ?_;refine zw 4 ?_;refine zv 6 rfl (Val.nilIface (t:=pieceT _) (v:=pieceP _) rfl) ?_;refine zw 7 ?_;refine zA 5 ?_;refine Xd rfl (Ab4 rfl rfl DE8) (fun w hm=>Cu1 x w) (Aa2 (qF .nil) (qF .nil) rfl ?_)
  refine zt ?_;refine zB 8 ?_;refine Xd rfl (AX6 rfl rfl) (fun w hm=>Bd2 _ _ (by first | exact ht.1 | exact ht.2) (by first | exact hxs.1 | exact hxs.2) w) (Ab2 ?_)
  refine zp 9 ?_;refine zd ?_;refine st ?_;refine cn rfl ?_ ?_
  ·intro c3'
   have hf:fitX t x=false:=by simp [fitX,c3']
   refine Ls ?_;refine Ah5 rfl ?_;refine su ?_;refine Ah5 rfl ?_;refine Ac0 ?_;refine Aa4 ?_;refine st ?_;refine lA ?_;exact Ac2 (by omega) trivial rfl (zE 24 rfl rfl (zE 4 rfl (by rw [AR6 hk hx,hf];simp) (zS 3 rfl (zS 5 rfl (zS 22 rfl (zS 23 rfl (Sub.nil _))))))) (qH (qH .nil))
  intro c3';refine st ?_;refine Xa (Kb rfl rfl (Lq _ ⟨by decide,by decide⟩)) ?_;refine vQ ?_;refine Kf ?_;refine Ak5 (zS 3 rfl (zS 4 rfl (zS 5 rfl (zS 6 rfl (zS 7 rfl (zS 22 rfl (zS 23 rfl (zS 24 rfl (zS 39 rfl (zS 40 rfl (Sub.nil _))))))))))) (qD (qD (qD .nil))) ?_;refine Ag3 ?_;refine st ?_;refine Ly rfl (fun h=>absurd h (by decide)) ?_;intro c2;clear c2;refine Ls ?_;refine su ?_;refine Aa4 ?_;refine Ke ?_;refine Kv ?_;have hf:fitX t x=true:=by (have q1:suitsX t.number x.number=true:=(by assumption);have q2:suitsX t.text x.title=true:=(by assumption);simp [fitX,q1,q2,hcol])
  refine st ?_;refine lv (Ap2 (b:=k) rfl rfl (by show k≤64;omega) (u64_in (n:=2 ^ k) (by omega))) ?_;refine zn (Lu (parts:=[(0,.tmp 54),(1,.tmp 56)]) rfl Au7 Ay2 rfl rfl rfl rfl) (fun b57=>?_)
  refine zc (zF rfl AO1) (fun w hm=>Al3 (fitsL t 0 (es.take k)) (2 ^ k) (by omega) (by omega) b57 w (hm.at mm0)) ?_;refine lA ?_;exact Ac2 (by omega) trivial rfl (zE 24 rfl rfl (zE 4 rfl (by rw [AR6 hk hx,hf];simp) (zS 3 rfl (zS 5 rfl (zS 22 rfl (zS 23 rfl (Sub.nil _))))))) (qH (qH .nil))
 intro c0';obtain rfl:k=es.length:=by omega
 simp only [List.take_length];refine Ls ?_;refine su ?_;refine Aa4 ?_;refine su ?_;refine Ai8 ?_;exact rP
end Go.Q
namespace Go.Hp
open Go Go.Eng Go.Pw1
def dig36:Str:=[48,49,50,51,52,53,54,55,56,57,97,98,99,100,101,102,103,104,105,106,107,108,109,110,111,112,113,114,115,116,117,118,119,120,121,122]
def dig200:Str:=[48,48,48,49,48,50,48,51,48,52,48,53,48,54,48,55,48,56,48,57,49,48,49,49,49,50,49,51,49,52,49,53,49,54,49,55,49,56,49,57,50,48,50,49,50,50,50,51,50,52,50,53,50,54,50,55,50,56,50,57,51,48,51,49,51,50,51,51,51,52,51,53,51,54,51,55,51,56,51,57,52,48,52,49,52,50,52,51,52,52,52,53,52,54,52,55,52,56,52,57,53,48,53,49,53,50,53,51,53,52,53,53,53,54,53,55,53,56,53,57,54,48,54,49,54,50,54,51,54,52,54,53,54,54,54,55,54,56,54,57,55,48,55,49,55,50,55,51,55,52,55,53,55,54,55,55,55,56,55,57,56,48,56,49,56,50,56,51,56,52,56,53,56,54,56,55,56,56,56,57,57,48,57,49,57,50,57,51,57,52,57,53,57,54,57,55,57,56,57,57]
theorem Cv0:dig200.length=200:=by kernel_rfl
theorem BD8:(List.range 100).all (fun n=>if n < 10 then decide ((dig36.drop n).take 1=itoa n) else decide ((dig200.drop (2 * n)).take 2=itoa n))=true:=by kernel_rfl
theorem DL3 {n:Nat} (h:n < 10):(dig36.drop n).take (n + 1 - n)=itoa n:=by
 have:=List.all_eq_true.1 BD8 n (List.mem_range.2 (by omega))
 rw [if_pos h] at this;rw [Nat.add_sub_cancel_left];exact of_decide_eq_true this
theorem DL2 {n:Nat} (h:¬ n < 10) (h2:n < 100):(dig200.drop (n * 2)).take (n * 2 + 2 - n * 2)=itoa n:=by
 have:=List.all_eq_true.1 BD8 n (List.mem_range.2 h2)
 rw [if_neg h] at this;rw [Nat.add_sub_cancel_left,Nat.mul_comm];exact of_decide_eq_true this
theorem Az6 (n:Nat):(itoa n).length≤2:=by unfold itoa;split <;> simp
def esX (m:MxA):List En:=entriesX (m.bxs.map (·.bx))
def enK (m:MxA) (k:Nat):List En:=entriesX ((m.bxs.take k).map (·.bx))
theorem Bz1 {m:MxA} {k:Nat} (hk:k < m.bxs.length) {x:BxA} (hx:m.bxs[k]=x):enK m (k + 1)=enK m k++boxEn x.bx.colour 0 x.bx.titles:=by
 unfold enK;rw [List.take_succ_eq_append_getElem hk,List.map_append,hx];exact BL8 _ _
theorem CU0 (m:MxA):enK m m.bxs.length=esX m:=by unfold enK esX;rw [List.take_length]
theorem DG3 {m:MxA} (h:MSm m) (k:Nat):(enK m k).length≤k * 1000:=by
 unfold enK;rw [Aq5];exact BV9 (fun x hx=>(h.ti x hx).n) k
theorem Dh0 {l:List BxA} {x:BxA} (h:x∈l):x.bx.titles.length≤manyX (l.map (·.bx)):=by
 induction l with
 | nil=>cases h
 | cons y l ih =>
   have e:manyX ((y::l).map (·.bx))=y.bx.titles.length + manyX (l.map (·.bx)):=by simp [manyX]
   rw [e]
   rcases List.mem_cons.1 h with rfl | h
   · omega
   · have:=ih h;omega
theorem Ao8 {m:MxA} (h:mixedX m.pl=true):m.bxs.length≤4∧m.cards.length≤8∧(esX m).length≤12:=by
 unfold mixedX at h;simp only [Bool.and_eq_true] at h;obtain ⟨⟨⟨⟨a1,a2⟩,_⟩,a5⟩,_⟩:=h;have a3:(m.bxs.map (·.bx)).length≤4:=of_decide_eq_true a1;have a4:m.cards.length≤8:=of_decide_eq_true a2;have a6:manyX (m.bxs.map (·.bx))≤12:=of_decide_eq_true a5;rw [List.length_map] at a3;exact ⟨a3,a4,by unfold esX;rw [Aq5];exact a6⟩
theorem BN6 {c:Int}:∀ {l:List Str} {i:Nat} {x:En},x∈boxEn c i l→x.number.length≤2∧x.title∈l
 | [],i,x,h=>by cases h
 | t::l,i,x,h=>by
   rcases List.mem_cons.1 h with rfl | h
   · exact ⟨Az6 _,by simp⟩
   · obtain ⟨h1,h2⟩:=BN6 h
     exact ⟨h1,List.mem_cons_of_mem _ h2⟩
theorem Dk5 {m:MxA} (h:MSm m):∀ x∈esX m,x.number.length≤1000000∧x.title.length≤1000000:=fun x hx=>by
 unfold esX entriesX at hx;obtain ⟨b,hb,hx⟩:=List.mem_flatMap.1 hx;obtain ⟨y,hy,rfl⟩:=List.mem_map.1 hb;obtain ⟨h1,h2⟩:=BN6 hx;exact ⟨by omega,(h.ti y hy).t _ h2⟩
structure Hz where
 bh:Nat
 bm:Nat
 x:Eng.Own
 y:Eng.Own
abbrev HO (m:MxA):={ z:Hz // OwnOk 3 z.x (esX m).length ((esX m).map En.cells).flatten∧OwnOk 1 z.y (fsX m.pl).length (setsV (fsX m.pl)).flatten }
theorem DS9 (t:En):t.cells.length=3:=rfl
theorem DS8 (t:En):t.cells.all (·.oneCell')=true:=rfl
end Go.Hp
namespace Go.Q
open Go Go.Eng Go.Hp Go.Pw1
set_option maxRecDepth 10000 in
theorem BT6 (n:Nat) (hn:n < 100) (W:World):CC 143 #[.I (n:Int)] W (Pure (.string (bs (itoa n))) W):=by
 refine cS func143 ?_;refine st ?_;refine cn rfl ?_ ?_
 ·intro c0'
  refine st ?_;refine lA ?_;refine lu (AY3 (l:=dig36) (a:=n) (b:=n + 1) rfl rfl rfl Au9 (by omega) (by show n + 1≤36;omega)) ?_;exact Aa9 rZ (by rw [DL3 (by omega)])
 intro c0';refine st ?_;refine lv (Cl2 (a:=n) (b:=2) (n * 2) rfl rfl rfl (Ak8 (by omega))) ?_;refine lv (Cl2 (a:=n) (b:=2) (n * 2) rfl rfl rfl (Ak8 (by omega))) ?_;refine lv (Ah1 (a:=n * 2) (b:=2) (n * 2 + 2) rfl rfl rfl (Ak8 (by omega))) ?_;refine lu (AY3 (l:=dig200) (a:=n * 2) (b:=n * 2 + 2) rfl rfl rfl Au9 (by omega) (by rw [Cv0];omega)) ?_;exact Aa9 rZ (by rw [DL2 (by omega) hn])
theorem BK3 (n:Nat) (hn:n < 100) (W:World):CC 100 #[.I (n:Int),.I 10] W (Pure (.string (bs (itoa n))) W):=by
 refine cS func100 ?_;refine csr ?_;refine vQ ?_;refine nnx ?_;refine Lx ?_;refine csr ?_;refine vQ ?_;refine vQ ?_;refine nnx ?_;refine Ly rfl ?_ (fun h=>absurd h (by simp))
 intro c0;clear c0;refine Lx ?_;refine csr ?_
 iterate 3 refine vQ ?_
 refine Ab0 (dj:=14) (dp:=17) 3 rfl (fun g14=>by
  iterate 3 refine vQ ?_
  exact Ac1 (Kg rfl (qT (qS (Ad2 rfl (by rw [g14]) (Ab3 _))))) (List.Sublist.refl _)
 ) (fun g14=>by
   refine nQ ?_;refine nQ ?_;refine vQ ?_;exact Ac1 (Kg rfl (qT (qS (Ad2 rfl (by rw [g14]) (Ab3 _))))) (List.Sublist.refl _)
 ) ?_
 refine nnx ?_;refine Ly rfl ?_ (fun h=>absurd h (by simp;omega))
 intro c1;clear c1;refine csr ?_;refine vQ ?_;refine Xe (Ab8 rfl DF5) (fun w hm=>BT6 n hn w) ?_;refine vQ ?_;refine nnx ?_;refine Ks ?_;refine Ad1 ?_;refine Ad1 ?_;exact rP
theorem BW8 (n:Nat) (hn:n < 100) (W:World):CC 35 #[.I (n:Int)] W (Pure (.string (bs (itoa n))) W):=by
 refine cS func35 ?_;refine st ?_;refine zc (zF rfl DG2) (fun w hm=>BK3 n hn w) ?_;exact rP
theorem Ct6 (n:Nat) (hn:n < 100) (W:World):CC 12 #[.I (n:Int)] W (Pure (.string (bs (itoa n))) W):=by
 refine cS func12 ?_;refine st ?_;refine zc (zF rfl DR9) (fun w hm=>BW8 n hn w) ?_;exact rP
theorem Bf0 (m:MxA) (hsm:MSm m) (W:World) (hM:MOk W m) (hX:mixedX m.pl=false):CC 47 #[m.v] W (Pure (.tuple #[.pointer none,.I 1]) W):=by
 refine cS func47 ?_;refine st ?_;refine zn (Lm rfl) (fun b1=>?_)
 refine zc (zF rfl CT6) (fun w hm=>(by have h9:=AQ8 m hsm w (hM.mono0 hm);rw [hX] at h9;exact h9)) ?_;refine Ly rfl ?_ (fun h=>absurd h (by simp))
 intro c0;clear c0;refine su ?_;exact Aa9 (.r2 rfl (.tmp rfl) (.tmp rfl)) (by first | rfl | simp)
set_option maxHeartbeats 1000000 in
theorem Aw8 (m:MxA) (hsm:MSm m) (W:World) (hM:MOk W m) (hX:mixedX m.pl=true):CC 47 #[m.v] W
  (News (fun z:HO m=>.tuple #[.pointer (some ⟨z.1.bh,0,none⟩),.I 0]) (fun z=>[(z.1.bh,.cells [.slice m.q m.bxs.length m.cap,.slice m.q2 m.cards.length m.cap2,.slice (ownQ z.1.x) (esX m).length (ownC z.1.x),.slice (ownQ z.1.y) (fsX m.pl).length (ownC z.1.y),.map (some z.1.bm)].toArray 203),(z.1.bm,mapG [])] ++
   (ownB 122 z.1.y (setsV (fsX m.pl)).flatten++(ownB 205 z.1.x ((esX m).map En.cells).flatten++[]))) W):=by
 obtain ⟨hb4,hc8,he12⟩:=Ao8 hX;have hen:=Dk5 hsm;have hman:manyX (m.bxs.map (·.bx))=(esX m).length:=(Aq5 _).symm;refine cS func47 ?_;refine st ?_;refine zn (Lm rfl) (fun b1=>?_)
 refine zc (zF rfl CT6) (fun w hm=>(by have h9:=AQ8 m hsm w (hM.mono0 hm);rw [hX] at h9;exact h9)) ?_;refine Ly rfl (fun h=>absurd h (by simp)) ?_;intro c0;clear c0;refine su ?_;refine zn AI8 (fun b15=>?_)
 refine lv (Lr (parts:=[(0,.tmp 14),(3,.tmp 15)]) rfl Bt9 AT8 rfl) ?_;refine zn (Lm rfl) (fun b17=>?_)
 refine Af2 (X:=Eng.Own) (n0:=[(b15,_),(b1,_)]) (m.bxs.length) (fun k x q=>(21,.I (k:Int))::q) (fun _ _=>_) (fun k x=>[(b17,.cells [.slice m.q m.bxs.length m.cap,.slice m.q2 m.cards.length m.cap2,ownV x (enK m k).length,.slice none 0 0,.map (some b15)].toArray 203)]) (fun k x=>ownB 205 x ((enK m k).map En.cells).flatten++[]) (fun k x=>OwnOk 3 x (enK m k).length ((enK m k).map En.cells).flatten) none OwnOk.start rfl (zE 21 rfl rfl (zS 1 rfl (zS 4 rfl (zS 19 rfl (zS 20 rfl (Sub.nil _)))))) (qE (qC (Pick.same rfl))) ?_;intro k x kN kI;have hx1:=kI;refine st ?_;refine cn rfl ?_ ?_
 ·intro c1'
  have hk:k < m.bxs.length:=by omega
  obtain ⟨B,hB⟩:∃ B,m.bxs[k]=B:=⟨_,rfl⟩;have hBm:B∈m.bxs:=hB ▸ List.getElem_mem hk;have hBl:=Dh0 hBm;have hBT:=hM.ti B hBm;refine st ?_;refine lv (Aa3 rfl rfl Bd7 (by omega) (by omega) (hM.bx.ptrM hk)) ?_;refine lv (Aa5 rfl (fun w hm=>hM.bx.loadX (by decide) hm (by simp) Db6 hk hB)) ?_;refine zn (Lp AG1) (fun b6=>?_)
  refine sQ .here ?_;refine su ?_;refine Af2 (X:=Eng.Own) (n0:=[(b6,_),(b15,_),(b1,_)]) (B.bx.titles.length) (fun j y q=>(28,.I (j:Int))::q) (fun _ _=>_) (fun j y=>[(b17,.cells [.slice m.q m.bxs.length m.cap,.slice m.q2 m.cards.length m.cap2,ownV y (enK m k++boxEn B.bx.colour 0 (B.bx.titles.take j)).length,.slice none 0 0,.map (some b15)].toArray 203)]) (fun j y=>ownB 205 y ((enK m k++boxEn B.bx.colour 0 (B.bx.titles.take j)).map En.cells).flatten++[]) (fun j y=>OwnOk 3 y (enK m k++boxEn B.bx.colour 0 (B.bx.titles.take j)).length ((enK m k++boxEn B.bx.colour 0 (B.bx.titles.take j)).map En.cells).flatten) x (by simpa [boxEn] using hx1) rfl (zE 28 rfl rfl (zS 1 rfl (zS 4 rfl (zS 6 rfl (zS 19 rfl (zS 20 rfl (zS 21 rfl (zS 26 rfl (zS 27 rfl (Sub.nil _)))))))))) (.cons (.there .here) (by simp [boxEn]) (qE (qC (Pick.same (by simp [boxEn]))))) ?_;intro j y jN jI;have hy1:=jI;refine st ?_;refine cn rfl ?_ ?_
  ·intro c2'
   have hj:j < B.bx.titles.length:=by omega
   obtain ⟨S,hS⟩:∃ S,B.bx.titles[j]=S:=⟨_,rfl⟩;have hlen:(enK m k++boxEn B.bx.colour 0 (B.bx.titles.take j)).length≤100000:=by (rw [List.length_append,Bj3];have h9:=DG3 hsm k;rw [List.length_take];omega)
   have hS2:enK m k++boxEn B.bx.colour 0 (B.bx.titles.take (j + 1))=(enK m k++boxEn B.bx.colour 0 (B.bx.titles.take j))++[⟨B.bx.colour,itoa (j + 1),S⟩]:=by rw [List.take_succ_eq_append_getElem hj,hS,Br1,List.append_assoc];simp [Nat.min_eq_left (Nat.le_of_lt hj)]
   have hlen2:(enK m k++boxEn B.bx.colour 0 (B.bx.titles.take j)++[(⟨B.bx.colour,itoa (j + 1),S⟩:En)]).length=(enK m k++boxEn B.bx.colour 0 (B.bx.titles.take j)).length + 1:=by rw [List.length_append (bs:=[_])];rfl
   refine st ?_;refine lv (Aa3 rfl rfl An4 (by omega) (by omega) (hBT.ptrM hj)) ?_;refine lv (Aa5 rfl (fun w hm=>Sl.loadM1 hBT (by decide) hm (by simp) AN0 hj (v:=.string (bs S)) (by simp [hS]))) ?_;refine Ab9 14 Ah8 (qF .nil) ?_;refine zw 0 ?_;refine zw 1 ?_;refine zw 2 ?_;refine zw 3 ?_;refine zw 4 ?_;refine zw 5 ?_;refine zw 6 ?_;refine zw 7 ?_;refine zv 8 rfl (Kb rfl rfl (Lq _ ⟨by omega,by omega⟩)) ?_;refine zw 10 ?_;refine zA 9 ?_;refine Xd rfl (zF rfl Bq7) (fun w hm=>Ct6 (j + 1) (by omega) w) (Aa2 (qF .nil) (qF .nil) rfl ?_)
   refine zv 11 rfl (Lr (parts:=[(0,.tmp 39),(1,.tmp 42),(2,.tmp 43)]) rfl Bt8 Cr1 rfl) ?_;refine zA 12 ?_;refine Xf rfl (Lu (parts:=[(0,.tmp 44)]) rfl CD1 Bt8 rfl rfl rfl rfl) (fun b45=>(Aa2 (qF (qC .nil)) (qD (qD (qD (qD .nil)))) rfl ?_))
   refine zA 13 ?_;refine Kw (A:=[(b45,_),(b17,_),(b6,_),(b15,_),(b1,_)]) (B:=_) (x:=y) (ys:=(En.cells ⟨B.bx.colour,itoa (j + 1),S⟩)) rfl DU5 rfl rfl rfl hy1 rfl (fun h=>by cases h) (fun w hm=>Aj6 (hm.at mm0)) (Ao0 (DS8 _)) (by simp only [maxLen];omega) (by omega) rfl (fun z46 hz46=>(Aa2 (qF (qC .nil)) (qF (qC .nil)) rfl ?_))
   refine zt ?_;refine zB 14 ?_;obtain ⟨bz46,cz46,rz46,rfl,lz461,lz462,lz463⟩:=hz46.has (by simp);refine Xc rfl (Aa8 rfl) (Ab2 ?_)
   refine zp 15 ?_;refine zB 16 ?_;refine Xr rfl (Lt rfl rfl (.there .here) BD2 rfl rfl) (Ab2 ?_)
   refine zd ?_;refine st ?_;refine lA ?_;exact Ac3 (some (bz46,cz46,rz46)) (by omega) (by rw [hS2,← AH7,hlen2];exact hz46) rfl (zE 28 rfl rfl (zS 1 rfl (zS 4 rfl (zS 6 rfl (zS 19 rfl (zS 20 rfl (zS 21 rfl (zS 26 rfl (zS 27 rfl (Sub.nil _)))))))))) (.cons (.there .here) (by rw [hS2,hlen2]) (qD (qD (qD (.cons (.there .here) (by rw [hS2,← AH7]) .nil)))))
  intro c2';obtain rfl:j=B.bx.titles.length:=by omega
  rw [List.take_length] at hy1;simp only [List.take_length];refine Ls ?_;refine su ?_;refine Aa4 ?_;refine st ?_;refine lA ?_;exact Ac3 y (by omega) (by rw [Bz1 hk hB];exact hy1) rfl (zE 21 rfl rfl (zS 1 rfl (zS 4 rfl (zS 19 rfl (zS 20 rfl (Sub.nil _)))))) (.cons .here (by rw [Bz1 hk hB]) (qD (qD (Pick.skip (Pick.same (by rw [Bz1 hk hB]))))))
 intro c1';obtain rfl:k=m.bxs.length:=by omega
 rw [CU0] at hx1;have y1:ownV x (esX m).length = .slice (ownQ x) (esX m).length (ownC x):=Ad3 hx1;simp only [CU0,y1];refine Ls ?_;refine su ?_;refine Aa4 ?_;refine su ?_;refine Af2 (X:=Eng.Own) (n0:=[(b15,_),(b1,_)]) (m.cards.length) (fun l f q=>(54,.int .i64 (l:Int))::q) (fun _ _=>_) (fun l f=>[(b17,.cells [.slice m.q m.bxs.length m.cap,.slice m.q2 m.cards.length m.cap2,.slice (ownQ x) (esX m).length (ownC x),ownV f l,.map (some b15)].toArray 203)]) (fun l f=>ownB 122 f (setsV ((m.cards.take l).map (fitsX m.pl))).flatten++(ownB 205 x ((esX m).map En.cells).flatten++[])) (fun l f=>OwnOk 1 f l (setsV ((m.cards.take l).map (fitsX m.pl))).flatten) none OwnOk.start rfl (zE 54 rfl rfl (zS 1 rfl (zS 4 rfl (zS 52 rfl (zS 53 rfl (Sub.nil _)))))) (qE (qC (Pick.same rfl))) ?_;intro l f lN lI;have hf1:=lI;refine st ?_;refine cn rfl ?_ ?_
 ·intro c3'
  have hl:l < m.cards.length:=by omega
  obtain ⟨c,hc⟩:∃ c,m.cards[l]=c:=⟨_,rfl⟩;have hct:=hsm.tx c (hc ▸ List.getElem_mem hl);have hS3:(setsV ((m.cards.take (l + 1)).map (fitsX m.pl))).flatten=(setsV ((m.cards.take l).map (fitsX m.pl))).flatten++[.int .u64 ((fitsX m.pl c:Nat):Int)]:=by rw [List.take_succ_eq_append_getElem hl,hc,List.map_append];simp [setsV]
  refine st ?_;refine lv (Aa3 rfl rfl AZ0 (by omega) (by omega) (hM.cd.ptrM hl)) ?_;refine lv (Aa5 rfl (fun w hm=>hM.cd.loadX (by decide) hm (by simp) CA6 hl hc)) ?_;refine zn (Lp AC9) (fun b10=>?_)
  refine sQ .here ?_;refine st ?_;refine Ab9 10 Ah8 (qF .nil) ?_;refine zw 0 ?_;refine zw 1 ?_;refine zw 2 ?_;refine zw 3 ?_;refine zw 4 ?_;refine zw 5 ?_;refine zw 6 ?_;refine zA 7 ?_;refine Xd rfl (zF rfl DG0) (fun w hm=>CO8 c hct (esX m) he12 hen b17 _ _ _ _ (ownQ x) (ownK x) (ownC x) w (hm.at mm1) (Am3 DS9 (by decide) hx1 (fun b o h=>hm.at (.tail _ (.tail _ (.tail _ (.tail _ ((by first | exact List.mem_append_right _ (List.mem_append_left _ h) | exact List.mem_append_right _ (List.mem_append_right _ (List.mem_append_left _ h))))))))))) (Aa2 (qF .nil) (qF .nil) rfl ?_)
  refine zA 8 ?_;refine Xf rfl (Lu (parts:=[(0,.tmp 65)]) rfl Au7 Ay2 rfl rfl rfl rfl) (fun b66=>(Aa2 (qF (qC .nil)) (qD (qD (qD (qD .nil)))) rfl ?_))
  refine zA 9 ?_;refine Kw (A:=[(b66,_),(b10,_),(b17,_),(b15,_),(b1,_)]) (B:=_) (x:=f) (ys:=[.int .u64 ((fitsX m.pl c:Nat):Int)]) rfl Dr9 rfl rfl rfl hf1 rfl (fun h=>by cases h) (fun w hm=>Aj6 (hm.at mm0)) (Ao0 rfl) (by simp only [maxLen];omega) (by omega) rfl (fun z67 hz67=>(Aa2 (qF (qC .nil)) (qF (qC .nil)) rfl ?_))
  refine zt ?_;refine zB 10 ?_;obtain ⟨bz67,cz67,rz67,rfl,lz671,lz672,lz673⟩:=hz67.has (by omega);refine Xc rfl (Aa8 rfl) (Ab2 ?_)
  refine zp 11 ?_;refine zB 12 ?_;refine Xr rfl (Lt rfl rfl (.there (.there .here)) Bm7 rfl rfl) (Ab2 ?_)
  refine zd ?_;refine st ?_;refine lA ?_;exact Ac3 (some (bz67,cz67,rz67)) (by omega) (by rw [hS3];exact hz67) rfl (zE 54 rfl rfl (zS 1 rfl (zS 4 rfl (zS 52 rfl (zS 53 rfl (Sub.nil _)))))) (qH (qH (qH (.cons (.there (.there .here)) (by rw [hS3]) (Pick.skip (Pick.skip (Pick.refl _)))))))
 intro c3';obtain rfl:l=m.cards.length:=by omega
 refine Ls ?_;refine su ?_;refine Aa4 ?_;refine st ?_;refine Ks ?_;rw [List.take_length] at hf1;have y2:ownV f m.cards.length = .slice (ownQ f) (fsX m.pl).length (ownC f):=by rw [Ad3 hf1];simp [fsX,MxA.pl]
 simp only [List.take_length,y2];exact Ld (chg:=[]) (.r2 rfl (.tmp rfl) (.tmp rfl)) (fun _ hm=>⟨⟨⟨b17,b15,x,f⟩,hx1,(by rw [show (fsX m.pl).length=m.cards.length by simp [fsX,MxA.pl]];exact hf1)⟩,rfl,hm.pick (qE (Pick.skip (Pick.refl _)))⟩)
theorem AO2:Enters π 116:=eZ func116
theorem BZ8:Enters π 117:=eZ func117
theorem BL0:fieldB π 203 0=some 0:=by kernel_rfl
instance:Fld π 203 0 0:=⟨BL0⟩
theorem CN8:fieldB π 203 3=some 4:=by kernel_rfl
instance:Fld π 203 3 4:=⟨CN8⟩
theorem BI6:Keyed π 199 209 3:=⟨by kernel_rfl,by kernel_rfl,by kernel_rfl,fun a b c d=>by kernel_rfl⟩
theorem Bo4:placesB π 209=some [(0,1),(1,1)]:=by kernel_rfl
theorem AL9:tyB π 116=some (false,1):=by kernel_rfl
instance:Tyc π 116 false 1:=⟨AL9⟩
theorem Dn9:tyB π 119=some (false,1):=by kernel_rfl
instance:Tyc π 119 false 1:=⟨Dn9⟩
theorem CA5:tyB π 199=some (false,1):=by kernel_rfl
instance:Tyc π 199 false 1:=⟨CA5⟩
theorem Cy2:zeroV π 3=some (.I 0):=by kernel_rfl
theorem Ce1:zeroB π 209=some [.I 0,.int .u64 0]:=by kernel_rfl
end Go.Q
namespace Go.Hp
open Go Go.Eng Go.Pw1
theorem Dr4 (ne:Nat):∀ (fs:List Nat) (u:Nat),cntL ne fs u≤ne ^ fs.length
 | [],_=>Nat.le_refl _
 | f::fs,u=>by
   unfold cntL
   have key:∀ l:List Nat,(l.map fun i=>if free f u i then cntL ne fs (u ||| 2 ^ i) else 0).sum≤l.length * ne ^ fs.length:=by
    intro l
    induction l with
    | nil=>simp
    | cons a l ih =>
      rw [List.map_cons,List.sum_cons,List.length_cons,Nat.add_mul,Nat.one_mul,Nat.add_comm];refine Nat.add_le_add ih ?_
      split
      · exact Dr4 ne fs _
      · exact Lb _
   have:=key (List.range ne)
   rw [List.length_range] at this;rw [List.length_cons,Nat.pow_succ,Nat.mul_comm];exact this
theorem CV4 {ne:Nat} {fs:List Nat} (h1:ne≤12) (h2:fs.length≤8) (u:Nat):cntL ne fs u≤429981696:=by
 refine Kt (Dr4 ne fs u) ?_;refine Kt (Nat.pow_le_pow_left h1 _) ?_;exact Kt (Lk (by decide) h2) (by decide)
def psum (ne f:Nat) (fs:List Nat) (u k:Nat):Nat:=((List.range k).map fun i=>if free f u i then cntL ne fs (u ||| 2 ^ i) else 0).sum
theorem Do4 (ne f:Nat) (fs:List Nat) (u k:Nat):psum ne f fs u (k + 1)=psum ne f fs u k + if free f u k then cntL ne fs (u ||| 2 ^ k) else 0:=by
 unfold psum;rw [List.range_succ,List.map_append,List.sum_append];simp
theorem Be3 (ne f:Nat) (fs:List Nat) (u k:Nat):∀ j,psum ne f fs u k≤psum ne f fs u (k + j)
 | 0=>Nat.le_refl _
 | j + 1=>by
   have:=Be3 ne f fs u k j
   rw [show k + (j + 1)=(k + j) + 1 by omega,Do4];omega
theorem Cg3 (ne f:Nat) (fs:List Nat) (u:Nat):psum ne f fs u ne=cntL ne (f::fs) u:=rfl
def GoodM (ne:Nat) (fs:List Nat) (l:List ((Nat×Nat)×Value)):Prop:=∀ e∈l,e.2 = .I ((cntL ne (fs.drop e.1.1) e.1.2:Nat):Int)
def ExtM (ne:Nat) (fs:List Nat) (a:Nat) (l l':List ((Nat×Nat)×Value)):Prop:=GoodM ne fs l'∧∃ e,l'=l++e∧∀ x∈e,a≤x.1.1
theorem ExtM.refl {ne a:Nat} {fs:List Nat} {l:List ((Nat×Nat)×Value)} (h:GoodM ne fs l):ExtM ne fs a l l:=⟨h,[],by simp,fun x hx=>by cases hx⟩
theorem ExtM.trans {ne a:Nat} {fs:List Nat} {l l' l'':List ((Nat×Nat)×Value)} (h:ExtM ne fs a l l') (h':ExtM ne fs a l' l''):ExtM ne fs a l l'':=by
 obtain ⟨_,e,rfl,h2⟩:=h;obtain ⟨g,e',rfl,h4⟩:=h';refine ⟨g,e++e',by simp,fun x hx=>?_⟩
 rcases List.mem_append.1 hx with hx | hx
 · exact h2 x hx
 · exact h4 x hx
theorem ExtM.put {ne a u:Nat} {fs:List Nat} {l l':List ((Nat×Nat)×Value)} (h:ExtM ne fs (a + 1) l l') {v:Value} (hv:v = .I ((cntL ne (fs.drop a) u:Nat):Int)):ExtM ne fs a l (l'++[((a,u),v)]):=by
 obtain ⟨h1,e,rfl,h3⟩:=h;refine ⟨fun x hx=>?_,e++[((a,u),v)],by simp,fun x hx=>?_⟩
 · rcases List.mem_append.1 hx with hx | hx
   · exact h1 x hx
   · cases List.mem_singleton.1 hx;exact hv
 · rcases List.mem_append.1 hx with hx | hx
   · have:=h3 x hx;omega
   · cases List.mem_singleton.1 hx;exact Nat.le_refl _
theorem ExtM.absent {ne a u:Nat} {fs:List Nat} {l l':List ((Nat×Nat)×Value)} (h:ExtM ne fs (a + 1) l l') (h0:gFind l (a,u)=none):gIdx l' (a,u)=none:=by
 obtain ⟨_,e,rfl,h3⟩:=h;refine CL4 fun x hx=>?_
 rcases List.mem_append.1 hx with hx | hx
 · exact BX2 h0 x hx
 · intro e1
   have:=h3 x hx
   rw [e1] at this;simp at this
   omega
theorem CL3 {ne:Nat} {fs:List Nat} {l:List ((Nat×Nat)×Value)} (h:GoodM ne fs l) {a u:Nat} (hs:(gFind l (a,u)).isSome=true) {z:Value}:(gFind l (a,u)).getD z = .I ((cntL ne (fs.drop a) u:Nat):Int):=by
 obtain ⟨v,hv⟩:=Option.isSome_iff_exists.1 hs;rw [hv];exact h _ (CL5 hv)
structure HpAt (W:World) (bh bm:Nat) (m:MxA) (nE:Nat) (qe:OA) (ce:Nat) (fs:List Nat) (qf:OA) (bf cf:Nat):Prop where
 v:W.heap[bh]? = some (.cells [.slice m.q m.bxs.length m.cap,.slice m.q2 m.cards.length m.cap2,.slice qe nE ce,.slice qf fs.length cf,.map (some bm)].toArray 203)
 sl:Sl W qf bf 0 1 (setsV fs)
 len:fs.length=m.cards.length
 le:fs.length≤8
 ne:nE≤12
 lt:∀ f∈fs,f < 2 ^ nE
theorem BG9 {W:World} {b bm:Nat} {c:Array Value} {T:TypeId} {f:Nat×Nat} {l:List ((Nat×Nat)×Value)} (h:W.heap[b]? = some (.cells c T f)) (hm:W.heap[bm]? = some (mapG l)):b ≠ bm:=fun e=>by
 rw [e,hm] at h
 cases h
theorem CC8 {W:World} {q:OA} {b o sz bm:Nat} {xs:List (LV)} {l:List ((Nat×Nat)×Value)} (h:Sl W q b o sz xs) (hz:0 < sz) (hx:xs ≠ []) (hm:W.heap[bm]? = some (mapG l)):b ≠ bm:=fun e=>by
 cases xs with
 | nil=>exact hx rfl
 | cons x xs =>
   have h1:=h.cell 0 (by simp) 0 hz;have h2:=h.len x (by simp);rw [e] at h1;simp only [World.cell?,hm,mapG] at h1;simp at h1
   rw [h1] at h2;simp at h2
   omega
theorem CU3 {fs:List Nat} {a:Nat} (h:a < fs.length):fs.drop a=fs[a]::fs.drop (a + 1):=List.drop_eq_getElem_cons h
end Go.Hp
namespace Go.Q
open Go Go.Eng Go.Hp Go.Pw1
theorem AK2 (d:Nat):∀ (a:Nat) (m:MxA) (nE:Nat) (qe:OA) (ce:Nat) (fs:List Nat) (qf:OA) (bf cf:Nat) (_hd:a + d=fs.length) (u:Nat) (_hu:u < 2 ^ 12) (l:List ((Nat×Nat)×Value)) (_hg:GoodM nE fs l) (bh bm b1 b3:Nat) (W:World) (_hH:HpAt W bh bm m nE qe ce fs qf bf cf) (_hm:W.heap[bm]? = some (mapG l))
  (_h1:W.heap[b1]? = some (.cells [.pointer (some ⟨bh,0,none⟩)].toArray 116)) (_h3:W.heap[b3]? = some (.cells [.func (.func 116) #[] #[.pointer (some ⟨b1,0,none⟩),.pointer (some ⟨b3,0,none⟩)]].toArray 119)),
  CC 116 #[.I (a:Int),.int .u64 (u:Int),.pointer (some ⟨b1,0,none⟩),.pointer (some ⟨b3,0,none⟩)] W (TurnsZ bm mapG (fun _=>.I ((cntL nE (fs.drop a) u:Nat):Int)) (ExtM nE fs a l) W):=by
 induction d with
 | zero =>
   intro a m nE qe ce fs qf bf cf hd u hu l hg bP bm bC bF W hH hm h1 h3;have hv:=hH.v;have hl8:=hH.le;have hlen:=hH.len;have n1:=BG9 h1 hm;have n2:=BG9 hv hm;refine Af9 hm func116 rfl rfl ?_;refine st ?_;refine lu (Aa0 rfl h1 (by simp [n1,n2]) AL9 rfl) ?_;refine lu (Aa0 rfl hv (by simp [n1,n2]) Bu5 rfl) ?_;refine Ly rfl ?_ (fun h=>absurd h (by simp;omega))
   intro c0;clear c0;refine su ?_;exact Bk4 l (ExtM.refl hg) rfl rZ (by rw [List.drop_of_length_le (by omega)];rfl)
 | succ d ih =>
   intro a m nE qe ce fs qf bf cf hd u hu l hg bP bm bC bF W hH hm h1 h3;have hv:=hH.v;have hl8:=hH.le;have hlen:=hH.len;have hne:=hH.ne;have n1:=BG9 h1 hm;have n2:=BG9 hv hm;have n3:=BG9 h3 hm;have ha:a < fs.length:=by omega
   obtain ⟨f,hf⟩:∃ f,fs[a]=f:=⟨_,rfl⟩;have hdr:fs.drop a=f::fs.drop (a + 1):=by rw [CU3 ha,hf]
   have hfl:f < 2 ^ 12:=by
    have q1:=hH.lt f (hf ▸ List.getElem_mem ha);have q2:2 ^ nE≤2 ^ 12:=Lk (by decide) hne;omega
   have hfn:setsV fs ≠ []:=by
    intro e
    have:=congrArg List.length e
    simp [setsV] at this
    subst this;simp at ha
   have nf:=CC8 hH.sl (by decide) hfn hm;have hal:=Cb6 f u;have hcl:∀ v,cntL nE (fs.drop (a + 1)) v≤429981696:=fun v=>CV4 hne (by simp;omega) v
   have hca:cntL nE (fs.drop a) u≤429981696:=CV4 hne (by simp;omega) u;refine Af9 hm func116 rfl rfl ?_;refine st ?_;refine lu (Aa0 rfl h1 (by simp [n1,n2,n3]) AL9 rfl) ?_;refine lu (Aa0 rfl hv (by simp [n1,n2,n3]) Bu5 rfl) ?_;refine Ly rfl (fun h=>absurd h (by simp;omega)) ?_;intro c0;clear c0;refine st ?_;refine lu (Aa0 rfl h1 (by simp [n1,n2,n3]) AL9 rfl) ?_;refine lv (Aa0 rfl hv (by simp [n1,n2,n3]) CA5 rfl) ?_;refine lv (Lr (parts:=[(0,.tmp 24),(1,.tmp 25)]) rfl Ce1 Bo4 rfl) ?_;refine lv (Cc0 (a:=(a,u)) rfl rfl (fun w hm=>hm.at mm0) BI6 Cy2) ?_;refine cn rfl ?_ ?_
   ·intro c1'
    have hgf:=CL3 (z:=.I 0) hg c1';refine su ?_;exact Bk4 l (ExtM.refl hg) rfl rZ hgf
   intro c1';have hab:gFind l (a,u)=none:=by simpa using c1'
   refine st ?_;refine lu (Aa0 rfl h1 (by simp [n1,n2,n3]) AL9 rfl) ?_;refine lv (Aa0 rfl hv (by simp [n1,n2,n3]) Bm7 rfl) ?_;refine lv (Aa3 rfl rfl Au7 (by omega) (by omega) (hH.sl.ptrM ha)) ?_;refine lv (Aa5 rfl (fun w hm=>(Sl.mono1 hH.sl (by decide) hm (fun _=>nf)).loadM1 (by decide) (Mem.refl w) (by simp) Bc9 ha (v:=.int .u64 (f:Int)) (by simp [hf]))) ?_;refine lv (Val.andNot (a:=f) (b:=u) rfl rfl (by show _ < 18446744073709551616;omega) (by show _ < 18446744073709551616;omega) (u64_in (by omega))) ?_;refine lu (Aa0 rfl h1 (by simp [n1,n2,n3]) AL9 rfl) ?_;refine lu (Aa0 rfl hv (by simp [n1,n2,n3]) BD2 rfl) ?_;refine Af2 (X:=List ((Nat×Nat)×Value)) (n0:=[]) (nE) (fun k x q=>(47,.I (k:Int))::(6,.I ((psum nE f (fs.drop (a + 1)) u k:Nat):Int))::q) (fun k x=>[(bm,mapG x)]) (fun k x=>[]) (fun k x=>[]) (fun k x=>ExtM nE fs (a + 1) l x) l (ExtM.refl hg) rfl (zE 47 rfl rfl (zE 6 rfl rfl (zS 0 rfl (zS 1 rfl (zS 2 rfl (zS 3 rfl (zS 9 rfl (zS 46 rfl (Sub.nil _))))))))) (Pick.same rfl) ?_;intro k x kN kI;have hxg:=kI;refine st ?_;refine cn rfl ?_ ?_
   ·intro c2'
    have hk:k < nE:=by omega
    have hps:=Do4 nE f (fs.drop (a + 1)) u k;have hpm:=Be3 nE f (fs.drop (a + 1)) u (k + 1) (nE - (k + 1));rw [show k + 1 + (nE - (k + 1))=nE by omega,Cg3,← hdr] at hpm;have h2k:2 ^ k < 2 ^ 12:=Ll (by decide) (by omega);have hpk:=Be3 nE f (fs.drop (a + 1)) u k 1;refine st ?_;refine Xe (Ab4 rfl rfl BZ8) (fun w hm=>Bh1 (andN f u) k (by omega) (by omega) w) ?_;refine st ?_;refine cn rfl ?_ ?_
    ·intro c3'
     have hfr:free f u k=true:=by (rw [AA2] at c3';exact c3')
     rw [hfr,if_pos rfl] at hps;have huk:=Lj hu h2k;refine Bs9 10 Ah8 .nil ?_;refine Xv (i:=0) rfl (fun c hck=>(Aa8 rfl)) (fun _ _ _ h=>h) .nil ?_;refine Xv (i:=1) rfl (fun c hck=>(Aa0 rfl h3 (Az2 hck (by simp [n1,n2,n3])) Dn9 rfl)) (fun _ _ _ h=>h) .nil ?_;refine Xv (i:=2) rfl (fun c hck=>(Aa8 rfl)) (fun _ _ _ h=>h) .nil ?_;refine Xv (i:=3) rfl (fun c hck=>(Ah1 (a:=a) (b:=1) (a + 1) rfl rfl rfl (Ak8 (by omega)))) (fun _ _ _ h=>h) .nil ?_;refine Xv (i:=4) rfl (fun c hck=>(Aa8 rfl)) (fun _ _ _ h=>h) .nil ?_;refine Xv (i:=5) rfl (fun c hck=>(Aa8 rfl)) (fun _ _ _ h=>h) .nil ?_;refine Xv (i:=6) rfl (fun c hck=>(Ap2 (b:=k) rfl rfl (by show k≤64;omega) (u64_in (n:=2 ^ k) (by omega)))) (fun _ _ _ h=>h) .nil ?_;refine zA 7 ?_;refine Xf rfl (Lu (parts:=[(0,.tmp 57),(1,.tmp 59)]) rfl Au7 Ay2 rfl rfl rfl rfl) (fun b60=>(Aa2 (qC .nil) .nil rfl ?_))
     refine zA 8 ?_;refine Xd rfl (zF rfl AO1) (fun w hm=>Al3 u (2 ^ k) hu h2k b60 w (hm.at mm1)) (Aa2 (qC .nil) (qC .nil) rfl ?_)
     refine zA 9 ?_;refine Bm0 rfl (Ab4 rfl rfl AO2) rfl rfl rfl (fun _=>.here) (fun w hm=>ih (a + 1) m nE qe ce fs qf bf cf (by omega) (u ||| 2 ^ k) huk x hxg.1 bP bm bC bF w ⟨hm.old_at hv (by simp [n2]),Sl.mono1 hH.sl (by decide) hm (fun _=>nf),hH.len,hH.le,hH.ne,hH.lt⟩ (hm.at mm0) (hm.old_at h1 (by simp [n1])) (hm.old_at h3 (by simp [n3]))) (fun x62 hx62=>(Aa2 (qC .nil) (qC .nil) rfl ?_))
     refine zt ?_;refine zo 10 rfl (Ah1 (a:=psum nE f (fs.drop (a + 1)) u k) (b:=cntL nE (fs.drop (a + 1)) (u ||| 2 ^ k)) (psum nE f (fs.drop (a + 1)) u k + cntL nE (fs.drop (a + 1)) (u ||| 2 ^ k)) rfl rfl rfl (Ak8 (by omega))) ?_;refine zp 11 ?_;refine zd ?_;refine st ?_;refine lA ?_;exact Ac3 x62 (by omega) (hxg.trans hx62) rfl (zE 47 rfl rfl (zE 6 rfl (by rw [hps]) (zS 0 rfl (zS 1 rfl (zS 2 rfl (zS 3 rfl (zS 9 rfl (zS 46 rfl (Sub.nil _))))))))) .nil
    intro c3';have hfr:free f u k=false:=by (rw [AA2] at c3';exact c3')
    rw [hfr] at hps;simp only [Bool.false_eq_true,if_false,Nat.add_zero] at hps;refine st ?_;refine lA ?_;exact Ac3 x (by omega) hxg rfl (zE 47 rfl rfl (zE 6 rfl (by rw [hps]) (zS 0 rfl (zS 1 rfl (zS 2 rfl (zS 3 rfl (zS 9 rfl (zS 46 rfl (Sub.nil _))))))))) .nil
   intro c2';have hkn:k=nE:=by omega
   simp only [hkn,Cg3,← hdr];refine Ls ?_;refine su ?_;refine Aa4 ?_;refine st ?_;refine lu (Aa0 rfl h1 (by simp [n1,n2,n3]) AL9 rfl) ?_;refine lv (Aa0 rfl hv (by simp [n1,n2,n3]) CA5 rfl) ?_;refine lv (Lr (parts:=[(0,.tmp 69),(1,.tmp 70)]) rfl Ce1 Bo4 rfl) ?_;refine Xs (BP5 (a:=(a,u)) rfl rfl rfl .here BI6 (kI.absent hab)) ?_;refine su ?_;exact Bk4 (x++[((a,u),.I ((cntL nE (fs.drop a) u:Nat):Int))]) (ExtM.put kI rfl) rfl rZ rfl
theorem CQ4:Enters π 277:=eZ func277
theorem Bq6:Enters π 48:=eZ func48
theorem Du1:π.underlying 201=some (.slice 122):=by kernel_rfl
theorem Da4:zeroB π 119=some [.nilFunc]:=by kernel_rfl
end Go.Q
namespace Go.Hp
open Go Go.Eng Go.Pw1
theorem De0 (fs:List Nat):∀ x∈setsV fs,x.length=1:=fun x hx=>by
 obtain ⟨a,_,rfl⟩:=List.mem_map.1 hx;rfl
theorem Du3 (fs:List Nat):(setsV fs).flatten.length=fs.length * 1:=Aj8 (f:=fun (x:Nat)=>[Value.int .u64 (x:Int)]) (fun _=>rfl) fs
theorem Aw7 {fs:List Nat} {c v:Nat} (h:c < fs.length) {t:LV}:paste ((setsV fs).flatten++t) c [.int .u64 (v:Int)]=some ((setsV (fs.set c v)).flatten++t):=by
 have:=AP6 (f:=fun (x:Nat)=>[Value.int .u64 (x:Int)]) (sz:=1) (fun _=>rfl) (a':=v) (j:=0) (vs:=[.int .u64 (v:Int)]) (t:=t) h rfl
 simpa [setsV] using this
theorem Ba3 {fs:List Nat} {c e:Nat}:(setC fs c e).length=fs.length:=by simp [setC]
theorem Du4 {fs:List Nat} {c e n:Nat} (hc:c < fs.length) (h:∀ f∈fs,f < 2 ^ n):∀ f∈setC fs c e,f < 2 ^ n:=fun f hf=>by
 rcases List.mem_or_eq_of_mem_set hf with h1 | h1
 · exact h f h1
 · subst h1
   rw [List.getD_eq_getElem?_getD,List.getElem?_eq_getElem hc,Option.getD_some];exact Kx Nat.and_le_left (h _ (List.getElem_mem hc))
theorem Bb1 {ne:Nat} {fs:List Nat}:GoodM ne fs []:=fun e he=>by cases he
abbrev cntF (z:Nat×Nat):Value:=.func (.func 116) #[] #[.pointer (some ⟨z.1,0,none⟩),.pointer (some ⟨z.2,0,none⟩)]
abbrev cntB (bh:Nat) (z:Nat×Nat):Blks:=[(z.2,.cells [cntF z].toArray 119),(z.1,.cells [.pointer (some ⟨bh,0,none⟩)].toArray 116)]
abbrev stB (fs:List Nat) (z:Nat×Nat×LV):Blks:=[(z.1,.cells ((setsV fs).flatten++z.2.2).toArray 122)]
theorem CC1 {fs:List Nat} {z:Nat×Nat×LV} {w:World} (h:w.heap[z.1]? = some (.cells ((setsV fs).flatten++z.2.2).toArray 122)):Sl w (some ⟨z.1,0,none⟩) z.1 0 1 (setsV fs):=Sl.rowsR h (De0 fs)
end Go.Hp
namespace Go.Q
open Go Go.Eng Go.Hp Go.Pw1
theorem Bj2 (fs:List Nat) (hf:0 < fs.length) (hl:fs.length≤8) (q:OA) (b o cap:Nat) (W:World) (hS:Sl W q b o 1 (setsV fs)):CC 277 #[.slice q fs.length cap] W (News (fun z:Nat×Nat×LV=>.slice (some ⟨z.1,0,none⟩) fs.length z.2.1) (fun z=>stB fs z) W):=by
 obtain rfl:=hS.ptrM hf;refine cS func277 ?_;refine st ?_;refine lv (AA4 rfl Du1) ?_;refine Ly rfl (fun h=>absurd h (by simp)) ?_;intro c0;clear c0;refine st ?_;refine zn (Ap6 Au7) (fun b5=>?_)
 refine Kh (A:=[]) (B:=_) (x:=(some (b5,0,[]))) (ys:=(setsV fs).flatten) Dr9 rfl rfl rfl OwnOk.empty (Du3 fs) (fun h=>by cases h) (fun w hm=>(hS.mono (by decide) hm (by simp)).flat (by decide)) (AK1 (fun _=>rfl) _) (by simp only [maxLen];omega) (by omega) rfl (fun z7 hz7=>?_)
 obtain ⟨bz7,cz7,rz7,rfl,lz71,lz72,lz73⟩:=hz7.has (by omega);refine su ?_;exact Ld (chg:=[]) rZ (fun _ hm=>⟨(bz7,cz7,rz7),by simp only [ownV,Nat.zero_add],hm.pick (qC .nil)⟩)
theorem Ao1 (bh:Nat) (W:World):CC 48 #[.pointer (some ⟨bh,0,none⟩)] W (News cntF (cntB bh) W):=by
 refine cS func48 ?_;refine st ?_;refine zn (Lm rfl) (fun b1=>?_)
 refine zn (Lp Da4) (fun b3=>?_)
 refine sQ .here ?_;refine su ?_;exact Ld (chg:=[]) rZ (fun _ hm=>⟨(b1,b3),rfl,hm.pick (qE .nil)⟩)
theorem BU1 (m:MxA) (nE:Nat) (qe:OA) (ce:Nat) (fs:List Nat) (qf:OA) (bf cf:Nat) (c e:Nat) (hc:c < fs.length) (he:e < nE) (bh bk:Nat) (W:World) (hH:HpAt W bh bk m nE qe ce fs qf bf cf) :
  CC 261 #[.pointer (some ⟨bh,0,none⟩),.I (c:Int),.I (e:Int)] W (Pure (.I ((shareL nE fs c e:Nat):Int)) W):=by
 have hv:=hH.v;have hl8:=hH.le;have hne:=hH.ne;have h2e:2 ^ e < 2 ^ 12:=Ll (by decide) (by omega);obtain ⟨f,hf⟩:∃ f,fs[c]=f:=⟨_,rfl⟩
 have hfl:f < 2 ^ 12:=by
  have q1:=hH.lt f (hf ▸ List.getElem_mem hc);have q2:2 ^ nE≤2 ^ 12:=Lk (by decide) hne;omega
 have hfe:f &&& 2 ^ e≤f:=Nat.and_le_left
 have hset:fs.set c (f &&& 2 ^ e)=setC fs c e:=by
  unfold setC;rw [List.getD_eq_getElem?_getD,List.getElem?_eq_getElem hc,Option.getD_some,hf]
 refine cS func261 ?_;refine st ?_;refine Am2 (X:=Nat×Nat×(Nat×Nat×LV)) 14 (n0:=[]) (fun y q=>(7,.pointer (some ⟨y.1,0,none⟩))::q) (fun y=>[]) (fun y=>[(y.1,.cells [.slice m.q m.bxs.length m.cap,.slice m.q2 m.cards.length m.cap2,.slice qe nE ce,.slice (some ⟨y.2.2.1,0,none⟩) fs.length y.2.2.2.1,.map (some y.2.1)].toArray 203),(y.2.1,mapG []),(y.2.2.1,.cells ((setsV fs).flatten++y.2.2.2.2).toArray 122)]) (fun y=>[]) (fun y=>True) Ah8 .nil (zS 0 rfl (zS 1 rfl (zS 2 rfl (Sub.nil _)))) .nil ?_ ?_
 ·refine zv 0 rfl (Aa8 rfl) ?_
  refine zv 1 rfl (Aa8 rfl) ?_;refine zv 2 rfl (Lo rfl BL0) ?_;refine zv 3 rfl (Ag2 rfl hv (by simp) BS6 rfl) ?_;refine zv 4 rfl (Aa8 rfl) ?_;refine zv 5 rfl (Aa8 rfl) ?_;refine zv 6 rfl (Lo rfl BK9) ?_;refine zv 7 rfl (Aa0 rfl hv (by simp) BD2 rfl) ?_;refine zv 8 rfl (Aa8 rfl) ?_;refine zv 9 rfl (Aa8 rfl) ?_;refine zv 10 rfl (Lo rfl BK8) ?_;refine zv 11 rfl (Aa0 rfl hv (by simp) Bm7 rfl) ?_;refine Af7 (rs:=[12,13]) (by kernel_rfl) (by simp) (by kernel_rfl) (fun m hm=>?_)
  simp only [List.mem_cons,List.not_mem_nil,or_false] at hm
  rcases hm with rfl | rfl
  ·refine Xk rfl (zF rfl CQ4) (fun w hm=>Bj2 fs (by omega) hl8 qf bf 0 cf w (hH.sl.mono (by decide) hm (by simp))) (fun b20=>(Aa2 (qC .nil) .nil rfl ?_))
   refine zA 13 ?_;refine Xf rfl AI8 (fun b21=>(Aa2 (qE .nil) (qD .nil) rfl ?_))
   refine zt ?_;refine zo 14 rfl (Lr (parts:=[(0,.tmp 11),(1,.tmp 15),(2,.tmp 20),(3,.tmp 21)]) rfl Bt9 AT8 rfl) ?_;refine zB 15 ?_;refine Xf rfl (Lm rfl) (fun b23=>(Ab2 ?_))
   refine zp 16 ?_;refine zd ?_;exact Af4 (b23,b21,b20) trivial rfl (zE 7 rfl rfl (zS 0 rfl (zS 1 rfl (zS 2 rfl (Sub.nil _))))) (qE (qC .nil))
  refine Xf rfl AI8 (fun b21=>(Aa2 (qC .nil) .nil rfl ?_))
  refine zA 12 ?_;refine Xk rfl (zF rfl CQ4) (fun w hm=>Bj2 fs (by omega) hl8 qf bf 0 cf w (hH.sl.mono (by decide) hm (by simp))) (fun b20=>(Aa2 (qE .nil) (qD .nil) rfl ?_))
  refine zt ?_;refine zo 14 rfl (Lr (parts:=[(0,.tmp 11),(1,.tmp 15),(2,.tmp 20),(3,.tmp 21)]) rfl Bt9 AT8 rfl) ?_;refine zB 15 ?_;refine Xf rfl (Lm rfl) (fun b23=>(Ab2 ?_))
  refine zp 16 ?_;refine zd ?_;exact Af4 (b23,b21,b20) trivial rfl (zE 7 rfl rfl (zS 0 rfl (zS 1 rfl (zS 2 rfl (Sub.nil _))))) (qC (qD (qC .nil)))
 intro y yI;obtain ⟨b23,b21,b20⟩:=y;dsimp only;refine st ?_;refine Ab9 9 Ah8 (qE (qC .nil)) ?_;refine zw 0 ?_;refine zw 1 ?_;refine zw 2 ?_;refine zw 3 ?_;refine zw 4 ?_;refine zv 5 rfl (Ab1 rfl rfl Au7 (by omega) (by omega)) ?_;refine zv 6 rfl (Aa5 rfl (fun w hm=>(CC1 (hm.at mm2)).loadM1 (by decide) (Mem.refl w) (by simp) Bc9 hc (v:=.int .u64 (f:Int)) (by simp [hf]))) ?_;refine zw 7 ?_;refine zv 8 rfl (Ap2 (b:=e) rfl rfl (by show e≤64;omega) (u64_in (n:=2 ^ e) (by omega))) ?_;refine zt ?_;refine zo 9 rfl (Ku (a:=f) (b:=2 ^ e) rfl rfl (by show _ < 18446744073709551616;omega) (by show _ < 18446744073709551616;omega) (u64_in (by omega))) ?_;refine zo 10 rfl (Ab1 rfl rfl Au7 (by omega) (by omega)) ?_;refine zB 11 ?_;refine Xr rfl (Lt (cs:=(setsV fs).flatten++b20.2.2) (cs':=(setsV (setC fs c e)).flatten++b20.2.2) rfl rfl (.there (.there .here)) Bc9 rfl (by rw [← hset,Nat.zero_add,Int.toNat_natCast,Nat.mul_one];exact Aw7 hc)) (Ab2 ?_)
 refine zd ?_;refine st ?_;refine Xj (zF rfl Bq6) (fun w hm=>Ao1 b23 w) (fun b36=>?_)
 refine Aw0 (Ab4 rfl rfl AO2) rfl rfl rfl (fun _=>(.there (.there (.there .here)))) (fun w hm=>AK2 fs.length 0 m nE qe ce (setC fs c e) (some ⟨b20.1,0,none⟩) b20.1 b20.2.1 (by rw [Ba3];omega) 0 (by decide) [] Bb1 b23 b21 b36.1 b36.2 w ⟨(by rw [Ba3];exact hm.at mm2),CC1 (hm.at mm4),(by rw [Ba3];exact hH.len),(by rw [Ba3];exact hl8),hne,Du4 hc hH.lt⟩ (hm.at mm3) (hm.at mm1) (hm.at mm0)) (fun x37 hx37=>?_)
 refine su ?_;exact rP
theorem AX7:Enters π 47:=eZ func47
end Go.Q
