/- Printed by our programs. -/
import Derived.Test.YtbflhimigloapaaGreatDoorS06
import Derived.Test.YtbflhimigloapaaGreatDoorProg
import Derived.Test.YtbflhimigloapaaGreatDoorRows
import Derived.Lib.LaidTab
import Derived.Stop.LaidErr
import Derived.MakeChecks
import Derived.Shelf.Vars
import Derived.Handed
import Derived.HandedShaped
import Derived.Lay
set_option linter.unusedSimpArgs false
set_option linter.unusedVariables false
set_option linter.unusedSectionVars false
open Go.Proofs.Tryz
open Go.Proofs.Tryz renaming prog→π
open Go.Proofs.YtbflhimigloapaaGreatDoor
namespace Go.Le
open Go Go.Eng Go.Bk Go.RowKit
def gatX (c:Cb) (l:Rc) (us:List Nat):Int×Int×Bool:=endsL ((pickX l us).map (misN c))
theorem Dh9 (c:Cb) (l:Rc) (us:List Nat) (i:Nat):gatX c l (us++[i])=eadd (gatX c l us) (misN c (l.getD i zE)):=by
 unfold gatX;rw [BF6,List.map_append];exact CT8 _ _
theorem Dx7 {c:Cb} {l:Rc} {us:List Nat} (hl:l.Perm (endL c okAny)) (hn:us.Nodup) (hlt:∀ i∈us,i < l.length) (AH6:∀ i,i < l.length→i∈us):gatX c l us=misX c :=
 CT9 (((Cg4 hn hlt AH6).trans hl).map _)
theorem Dg7 {c:Cb} {s:List Int} {k:Nat} (h:¬ s.getD k 0 = -1∧¬ s.getD k 0=c.homes.getD k 0):misC c s (k + 1)=misC c s k + 1:=by
 rw [Dp1,if_pos (by simp only [Bool.and_eq_true,Bool.not_eq_true',decide_eq_false_iff_not];exact h)]
theorem Dw3 {c:Cb} {s:List Int} {k:Nat} (h:s.getD k 0 = -1∨s.getD k 0=c.homes.getD k 0):misC c s (k + 1)=misC c s k:=by
 rw [Dp1,if_neg (by simp only [Bool.and_eq_true,Bool.not_eq_true',decide_eq_false_iff_not];exact fun h2=>h.elim h2.1 h2.2),Nat.add_zero]
theorem DN4 {c:Cb} {u:Unit} (h:openX c true = .ok u):MisX c=(((misX c).1,(misX c).2.1),0):=by unfold MisX;rw [h]
theorem Dw2 {c:Cb} {k:Int} (h:openX c true = .error k):MisX c=((0,0),k):=by unfold MisX;rw [h]
end Go.Le
namespace Go.Q
open Go Go.Eng Go.Bk Go.Le Go.RowKit
theorem Ct4 (b:Nat) (w:World):CallsD π 125 #[.pointer (some ⟨b,0,none⟩)] .returning w fun e u w'=>(∃ v,e = .returned v)∧u = .returning∧Mem w [] [] w':=by
 refine callsD_of_wpS func125 rfl fun c₀ cs hu=>?_
 refine wpS_region ?_;simp [wpOpsS,go_sem,recoverD,hu,ntmps125,Exit.thenS]
 refine (As7 b w).mono ?_
 rintro e w' ⟨rfl,hm⟩
 exact ⟨rfl,.returning,by rw [← hu],_,results_none rfl _ _ _,⟨_,rfl⟩,rfl,hm⟩
theorem Ct3 (b:Nat) (k:Int) (x:Value) (w:World) (hb:w.heap[b]? = some (.cells #[x] 49 (0,0))):CallsD π 125 #[.pointer (some ⟨b,0,none⟩)] (.panicking [{ v:=lmis k,recovered:=false }]) w fun e u w' =>
  (∃ v,e = .returned v)∧u = .panicking [{ v:=lmis k,recovered:=true }]∧Mem w [(b,.cells #[.I k] 49 (0,0))] [] w':=by
 refine callsD_of_wpS func125 rfl fun c₀ cs hu=>?_
 refine wpS_region ?_;simp [wpOpsS,go_sem,recoverD,hu,ntmps125,Exit.thenS]
 refine (As8 b k x w hb).mono ?_
 rintro e w' ⟨rfl,hm⟩
 exact ⟨rfl,.panicking [{ v:=lmis k,recovered:=true }],rfl,_,results_none rfl _ _ _,⟨_,rfl⟩,rfl,hm⟩
theorem AQ4:Catches π 125 49 lmis:=⟨Ct4,fun b k x w h=>Ct3 b k x w h⟩
abbrev enO (z:Int×Int×Bool):Obj:=.cells [Value.int .i64 z.1,.I z.2.1,.bool z.2.2].toArray 227 (0,0)
set_option maxHeartbeats 2000000 in
theorem Bf6 (c:CbA) (hC0:CbS c) (hCC:CbC c) (W:World) (hC:CbOk W c):CC 68 #[c.v] W (Pure (.tuple #[.agg #[.I (MisX c.pl).1.1,.I (MisX c.pl).1.2],.I (MisX c.pl).2]) W):=by
 refine Ae4 func68 rfl rfl ?_;refine csr ?_;refine Xg (Lm rfl) (fun b1=>?_)
 refine Xg (Lp Ad6) (fun b2=>?_)
 refine Xg (Lp Am5) (fun b3=>?_)
 refine nsr ?_;refine vQ ?_;refine An7 rfl ?_;refine nsr ?_;refine Xa (Ab5 rfl mm2 Cm8 rfl) ?_;refine AF3 (Ab8 rfl Cj5) rfl rfl rfl (fun w hm=>Az5 c hC0 hCC 52 #[] true Dq3 w (hC.mono0 hm) (fun b _ w _ _ _=>AY2 _ w)) (fun e14 he14=>?_) (fun a14 ha14 z14=>?_)
 ·refine Aa1 ?_
  exact Aq8 AQ4 CT3 .here (.r2 rfl (.agg rfl mm1 Ai6 rfl) (.one rfl mm0 Af8 rfl)) (by rw [Dw2 he14])
 obtain ⟨⟨bc,m,l⟩,hz14⟩:=z14;dsimp only at hz14 ⊢;have hcv:=Ca7 (Az1 ha14).1;have hl5:c.homes.l.length≤5:=hcv.few;have hgd:∀ p∈l,Gd c.pl p:=fun p hp=>AG6 hcv.slots.1 hcv.few hcv.hom hcv.wrong.2 _ p (hz14.mem_iff.1 hp)
 iterate 5 refine vQ ?_
 refine nsr ?_;refine Xg (Lp CZ5) (fun b6=>?_)
 refine nnx ?_;refine Lx ?_;refine csr ?_;refine vQ ?_;refine Xg (AL4 Ay7 rfl (fun w hm=>hm.at mm2)) (fun b18=>?_)
 refine nnx ?_;refine Kr ?_;refine Af2 (X:=List Nat) (n0:=[(b2,_),(b3,_),(bc,_),(m,_)]) (l.length) (fun j us q=>q) (fun _ _=>_) (fun j us=>[(b6,enO (gatX c.pl l us)),(b18,itK m (rv l) us)]) (fun j us=>[]) (fun j us=>us.Nodup∧(∀ i∈us,i < l.length)∧us.length=j) [] ⟨List.nodup_nil,(fun _ h=>by cases h),rfl⟩ rfl (Kg (t:=2) rfl (Kg (t:=3) rfl (Kg (t:=4) rfl (Kg (t:=6) rfl (Kg (t:=18) rfl (Sub.nil _)))))) (qD (qC (qI (qH (qE (Pick.skip (Pick.same rfl))))))) ?_;intro j us jN jI;obtain ⟨hxn,hxl,hxj⟩:=jI;refine csr ?_;refine AL2 rfl (fun w hm=>hm.at mm5) (fun _=>(.there .here)) rfl (fun i19 hi19 hx19=>?_) (fun hx19=>?_)
 ·have hil:i19 < l.length:=by (rw [← Bo0];exact hi19)
  obtain ⟨p,hp⟩:∃ p,l[i19]=p:=⟨_,rfl⟩;have hg:=hgd p (hp ▸ List.getElem_mem hil);obtain ⟨s,n0⟩:=p;obtain ⟨x0,x1,x2,x3,x4,hse⟩:=Bx7 hg.len;dsimp only at hse;have hsl:s.length=5:=hg.len;have hge:l.getD i19 zE=(s,n0):=by (rw [List.getD_eq_getElem?_getD,List.getElem?_eq_getElem hil,hp];rfl)
  have hcs:[Value.int .i64 x0,.I x1,.I x2,.I x3,.I x4]=s.map (Value.int .i64):=by rw [hse];rfl
  refine vQ ?_;refine nnx ?_;refine Lx ?_;refine Ai9 rfl ?_;refine Kd ?_;refine Ke ?_;refine Kr ?_;refine csr ?_;refine Xa (AL1 (l:=rv l) (v:=.tuple #[.agg #[.I x0,.I x1,.I x2,.I x3,.I x4],.I n0]) rfl (fun w hm=>hm.at mm1) (fun w hm=>hm.at mm5) hi19 (by simp [rv,hp,ka,hse])) ?_;refine vQ ?_;refine Xg (Lp Ay1) (fun b7=>?_)
  refine sQ .here ?_;refine nsr ?_;refine vQ ?_;refine nnx ?_;refine Lx ?_;refine csr ?_;refine vQ ?_;refine vQ ?_;refine Xa (Lo rfl Ap0) ?_;refine Xa (Lo rfl Bw9) ?_;refine Xa (Aa6 rfl mm5 Bu4 rfl) ?_;refine Xa (Ae3 rfl Af6) ?_;refine vQ ?_;refine nnx ?_;refine Kr ?_;refine Ac8 (c.homes.l.length) (fun k q=>(29,.I (k:Int))::(8,.I ((misC c.pl s k:Nat):Int))::q) (fun _=>_) (fun _=>[]) (fun _=>True) trivial rfl (Ae6 (t:=29) rfl rfl (Ae6 (t:=8) rfl rfl (Kg (t:=2) rfl (Kg (t:=3) rfl (Kg (t:=4) rfl (Kg (t:=6) rfl (Kg (t:=7) rfl (Kg (t:=18) rfl (Kg (t:=27) rfl (Kg (t:=28) rfl (Sub.nil _))))))))))) (qF (qE (qC .nil))) ?_;intro k kN kI;clear kI;refine csr ?_;refine vQ ?_;refine nnx ?_;refine Lx ?_;refine Ly rfl ?_ ?_
  ·intro c1
   have c1':=c1;clear c1;try simp only [nH] at c1'
   have hk:k < c.homes.l.length:=by omega
   have hmb:=Dw4 c.pl s k;refine Kd ?_;refine Ke ?_;refine Lx ?_;refine Kr ?_;refine csr ?_;refine vQ ?_;refine Xa (Aa3 rfl rfl Af6 (by omega) (by omega) (Sl.ptrM hC.homes hk)) ?_;refine Xa (Aa5 rfl (fun w hm=>Sl.loadM1 hC.homes (by decide) hm (by simp) Ae0 hk (v:=.I (c.homes.l.getD k 0)) (by simp [intC,hk]))) ?_;refine vQ ?_;refine vQ ?_;refine nsr ?_;refine vQ ?_;refine Xa (Aa7 rfl rfl AB3 (by omega) (by omega)) ?_;refine Xa (Aa5 rfl (fun w hm=>arr_load (l:=s) (hm.at mm0) hcs Ae0 (i:=(k:Int)) (by omega) (by omega) rfl)) ?_;refine vQ ?_;refine vQ ?_
   refine Ab0 (dj:=38) (dp:=44) 6 rfl (fun g38=>by
    have g38':=g38;try simp only [nH] at g38'
    refine vQ ?_;refine Xa (Aa7 rfl rfl AB3 (by omega) (by omega)) ?_;refine Xa (Aa5 rfl (fun w hm=>arr_load (l:=s) (hm.at mm0) hcs Ae0 (i:=(k:Int)) (by omega) (by omega) rfl)) ?_
    iterate 3 refine vQ ?_
    exact Ac1 (Kg rfl (qU (qT (Ad2 rfl (by rw [g38]) (Ab3 _))))) (List.Sublist.refl _)
   ) (fun g38=>by
     iterate 5 refine nQ ?_
     refine vQ ?_;exact Ac1 (Kg rfl (qU (qT (Ad2 rfl (by rw [g38]) (Ab3 _))))) (List.Sublist.refl _)
   ) ?_
   refine nnx ?_;refine Ly rfl ?_ ?_
   ·intro c2
    have c2':=c2;clear c2;try simp only [nH] at c2'
    have hmc:=Dg7 (c:=c.pl) (s:=s) (k:=k) c2';refine Kv ?_;refine vQ ?_;refine Xa (Kb rfl rfl (Lq _ ⟨by omega,by omega⟩)) ?_;refine vQ ?_;refine Kf ?_;refine Ac4 ?_;refine Ke ?_;refine Kv ?_;refine Xa (Kb rfl rfl (Lq _ ⟨by omega,by omega⟩)) ?_;refine vQ ?_;refine Kf ?_;exact Ac2 (by omega) trivial rfl (Ae6 (t:=29) rfl rfl (Ae6 (t:=8) rfl (by first | (rw [hmc];rfl) | rw [hmc]) (Kg (t:=2) rfl (Kg (t:=3) rfl (Kg (t:=4) rfl (Kg (t:=6) rfl (Kg (t:=7) rfl (Kg (t:=18) rfl (Kg (t:=27) rfl (Kg (t:=28) rfl (Sub.nil _))))))))))) (qF (qE (qC .nil)))
   intro c2;have c2':=c2;clear c2;try simp only [nH] at c2'
   have hmc:=Dw3 (c:=c.pl) (s:=s) (k:=k) c2';refine Kd ?_;refine Ac4 ?_;refine Ke ?_;refine Kv ?_;refine Xa (Kb rfl rfl (Lq _ ⟨by omega,by omega⟩)) ?_;refine vQ ?_;refine Kf ?_;exact Ac2 (by omega) trivial rfl (Ae6 (t:=29) rfl rfl (Ae6 (t:=8) rfl (by first | (rw [hmc];rfl) | rw [hmc]) (Kg (t:=2) rfl (Kg (t:=3) rfl (Kg (t:=4) rfl (Kg (t:=6) rfl (Kg (t:=7) rfl (Kg (t:=18) rfl (Kg (t:=27) rfl (Kg (t:=28) rfl (Sub.nil _))))))))))) (qF (qE (qC .nil)))
  intro c1;have c1':=c1;clear c1;try simp only [nH] at c1'
  obtain rfl:k=c.homes.l.length:=by omega
  refine Ls ?_;refine Ac0 ?_;refine Ac0 ?_;refine Aa4 ?_;refine Ke ?_;refine Kv ?_;refine vQ ?_;refine AV9 (Ab8 rfl DF8) rfl rfl rfl (.there .here) (fun w hm=>BW2 b6 (gatX c.pl l us) _ w (hm.at mm1)) ?_;refine Kf ?_;refine Ac4 ?_;exact Ac3 (us++[i19]) (by have:=Cl8 hxn hxl hil hx19;omega) ⟨Aq2 hxn hx19,AN7 hxl hil,by simp [hxj]⟩ rfl (Kg (t:=2) rfl (Kg (t:=3) rfl (Kg (t:=4) rfl (Kg (t:=6) rfl (Kg (t:=18) rfl (Sub.nil _)))))) (.cons (.there .here) (by rw [Dh9,hge];rfl) (qD (qD (qD (qD (qD .nil))))))
 have hxall:∀ i,i < l.length→i∈us:=fun i hi=>hx19 i (by rw [Bo0];exact hi)
 have hgx:=Dx7 hz14 hxn hxl hxall;refine vQ ?_;refine nnx ?_;refine Lx ?_;refine Ae9 rfl ?_;refine Ls ?_;refine Ac0 ?_;refine Ac0 ?_;refine Aa4 ?_;refine Ke ?_;refine csr ?_;refine Xa (Lo rfl At0) ?_;refine Xa (Aa6 rfl mm0 Ae0 rfl) ?_;refine Xa (Lo rfl AR4) ?_;refine Xa (Aa6 rfl mm0 Ae0 rfl) ?_;refine Xa (Lr (parts:=[(0,.tmp 51),(1,.tmp 53)]) rfl Ad6 Ak3 rfl) ?_;refine sQ (.there (.there .here)) ?_;refine sQ (.there (.there (.there .here))) ?_;refine nnx ?_;refine Ks ?_;exact Aw1 AQ4 CT3 (.r2 rfl (.agg rfl mm2 Ai6 rfl) (.one rfl mm3 Af8 rfl)) (by rw [DN4 ha14,hgx])
theorem AR7:Enters π 15:=eZ func15
theorem DR1:Enters π 66:=eZ func66
theorem DR0:Enters π 67:=eZ func67
theorem DQ9:Enters π 68:=eZ func68
theorem DQ8:Enters π 69:=eZ func69
theorem CG7:pairB π 23=true:=by kernel_rfl
theorem BF4:placesB π 71=some [(0,1),(1,1),(2,1),(3,1)]:=by kernel_rfl
theorem AG7:placesB π 73=some [(0,1),(1,1),(2,1),(3,1)]:=by kernel_rfl
theorem Bt2:zeroB π 71=some [.I 0,.slice none 0 0,.I 0,.slice none 0 0]:=by kernel_rfl
end Go.Q
namespace Go.Le
open Go Go.Eng Go.Hp Go.Pw1 Go.RowKit
structure HZ where
 bb:Nat
 b1:Nat
 b2:Nat
 bc:Nat
def hT:List Tn:=[⟨0,[63],[109,105,42]⟩,⟨0,[42],[109,105,108,108]⟩,⟨0,[50],[63,97,42]⟩]
def hL1:List Str:=[[102,97,108,108,115],[109,105,108,108],[112,97,115,115]]
def hL2:List Str:=[[109,105,108,108],[108,97,107,101]]
def hM:Mx:=⟨[⟨1,hL1⟩,⟨2,hL2⟩],hT⟩
def hA (z:HZ):MxA:=⟨[⟨⟨1,hL1⟩,some ⟨z.b1,0,none⟩,z.b1,0,3⟩,⟨⟨2,hL2⟩,some ⟨z.b2,0,none⟩,z.b2,0,2⟩],some ⟨z.bb,0,none⟩,z.bb,0,2,hT,some ⟨z.bc,0,none⟩,z.bc,0,3⟩
theorem DX5 (z:HZ):(hA z).pl=hM:=rfl
theorem DN9:waysE hM=0:=by kernel_rfl
theorem Dx4:FirstX hM=([1,3,4],0):=by kernel_rfl
theorem DX4 (z:HZ):MSm (hA z):=⟨by show 2≤1000;decide,by show 3≤1000;decide,fun x hx=>by
  rcases List.mem_cons.1 hx with rfl | hx
  · exact ⟨by show 3≤1000;decide,fun t ht=>by
     simp only [hL1,List.mem_cons,List.not_mem_nil,or_false] at ht
     rcases ht with rfl | rfl | rfl <;> decide⟩
  · obtain rfl:=List.mem_singleton.1 hx
    exact ⟨by show 2≤1000;decide,fun t ht=>by
     simp only [hL2,List.mem_cons,List.not_mem_nil,or_false] at ht
     rcases ht with rfl | rfl <;> decide⟩,fun t ht=>by
  have ht:t∈hT:=ht;simp only [hT,List.mem_cons,List.not_mem_nil,or_false] at ht
  rcases ht with rfl | rfl | rfl <;> decide⟩
theorem CL0 {a b:List Int} (h:a.length=b.length) (h2:a.take a.length=b.take a.length):a=b:=by
 rw [List.take_length,h,List.take_length] at h2;exact h2
theorem Cn7 {a b:List Int} {k:Nat} (ha:k < a.length) (hb:k < b.length) (h:a.take k=b.take k) (h2:a[k]=b[k]):a.take (k + 1)=b.take (k + 1):=by
 rw [List.take_succ_eq_append_getElem ha,List.take_succ_eq_append_getElem hb,h,h2]
def cA (bh bl:Nat):Bk.CbA:=⟨4,⟨[0,1,2],some ⟨bh,0,none⟩,bh,0,3⟩,1,⟨[⟨0,0,0,0⟩,⟨0,1,1,0⟩,⟨1,0,0,0⟩,⟨1,1,1,0⟩],some ⟨bl,0,none⟩,bl,0,4⟩⟩
def cP:Bk.Cb:=⟨4,[0,1,2],1,[⟨0,0,0,0⟩,⟨0,1,1,0⟩,⟨1,0,0,0⟩,⟨1,1,1,0⟩]⟩
theorem DX8 (bh bl:Nat):(cA bh bl).pl=cP:=rfl
theorem DW3:MisX cP=((0,1),0):=by kernel_rfl
end Go.Le
namespace Go.Q
open Go Go.Eng Go.Le Go.Hp Go.Pw1 Go.RowKit
abbrev hW (z:HZ):Blks:=[(z.bb,.cells [.I 1,.slice (some ⟨z.b1,0,none⟩) 3 3,.I 2,.slice (some ⟨z.b2,0,none⟩) 2 2].toArray 65),(z.b1,.cells (strsV hL1).flatten.toArray 9),(z.b2,.cells (strsV hL2).flatten.toArray 9),
 (z.bc,.cells (hT.map Tn.cells).flatten.toArray 165)]
theorem DX6 {w:World} {z:HZ} (h:∀ b o,(b,o)∈hW z→w.heap[b]? = some o):MOk w (hA z):=by
 refine ⟨Sl.rows (xs:=(hA z).bxs.map BxA.cells) (h _ _ mm0) (by simp [hA,BxA.cells]),fun x hx=>?_,?_⟩
 · rcases List.mem_cons.1 hx with rfl | hx
   · exact Sl.rows (h _ _ mm1) (by simp [hL1,strsV])
   · obtain rfl:=List.mem_singleton.1 hx
     exact Sl.rows (h _ _ mm2) (by simp [hL2,strsV])
 · exact Sl.rows (h _ _ mm3) (fun x hx=>by obtain ⟨a,_,rfl⟩:=List.mem_map.1 hx;rfl)
theorem BK0 (W:World):CC 67 #[] W (News (fun z:HZ=>(hA z).v) (fun z=>hW z) W):=by
 refine cS func67 ?_;refine st ?_;refine zn (Lp Bt3) (fun b0=>?_)
 refine zn (Lu (parts:=[(0,.const (.string ⟨#[102,97,108,108,115]⟩)),(1,.const (.string ⟨#[109,105,108,108]⟩)),(2,.const (.string ⟨#[112,97,115,115]⟩))]) rfl An4 AW1 rfl rfl rfl rfl) (fun b1=>?_)
 refine lv (Lr (parts:=[(0,.const (.I 1)),(1,.tmp 1)]) rfl AG1 Be5 rfl) ?_;refine zn (Lu (parts:=[(0,.const (.string ⟨#[109,105,108,108]⟩)),(1,.const (.string ⟨#[108,97,107,101]⟩))]) rfl An4 AW1 rfl rfl rfl rfl) (fun b3=>?_)
 refine lv (Lr (parts:=[(0,.const (.I 2)),(1,.tmp 3)]) rfl AG1 Be5 rfl) ?_;refine zn (Lu (parts:=[(0,.tmp 2),(1,.tmp 4)]) rfl Bd7 AG1 rfl rfl rfl rfl) (fun b5=>?_)
 refine lv (Lr (parts:=[(1,.const (.string ⟨#[63]⟩)),(2,.const (.string ⟨#[109,105,42]⟩))]) rfl AC9 AJ6 rfl) ?_;refine lv (Lr (parts:=[(1,.const (.string ⟨#[42]⟩)),(2,.const (.string ⟨#[109,105,108,108]⟩))]) rfl AC9 AJ6 rfl) ?_;refine lv (Lr (parts:=[(1,.const (.string ⟨#[50]⟩)),(2,.const (.string ⟨#[63,97,42]⟩))]) rfl AC9 AJ6 rfl) ?_;refine zn (Lu (parts:=[(0,.tmp 6),(1,.tmp 7),(2,.tmp 8)]) rfl AZ0 AC9 rfl rfl rfl rfl) (fun b9=>?_)
 refine lv (Lr (parts:=[(0,.tmp 5),(1,.tmp 9)]) rfl Bt3 BF5 rfl) ?_;refine sQ (.there (.there (.there (.there .here)))) ?_;refine su ?_;exact Ld (chg:=[]) (.r1 rfl (.agg rfl mm4 BS6 rfl)) (fun _ hm=>⟨⟨b5,b1,b3,b9⟩,rfl,hm.pick (qD (qH (qD (qC .nil))))⟩)
abbrev lOZ:=Nat×Nat×LV
abbrev lozB (z:lOZ) (l:LV):Blks:=[(z.1,.cells (l++z.2.2).toArray 3)]
theorem BK2 (z:HZ) (W:World) (h:∀ b o,(b,o)∈hW z→W.heap[b]? = some o):CC 66 #[(hA z).v] W (News (fun y:lOZ=>.tuple #[.slice (some ⟨y.1,0,none⟩) 3 y.2.1,.I 0]) (fun y=>lozB y [.I 1,.I 3,.I 4]) W):=by
 have h1:=BX5 (hA z) (DX4 z) W (DX6 h) DN9;rw [DX5,Dx4] at h1;refine h1.mono ?_
 rintro e w' ⟨⟨x,hx⟩,rfl,hm⟩
 obtain ⟨b,c,r,rfl,_⟩:=hx.has (by decide);exact ⟨(b,c,r),rfl,hm⟩
theorem BW7 (a b:List Int) (qa:OA) (ba oa ca:Nat) (qb:OA) (bb ob cb:Nat) (ha:a.length≤1000) (hb:b.length≤1000) (W:World) (hA:Sl W qa ba oa 1 (intsW a)) (hB:Sl W qb bb ob 1 (intsW b)) :
  CC 69 #[.slice qa a.length ca,.slice qb b.length cb] W (Pure (.bool (decide (a=b))) W):=by
 refine cS func69 ?_;refine su ?_;refine cn rfl ?_ ?_
 ·intro c0'
  refine su ?_;exact Aa9 rZ (by rw [decide_eq_false (fun e=>by rw [e] at c0';exact c0' rfl)])
 intro c0';have heq:a.length=b.length:=by omega
 refine st ?_;refine Ac8 (a.length) (fun k q=>(5,.I (k:Int))::q) (fun _=>_) (fun _=>[]) (fun k=>a.take k=b.take k) (by simp) rfl (zE 5 rfl rfl (zS 0 rfl (zS 1 rfl (Sub.nil _)))) .nil ?_;intro k kN kI;refine su ?_;refine cn rfl ?_ ?_
 ·intro c1'
  have hk:k < a.length:=by omega
  have hk2:k < b.length:=by omega
  obtain ⟨x,hx⟩:∃ x,a[k]=x:=⟨_,rfl⟩;obtain ⟨y,hy⟩:∃ y,b[k]=y:=⟨_,rfl⟩;refine st ?_;refine Ab9 8 Ah8 .nil ?_;refine zv 0 rfl (Aa8 rfl) ?_;refine zv 1 rfl (Aa8 rfl) ?_;refine zv 2 rfl (Aa3 rfl rfl Af6 (by omega) (by omega) (hA.ptrM hk)) ?_;refine zv 3 rfl (Aa5 rfl (fun w hm=>hA.loadM1 (by decide) hm (by simp) Ae0 hk (v:=.I x) (by simp [hx]))) ?_;refine zv 4 rfl (Aa8 rfl) ?_;refine zv 5 rfl (Aa8 rfl) ?_;refine zv 6 rfl (Aa3 rfl rfl Af6 (by omega) (by omega) (hB.ptrM hk2)) ?_;refine zv 7 rfl (Aa5 rfl (fun w hm=>hB.loadM1 (by decide) hm (by simp) Ae0 hk2 (v:=.I y) (by simp [hy]))) ?_;refine zt ?_;refine zp 8 ?_;refine zd ?_;refine st ?_;refine cn rfl ?_ ?_
  ·intro c2'
   refine su ?_;exact Aa9 rZ (by rw [decide_eq_false (fun e=>by subst e;exact c2' (by rw [← hx,← hy]))])
  intro c2';refine st ?_;refine lA ?_;exact Ac2 (by omega) (Cn7 hk hk2 kI (by rw [hx,hy];exact c2')) rfl (zE 5 rfl rfl (zS 0 rfl (zS 1 rfl (Sub.nil _)))) .nil
 intro c1';obtain rfl:k=a.length:=by omega
 refine Ls ?_;refine su ?_;refine Aa4 ?_;refine su ?_;exact Aa9 rZ (by rw [decide_eq_true (CL0 heq kI)])
theorem Dw5 {y:lOZ} {a b:List Int} {w:World} {bb:Nat} {cb:Nat} (h:w.heap[y.1]? = some (.cells ((intsW a).flatten++y.2.2).toArray 3)) (h2:w.heap[bb]? = some (.cells (intsW b).flatten.toArray 3)) (ha:a.length≤1000) (hb:b.length≤1000) :
  CC 69 #[.slice (some ⟨y.1,0,none⟩) a.length y.2.1,.slice (some ⟨bb,0,none⟩) b.length cb] w (Pure (.bool (decide (a=b))) w) :=
 BW7 a b _ y.1 0 _ _ bb 0 _ ha hb w (Sl.rowsR (t:=y.2.2) h (fun x hx=>by obtain ⟨a,_,rfl⟩:=List.mem_map.1 hx;rfl)) (Sl.rows h2 (fun x hx=>by obtain ⟨a,_,rfl⟩:=List.mem_map.1 hx;rfl))
theorem BV8 (bh bl:Nat) (W:World) (hh:W.heap[bh]? = some (.cells [Value.int .i64 0,.I 1,.I 2].toArray 3))
  (hl:W.heap[bl]? = some (.cells [Value.int .i64 0,.I 0,.I 0,.I 0,.I 0,.I 1,.I 1,.I 0,.I 1,.I 0,.I 0,.I 0,.I 1,.I 1,.I 1,.I 0].toArray 73)) :
  CC 68 #[.agg #[.I 4,.slice (some ⟨bh,0,none⟩) 3 3,.I 1,.slice (some ⟨bl,0,none⟩) 4 4]] W (Pure (.tuple #[.agg #[.I 0,.I 1],.I 0]) W):=by
 have h:=Bf6 (cA bh bl) ⟨by show 3≤10000;decide,by show 4≤10000;decide⟩ ⟨by show 4≤4;decide,fun h=>absurd h (show ¬ (cA bh bl).loans.q=none from fun h=>(by cases h)),fun a h=>by (obtain rfl:=Option.some.inj h;rfl)⟩ W
  ⟨Sl.rows (xs:=[(0:Int),1,2].map Bk.intC) hh (fun x hx=>by obtain ⟨a,_,rfl⟩:=List.mem_map.1 hx;rfl),Sl.rows (xs:=(cA bh bl).loans.l.map Bk.Ln.cells) hl (fun x hx=>by obtain ⟨a,_,rfl⟩:=List.mem_map.1 hx;rfl)⟩
 rw [DX8,DW3] at h;exact h
theorem Ai3 (lo hi:Int) (W:World):CC 15 #[.I lo,.I hi] W (Pure (.agg #[.I lo,.I hi]) W):=by
 refine cS func15 ?_;refine st ?_;refine zn (Lp Ad6) (fun b4=>?_)
 refine lv (Lr (parts:=[(0,.tmp 5),(1,.tmp 6)]) rfl Ad6 Ak3 rfl) ?_;refine sQ .here ?_;refine su ?_;exact Aa9 (.r1 rfl (.agg rfl mm0 Ai6 rfl)) (by first | rfl | simp)
set_option maxRecDepth 4000 in
theorem BA7 (W:World):CC 24 #[] W (Pure (.bool true) W):=by
 refine cS func24 ?_;refine st ?_;refine Xj (zF rfl DR0) (fun w hm=>BK0 w) (fun b6=>?_)
 refine Xj (zF rfl DR1) (fun w hm=>BK2 b6 w (fun b o h=>hm.at (by simp only [List.mem_cons,List.not_mem_nil,or_false] at h;rcases h with h | h | h | h <;> (rw [h];first | exact mm0 | exact mm1 | exact mm2 | exact mm3)))) (fun b7=>?_)
 refine st ?_;refine zn (Lu (parts:=[(0,.const (.I 0)),(1,.const (.I 1)),(2,.const (.I 2))]) rfl Af6 Al2 rfl rfl rfl rfl) (fun b11=>?_)
 refine lv (Lr (parts:=[]) rfl AG0 AG7 rfl) ?_;refine lv (Lr (parts:=[(1,.const (.I 1)),(2,.const (.I 1))]) rfl AG0 AG7 rfl) ?_;refine lv (Lr (parts:=[(0,.const (.I 1))]) rfl AG0 AG7 rfl) ?_;refine lv (Lr (parts:=[(0,.const (.I 1)),(1,.const (.I 1)),(2,.const (.I 1))]) rfl AG0 AG7 rfl) ?_;refine zn (Lu (parts:=[(0,.tmp 12),(1,.tmp 13),(2,.tmp 14),(3,.tmp 15)]) rfl Bd6 AG0 rfl rfl rfl rfl) (fun b16=>?_)
 refine lv (Lr (parts:=[(0,.const (.I 4)),(1,.tmp 11),(2,.const (.I 1)),(3,.tmp 16)]) rfl Bt2 BF4 rfl) ?_;refine zc (zF rfl DQ9) (fun w hm=>BV8 b11 b16 w (hm.at mm1) (hm.at mm0)) ?_;refine zn (Lp Ad6) (fun b3=>?_)
 refine sQ .here ?_;refine st ?_;refine Ab9 10 Ah8 (qG .nil) ?_;refine zw 0 ?_;refine zA 1 ?_;refine Xf rfl (Lu (parts:=[(0,.const (.I 1)),(1,.const (.I 3)),(2,.const (.I 4))]) rfl Af6 Al2 rfl rfl rfl rfl) (fun b22=>(Aa2 (qG (qC .nil)) (qD (qD (qD (qD (qD (qD (qD (qD .nil)))))))) rfl ?_))
 refine zA 2 ?_;refine Xd rfl (zF rfl DQ8) (fun w hm=>Dw5 (y:=b7) (a:=[1,3,4]) (b:=[1,3,4]) (hm.at mm4) (hm.at mm0) (by decide) (by decide)) (Aa2 (qG (qC .nil)) (qG (qC .nil)) rfl ?_)
 refine zw 3 ?_;refine At5 (dj:=24) true rfl (by simp) ?_;refine zw 4 ?_;refine zw 5 ?_;refine zw 6 ?_;refine zw 7 ?_;refine At5 (dj:=28) true rfl (by simp) ?_;refine zw 8 ?_;refine zA 9 ?_;refine Xd rfl (zF rfl AR7) (fun w hm=>Ai3 _ _ w) (Aa2 (qG (qC .nil)) (qG (qC .nil)) rfl ?_)
 refine zt ?_;refine zo 10 rfl (AY5 rfl rfl CG7) ?_;refine zp 11 ?_;refine zp 12 ?_;refine Bl0 (dj:=33) true rfl (by simp) ?_;refine zp 13 ?_;refine zp 14 ?_;refine zp 15 ?_;refine zp 16 ?_;refine zd ?_;refine su ?_;exact rP
end Go.Q
namespace Go.Dk
open Go Go.Eng Go.RowKit Go.Pw1 Go.Hp
structure BenA (W:World) (d:DkX):Prop where
 v:Sl W (ownQ d.v) (ownK d.v) 0 13 (d.vs.map VwX.cellsS)
 t:∀ x∈d.vs,Sl W (ownQ x.t) (ownK x.t) 0 9 (x.p.things.map Th.cells)
 m:MOk W d.mx
 sm:MSm d.mx
end Go.Dk
namespace Go.Q
open Go Go.Eng Go.Dk Go.RowKit Go.Pw1 Go.Hp
theorem Dr6 {W0 w:World} {d:DkX} {tl:Blks} (hd:DkOk d) (hm:Mem W0 [] (dkB d++tl) w):BenA w d:=by
 have hat:∀ b o,(b,o)∈dkB d→w.heap[b]? = some o:=fun b o hb=>(hm.newd b o (List.mem_append_left _ hb)).2
 have e1:d.vs.map VwX.cells=d.vs.map VwX.cellsS:=List.map_congr_left fun x hx=>VwX.cells_eq (hd.vs x hx)
 have e2:d.bs.map BoX.cells=(d.bs.map BoX.a).map BxA.cells:=by
  rw [List.map_map];exact List.map_congr_left fun x hx=>BoX.cells_eq (hd.bs x hx)
 refine ⟨?_,fun x hx=>?_,⟨?_,fun x hx=>?_,?_⟩,⟨?_,?_,fun x hx=>?_,fun t ht=>?_⟩⟩
 · rw [← e1]
   exact Am3 (f:=VwX.cells) (e:=46) (fun _=>rfl) (by decide) hd.v (fun b o h=>hat b o (DT1 h))
 · exact Am3 (f:=Th.cells) (e:=145) (fun _=>rfl) (by decide) (hd.vs x hx) (fun b o h=>hat b o (DT2 hx h))
 · show Sl w (ownQ d.b) (ownK d.b) 0 2 ((d.bs.map BoX.a).map BxA.cells)
   rw [← e2];exact Am3 (f:=BoX.cells) (e:=65) (fun _=>rfl) (by decide) hd.b (fun b o h=>hat b o (DT4 h))
 · obtain ⟨y,hy,rfl⟩:=List.mem_map.1 hx
   have h1:=hd.bs y hy;rw [Ao3] at h1;exact Am3 (f:=strC) (e:=9) (fun _=>rfl) (by decide) h1 (fun b o h=>hat b o (Dr2 hy (by rw [boB,Ao3];exact h)))
 · exact Am3 (f:=Tn.cells) (e:=165) (fun _=>rfl) (by decide) hd.c (fun b o h=>hat b o (DT3 h))
 · show (d.bs.map BoX.a).length≤1000
   rw [List.length_map]
   have:=hd.few
   omega
 · have:=hd.few
   show d.cs.length≤1000
   omega
 · obtain ⟨y,hy,rfl⟩:=List.mem_map.1 hx
   exact ⟨(hd.ti y hy).1,(hd.ti y hy).2⟩
 · exact hd.tx t ht
end Go.Q
namespace Go.Dk
open Go Go.Eng Go.RowKit Go.Pw1 Go.Hp
theorem BenA.b {W:World} {d:DkX} (h:BenA W d):Sl W (ownQ d.b) (ownK d.b) 0 2 (d.bs.map BoX.cellsS):=by
 have h:=h.m.bx;unfold DkX.mx at h;dsimp only at h;rw [List.map_map] at h;exact h
theorem BenA.c {W:World} {d:DkX} (h:BenA W d):Sl W (ownQ d.c) (ownK d.c) 0 3 (d.cs.map Tn.cells):=h.m.cd
end Go.Dk
namespace Go.Q
open Go Go.Eng Go.Dk Go.RowKit Go.Pw1 Go.Hp
end Go.Q
namespace Go.Dk
open Go Go.Eng Go.RowKit Go.Pw1 Go.Hp
def playX (c:Cd):Bn→List Str→Bn×List Str
 | b,[]=>(b,[])
 | b,s::l=>((playX c (stepX c b s).1 l).1,echoX (stepX c b s).2.1 (stepX c b s).2.2::(playX c (stepX c b s).1 l).2)
theorem BF3 (c:Cd):∀ (l:List Str) (b:Bn) (s:Str),playX c b (l++[s])=((stepX c (playX c b l).1 s).1,(playX c b l).2++[echoX (stepX c (playX c b l).1 s).2.1 (stepX c (playX c b l).1 s).2.2])
 | [],b,s=>rfl
 | t::l,b,s=>by
   have ih:=BF3 c l (stepX c b t).1 s;simp only [List.cons_append,playX,ih]
theorem Ba6 (c:Cd):∀ (l:List Str) (b:Bn),(playX c b l).2.length=l.length
 | [],_=>rfl
 | s::l,b=>by simp only [playX,List.length_cons];rw [Ba6 c l]
end Go.Dk
namespace Go.Q
open Go Go.Eng Go.Dk Go.RowKit Go.Pw1 Go.Hp
theorem Cj6:Enters π 11:=eZ func11
theorem Dq7:Enters π 25:=eZ func25
theorem Dp7:Enters π 65:=eZ func65
theorem DQ3:Enters π 8:=eZ func8
theorem CG1:placesB π 26=some [(0,2),(2,2),(4,1),(5,1),(6,1),(7,1)]:=by kernel_rfl
theorem CG0:placesB π 28=some [(0,8),(8,1),(9,1),(10,1),(11,2),(13,1),(14,1),(15,1),(16,1)]:=by kernel_rfl
end Go.Q
namespace Go.Dk
open Go Go.Eng Go.RowKit Go.Pw1 Go.Hp
theorem CP3 {c:Cd} {l:List Str} (h:farL c l=true) (hl:∀ s∈l,s.length≤400):40 < c.p.things.length∨60 < l.length:=by
 rcases Lc 40 c.p.things.length with h1 | h1
 · exact .inl h1
 · rcases Lc 60 l.length with h2 | h2
   · exact .inr h2
   · rw [DO1 (by omega) hl] at h;cases h
def c3:Cd:=⟨⟨⟨9000,9000⟩,⟨65,66⟩,5,2000,100000,[⟨⟨100,101⟩,⟨0,1⟩,⟨-96,-95⟩,⟨0,2⟩,3000⟩,⟨⟨50,50⟩,⟨10,12⟩,⟨-10,-8⟩,⟨14,15⟩,0⟩]⟩,3200,50,20,⟨6000,6500⟩,300,900,100,200⟩
structure RunD (c:Cd) (l:List Str) (d:DkX):Prop where
 dk:DkOk d
 rt:Right c d.pl
 pl:(playX (bareC c) noBn l).1=d.pl
theorem Co3 (c:Cd):RunD c [] noDk:=⟨Dw0,Co9 c,rfl⟩
theorem CE5 {c:Cd} (hc:cardIs c=true) {l:List Str} {d:DkX} {v:Str} {z:DkX×Str×Int} (h:RunD c l d) (hd:DkOk z.1) (hs:(z.1.pl,z.2.1,z.2.2)=stepX (bareC c) d.pl v):RunD c (l++[v]) z.1 :=
 ⟨hd,by have h9:=Co8 hc h.rt v;rw [← hs] at h9;exact h9,by rw [BF3,h.pl,← hs]⟩
end Go.Dk
namespace Go.Q
open Go Go.Eng Go.Dk Go.RowKit Go.Pw1 Go.Hp
theorem CP4 (c:Cd) (q:OA) (cap:Nat) (l:List Str) (ql:OA) (bl ol cl:Nat) (W:World) (hls:Sl W ql bl ol 1 (l.map strC)) (hll:l.length≤9223372036854775807) (h:farL c l=true) :
  CC 5 #[c.v q cap,.slice ql l.length cl] W (Pure (.bool true) W):=by
 refine cS func5 ?_;refine st ?_;refine zn (Lm rfl) (fun b2=>?_)
 refine Ac8 (l.length) (fun k q=>(9,.I (k:Int))::q) (fun _=>_) (fun _=>[]) (fun k=>∀ s∈l.take k,s.length≤400) (by simp) rfl (zE 9 rfl rfl (zS 1 rfl (zS 2 rfl (zS 7 rfl (zS 8 rfl (Sub.nil _)))))) (qC .nil) ?_;intro k kN kI;refine st ?_;refine cn rfl ?_ ?_
 ·intro c0'
  have hk:k < l.length:=by omega
  obtain ⟨v,hv⟩:∃ v,l[k]=v:=⟨_,rfl⟩;refine st ?_;refine lv (Aa3 rfl rfl An4 (by omega) (by omega) (hls.ptrM (i:=k) hk)) ?_;refine lv (Aa5 rfl (fun w hm=>Sl.loadM1 hls (by decide) hm (by simp) AN0 hk (v:=.string (bs v)) (by simp [strC,hv]))) ?_;refine lv (Aj0 rfl Au9) ?_;refine cn rfl ?_ ?_
  ·intro c1'
   refine su ?_;exact rP
  intro c1';refine st ?_;refine lA ?_;exact Ac2 (by omega) (fun s hs=>by rw [List.take_succ_eq_append_getElem hk,hv] at hs;rcases List.mem_append.1 hs with hs | hs;exact kI s hs;rw [List.mem_singleton] at hs;subst hs;omega) rfl (zE 9 rfl rfl (zS 1 rfl (zS 2 rfl (zS 7 rfl (zS 8 rfl (Sub.nil _)))))) (qC .nil)
 intro c0';have hk:k=l.length:=by omega
 rw [hk,List.take_length] at kI;have hmany:=CP3 h kI;refine Ls ?_;refine su ?_;refine Aa4 ?_;refine su ?_
 refine Ac5 (dj:=22) (dp:=26) 4 rfl (fun g22=>by
  refine st ?_;refine Xa (Ae3 rfl An4) ?_;refine sv ?_;exact zs g22
 ) (fun g22=>by
   iterate 3 refine nQ ?_
   refine sv ?_;exact zs g22
 ) ?_
 refine st ?_;refine Ag6 (dj:=27) true rfl (by simp;omega) ?_;refine su ?_;exact rP
theorem Bx8 (c:Cd) (q:OA) (b o cap:Nat) (l:List Str) (ql:OA) (bl ol cl:Nat) (W:World) (hS:Sl W q b o 9 (c.p.things.map Th.cells)) (hls:Sl W ql bl ol 1 (l.map strC)) (h:farL c l=false) :
  CC 5 #[c.v q cap,.slice ql l.length cl] W (Pure (.bool (heavyC c)) W):=by
 obtain ⟨hl3,hl4,hl5⟩:=BY0 h;refine cS func5 ?_;refine st ?_;refine zn (Lm rfl) (fun b2=>?_)
 refine Ac8 (l.length) (fun k q=>(9,.I (k:Int))::q) (fun _=>_) (fun _=>[]) (fun _=>True) trivial rfl (zE 9 rfl rfl (zS 1 rfl (zS 2 rfl (zS 7 rfl (zS 8 rfl (Sub.nil _)))))) (qC .nil) ?_;intro k kN kI;clear kI;refine st ?_;refine cn rfl ?_ ?_
 ·intro c0'
  have hk:k < l.length:=by omega
  obtain ⟨v,hv⟩:∃ v,l[k]=v:=⟨_,rfl⟩;have hvl:=hl5 v (hv ▸ List.getElem_mem hk);refine st ?_;refine lv (Aa3 rfl rfl An4 (by omega) (by omega) (hls.ptrM (i:=k) hk)) ?_;refine lv (Aa5 rfl (fun w hm=>Sl.loadM1 hls (by decide) hm (by simp) AN0 hk (v:=.string (bs v)) (by simp [strC,hv]))) ?_;refine lv (Aj0 rfl Au9) ?_;refine Ly rfl (fun h=>absurd h (by simp;omega)) ?_;intro c1;clear c1;refine st ?_;refine lA ?_;exact Ac2 (by omega) trivial rfl (zE 9 rfl rfl (zS 1 rfl (zS 2 rfl (zS 7 rfl (zS 8 rfl (Sub.nil _)))))) (qC .nil)
 intro c0';refine Ls ?_;refine su ?_;refine Aa4 ?_;refine su ?_
 refine Ac5 (dj:=22) (dp:=26) 4 rfl (fun g22=>by
  refine st ?_;refine Xa (Ae3 rfl An4) ?_;refine sv ?_;exact zs g22
 ) (fun g22=>by
   iterate 3 refine nQ ?_
   refine sv ?_;exact zs g22
 ) ?_
 refine st ?_;refine Ag6 (dj:=27) false rfl (by simp;omega) ?_;refine su ?_
 refine Ab0 (dj:=31) (dp:=34) 3 rfl (fun g31=>by
  have g31':=g31;try simp only [nH] at g31'
  refine su ?_;refine Xe (zF rfl DQ3) (fun w hm=>AX1 c q b o cap w (hS.mono (by decide) hm (by simp)) (by omega)) ?_;refine sv ?_;exact zs g31
 ) (fun g31=>by
   refine nQ ?_;refine nQ ?_;refine sv ?_;exact zs g31
 ) ?_
 refine su ?_;exact rP
theorem AP1 (a1 a2 a3 a4 a5 a6 a7 a8 a9:Int) (W:World):CC 65 #[.I a1,.I a2,.I a3,.I a4,.I a5,.I a6,.I a7,.I a8,.I a9] W (Pure (Th.v ⟨⟨a2,a3⟩,⟨a4,a5⟩,⟨a6,a7⟩,⟨a8,a9⟩,a1⟩) W):=by
 refine cS func65 ?_;refine st ?_;refine zn (Lp Al0) (fun b18=>?_)
 refine zc (zF rfl AR7) (fun w hm=>Ai3 _ _ w) ?_;refine zc (zF rfl AR7) (fun w hm=>Ai3 _ _ w) ?_;refine lv (Lr (parts:=[(0,.tmp 21),(1,.tmp 24)]) rfl Ba0 AJ7 rfl) ?_;refine zc (zF rfl AR7) (fun w hm=>Ai3 _ _ w) ?_;refine zc (zF rfl AR7) (fun w hm=>Ai3 _ _ w) ?_;refine lv (Lr (parts:=[(0,.tmp 28),(1,.tmp 31)]) rfl Ba0 AJ7 rfl) ?_;refine lv (Lr (parts:=[(0,.tmp 25),(1,.tmp 32),(2,.tmp 33)]) rfl Al0 Bo5 rfl) ?_;refine sQ .here ?_;refine su ?_;exact Aa9 (.r1 rfl (.agg rfl mm0 Ay5 rfl)) (by first | rfl | simp)
theorem AI2 (W:World):CC 23 #[] W (News (fun b:Nat=>c3.v (some ⟨b,0,none⟩) 2) (fun b=>[(b,.cells (c3.p.things.map Th.cells).flatten.toArray 145)]) W):=by
 refine cS func23 ?_;refine st ?_;refine zn (Lp Bt6) (fun b0=>?_)
 refine zc (zF rfl AR7) (fun w hm=>Ai3 _ _ w) ?_;refine zc (zF rfl AR7) (fun w hm=>Ai3 _ _ w) ?_;refine lv (Lr (parts:=[(0,.tmp 3),(1,.tmp 4),(2,.const (.I 5)),(3,.const (.I 2000)),(4,.const (.I 100000))]) rfl Bt7 CG1 rfl) ?_;refine zn (Lp Bt7) (fun b2=>?_)
 refine sQ .here ?_;refine st ?_;refine Xe (Ab4 rfl rfl Dp7) (fun w hm=>AP1 _ _ _ _ _ _ _ _ _ w) ?_;refine st ?_;refine Xe (Ab4 rfl rfl Dp7) (fun w hm=>AP1 _ _ _ _ _ _ _ _ _ w) ?_;refine zn (Lu (parts:=[(0,.tmp 7),(1,.tmp 9)]) rfl Ax9 Al0 rfl rfl rfl rfl) (fun b10=>?_)
 refine sQ (.there .here) ?_;refine st ?_;refine Ab9 2 Ah8 (qE (qC .nil)) ?_;refine zw 0 ?_;refine zA 1 ?_;refine Xd rfl (zF rfl AR7) (fun w hm=>Ai3 _ _ w) (Aa2 (qE (qC .nil)) (qE (qC .nil)) rfl ?_)
 refine zt ?_;refine zo 2 rfl (Lr (parts:=[(0,.tmp 12),(1,.const (.I 3200)),(2,.const (.I 50)),(3,.const (.I 20)),(4,.tmp 13),(5,.const (.I 300)),(6,.const (.I 900)),(7,.const (.I 100)),(8,.const (.I 200))]) rfl Bt6 CG0 rfl) ?_;refine zB 3 ?_;refine Xr rfl (Lt rfl rfl (.there (.there .here)) CA3 rfl rfl) (Ab2 ?_)
 refine zd ?_;refine su ?_;exact Ld (chg:=[]) (.r1 rfl (.agg rfl mm2 CA3 rfl)) (fun _ hm=>⟨b10,rfl,hm.pick (qC .nil)⟩)
theorem CU6 (c:Cd) (q:OA) (b o cap:Nat) (hq:q=none→cap=0) (l:List Str) (ql:OA) (cl:Nat) (W:World) (hS:Sl W q b o 9 (c.p.things.map Th.cells)) (hl:c.p.things.length≤1000) (hc:cardIs c=false) :
  CC 7 #[c.v q cap,.slice ql l.length cl] W (Pure (.pointer none) W):=by
 have hund:π.underlying 32=some (.pointer 88):=by kernel_rfl
 refine cS func7 ?_;refine st ?_;refine zn (Lm rfl) (fun b2=>?_)
 refine zc (zF rfl Dq7) (fun w hm=>DU8 c q b o cap w (hS.mono (by decide) hm (by simp)) hq (by omega) hc) ?_;refine lv (Ak1 rfl hund) ?_;refine Ai9 rfl ?_;refine su ?_;exact rP
open Classical in
theorem _root_.Go.pk2 {l m:Eng.Blks} (h:∀ x,l.count x≤m.count x:=by intro x;simp only [nC,dkM,Value.I];omega):Eng.Pick l m:=Eng.Pick.cnt h
set_option maxHeartbeats 2000000 in
theorem CU5 (c:Cd) (q:OA) (b o cap:Nat) (hq:q=none→cap=0) (l:List Str) (ql:OA) (bl ol cl:Nat) (W:World) (hL:Lw π W) (hS:Sl W q b o 9 (c.p.things.map Th.cells)) (hl:c.p.things.length≤1000) (hls:Sl W ql bl ol 1 (l.map strC)) (hln:l.length≤10000) (hlv:∀ s∈l,s.length≤100000) (hc:cardIs c=true) :
  CC 7 #[c.v q cap,.slice ql l.length cl] W (Grow W [] (fun z:Nat×DkX=>pV z.1) (fun z=>(z.1,dkO z.2 c)::(dkB z.2++[])) (fun z=>RunD c l z.2)):=by
 have hund:π.underlying 32=some (.pointer 88):=by kernel_rfl
 refine cS func7 ?_;refine st ?_;refine zn (Lm rfl) (fun b2=>?_)
 refine Xj (zF rfl Dq7) (fun w hm=>DU7 c q b o cap w (hS.mono (by decide) hm (by simp)) hq (by omega) hc) (fun b11=>?_)
 refine st ?_;refine lv (Ak1 rfl hund) ?_;refine Ae9 rfl ?_;refine su ?_;refine Af2 (X:=DkX) (n0:=[(b2,_)]) (l.length) (fun k y q=>(18,.I (k:Int))::q) (fun _ _=>_) (fun k y=>[(b11,dkO y c)]) (fun k y=>dkB y++[]) (fun k y=>RunD c (l.take k) y) noDk (Co3 c) rfl (zE 18 rfl rfl (zS 1 rfl (zS 2 rfl (zS 5 rfl (zS 16 rfl (zS 17 rfl (Sub.nil _))))))) (qE (Pick.same rfl)) ?_;intro k y kN kI;refine st ?_;refine cn rfl ?_ ?_
 ·intro c1'
  have hk:k < l.length:=by omega
  obtain ⟨v,hv⟩:∃ v,l[k]=v:=⟨_,rfl⟩;have hvm:v∈l:=hv ▸ List.getElem_mem hk;refine st ?_;refine lv (Aa3 rfl rfl An4 (by omega) (by omega) (hls.ptrM hk)) ?_;refine lv (Aa5 rfl (fun w hm=>Sl.loadM1 hls (by decide) hm (by simp) AN0 hk (v:=.string (bs v)) (by simp [strC,hv]))) ?_;refine Xq (zF rfl Cj6) (fun w hm=>(Bb6 (nw':=fun z:DkX×Str×Int=>(b11,dkO z.1 c)::(b2,.cells (cellsL (c.v q cap)).toArray 28)::(dkB z.1++[])) (AL5 v (hlv v hvm) b11 y c ((b2,.cells (cellsL (c.v q cap)).toArray 28)::[]) W w hL kI.dk (hm.pick pk2)) (fun _=>pk2))) (fun z24 hz24=>?_)
  obtain ⟨hzd,hzs⟩:=hz24;refine st ?_;refine lA ?_;exact Ac3 z24.1 (by omega) (by rw [List.take_succ_eq_append_getElem hk,hv];exact CE5 hc kI hzd hzs) rfl (zE 18 rfl rfl (zS 1 rfl (zS 2 rfl (zS 5 rfl (zS 16 rfl (zS 17 rfl (Sub.nil _))))))) (qE (Pick.refl _))
 intro c1';have hk:k=l.length:=by omega
 rw [hk,List.take_length] at kI;refine Ls ?_;refine su ?_;refine Aa4 ?_;refine su ?_;exact CX8 (b11,y) kI rZ rfl (qC (Pick.skip (Pick.refl _)))
end Go.Q
namespace Go.Eng
open Go Go.RowKit
end Go.Eng
namespace Go.Dk
open Go Go.Eng Go.RowKit Go.Pw1 Go.Hp
structure CutOk (c:Cd) (pre:List Str) (d:DkX) (ko ro:Eng.Own) (kl rl:List Str):Prop where
 dk:DkOk d
 o1:OwnOk 1 ko kl.length (kl.map strC).flatten
 o2:OwnOk 1 ro rl.length (rl.map strC).flatten
 pl:playX (bareC c) noBn kl=(d.pl,rl)
 n:kl.length≤pre.length
 s:∀ s∈kl,s∈pre
theorem CutOk.len {c:Cd} {pre:List Str} {d:DkX} {ko ro:Eng.Own} {kl rl:List Str} (h:CutOk c pre d ko ro kl rl):rl.length=kl.length:=by
 have:=Ba6 (bareC c) kl noBn
 rw [h.pl] at this;exact this
end Go.Dk
namespace Go.Q
open Go Go.Eng Go.Dk Go.RowKit Go.Pw1 Go.Hp
end Go.Q
namespace Go.Dk
open Go Go.Eng Go.RowKit Go.Pw1 Go.Hp
theorem Dr5 {n:Int} (h:Big n):In64 n:=by unfold Big at h;unfold In64;omega
end Go.Dk
namespace Go.Q
open Go Go.Eng Go.Dk Go.RowKit Go.Pw1 Go.Hp
section
variable (xb:Nat) (d:DkX) (c:Cd) (rest:Blks) (W0 w:World) (i:Nat) (p:Pr)
end
theorem AD0 (n lo hi:Int) (W:World):CC 111 #[.I n,.I lo,.I hi] W (Pure (.bool (within n lo hi)) W):=by
 refine cS func111 ?_;refine csr ?_;refine vQ ?_;refine nsr ?_
 iterate 4 refine vQ ?_
 refine Ab0 (dj:=10) (dp:=14) 4 rfl (fun g10=>by
  iterate 4 refine vQ ?_
  exact Ac1 (Kg rfl (qU (Ad2 rfl (by rw [g10]) (Ab3 _)))) (List.Sublist.refl _)
 ) (fun g10=>by
   iterate 3 refine nQ ?_
   refine vQ ?_;exact Ac1 (Kg rfl (qU (Ad2 rfl (by rw [g10]) (Ab3 _)))) (List.Sublist.refl _)
 ) ?_
 refine vQ ?_;refine nnx ?_;refine Ks ?_;exact rP
def ymisf (k:Int):Value:=.iface 183 (.agg #[.I k])
theorem Aw3 (b:Bool) (e:Int) (W:World):CC 112 #[.bool b,.I e] W (Try ymisf (needX b e) W):=by
 refine cS func112 ?_;refine csr ?_;refine vQ ?_;refine vQ ?_;refine nnx ?_;refine Ly rfl ?_ ?_
 ·intro c0
  have c0':=c0;clear c0;try simp only [nH] at c0'
  refine Kv ?_;refine vQ ?_;refine Xa (Lr (parts:=[(0,.tmp 6)]) rfl Ce4 Cr4 rfl) ?_;refine Xa (Lz rfl Ch4) ?_;refine AA7 rfl ?_;exact Ae2 (k:=e) (by simp [needX,show b=false by simpa using c0'])
 intro c0;have c0':=c0;clear c0;try simp only [nH] at c0'
 refine Kd ?_;exact At4 (.r0 rfl) (by simp [needX,show b=true by simpa using c0'])
theorem BR1 (a b:Int×Int) (h:(-9000000000000000000≤a.1 - b.2∧a.1 - b.2≤9000000000000000000)∧-9000000000000000000≤a.2 - b.1∧a.2 - b.1≤9000000000000000000) (W:World):CC 305 #[b2v a,b2v b] W (Pure (b2v (lessZ a b)) W):=by
 refine cS func305 ?_;refine csr ?_;refine Xg (Lm rfl) (fun b2=>?_)
 refine Xg (Lm rfl) (fun b3=>?_)
 refine Xg (Lp Ba1) (fun b4=>?_)
 refine nsr ?_;refine Xa (Lo rfl Bh7) ?_;refine Xa (Aa6 rfl mm2 Ae0 rfl) ?_;refine Xa (Lo rfl Bh6) ?_;refine Xa (Aa6 rfl mm1 Ae0 rfl) ?_;refine Xa (Ad8 rfl rfl (Lq _ ⟨by omega,by omega⟩)) ?_;refine Xa (Lo rfl Bh6) ?_;refine Xa (Aa6 rfl mm2 Ae0 rfl) ?_;refine Xa (Lo rfl Bh7) ?_;refine Xa (Aa6 rfl mm1 Ae0 rfl) ?_;refine Xa (Ad8 rfl rfl (Lq _ ⟨by omega,by omega⟩)) ?_;refine Xa (Lr (parts:=[(0,.tmp 9),(1,.tmp 14)]) rfl Ba1 Cr9 rfl) ?_;refine sQ .here ?_;refine nnx ?_;refine Ks ?_;exact Aa9 (.r1 rfl (.agg rfl mm0 Bm9 rfl)) (by first | rfl | simp)
theorem AW2 (W:World):CC 109 #[] W (Pure (.agg #[.func (.func 154) #[] #[],.func (.func 155) #[] #[]]) W):=by
 refine cS func109 ?_;refine csr ?_;refine Xg (Lp Ce3) (fun b0=>?_)
 refine nsr ?_;refine Xa (Lr (parts:=[(0,.func 154),(1,.func 155)]) rfl Ce3 Cr2 rfl) ?_;refine sQ .here ?_;refine nnx ?_;refine Ks ?_;exact Aa9 (.r1 rfl (.agg rfl mm0 Dn6 rfl)) (by first | rfl | simp)
theorem AW3 (g:Gl) (a:Ga) (b:Nat) (W:World) (hb:W.heap[b]? = some (.cells (g.cells a).toArray 186)):CC 154 #[.pointer (some ⟨b,0,none⟩)] W (Pure (g.f.v a.q1 a.c1) W):=by
 refine cS func154 ?_;refine csr ?_;refine Xg (Lp Bt7) (fun b2=>?_)
 refine nsr ?_;refine vQ ?_;refine vQ ?_;refine Xa (Lo rfl Bh5) ?_;refine Xa (Lo rfl Bb3) ?_;refine Xa (Ag2 rfl hb (by simp) Bc7 rfl) ?_;refine sQ .here ?_;refine nnx ?_;refine Ks ?_;exact Aa9 (.r1 rfl (.agg rfl mm0 Bc7 rfl)) (by first | rfl | simp)
theorem AO8 (g:Gl) (a:Ga) (b:Nat) (W:World) (hb:W.heap[b]? = some (.cells (g.cells a).toArray 186)):CC 155 #[.pointer (some ⟨b,0,none⟩)] W (Pure (g.s.v a.q2 a.c2) W):=by
 refine cS func155 ?_;refine csr ?_;refine Xg (Lp Bt7) (fun b2=>?_)
 refine nsr ?_;refine vQ ?_;refine vQ ?_;refine Xa (Lo rfl Bh5) ?_;refine Xa (Lo rfl Bx2) ?_;refine Xa (Ag2 rfl hb (by simp) Bc7 rfl) ?_;refine sQ .here ?_;refine nnx ?_;refine Ks ?_;exact Aa9 (.r1 rfl (.agg rfl mm0 Bc7 rfl)) (by first | rfl | simp)
theorem Bl1 (g:Gl) (a:Ga) (n:Int) (hl:g.f.things.length≤100000000000) (W:World):CC 42 #[g.v a,.I n] W (Pure (.bool (isThingG g n)) W):=by
 refine cS func42 ?_;refine csr ?_;refine Xg (Lm rfl) (fun b2=>?_)
 refine vQ ?_;refine nsr ?_;refine vQ ?_;refine Xa (Lo rfl Bb3) ?_;refine Xa (Lo rfl AK9) ?_;refine Xa (Aa6 rfl mm0 AD3 rfl) ?_;refine Xa (Ae3 rfl Ax9) ?_;refine Xa (Ad8 rfl rfl (Lq _ ⟨by omega,by omega⟩)) ?_;refine Xe (Ab8 rfl BZ9) (fun w hm=>AD0 _ _ _ w) ?_;refine vQ ?_;refine nnx ?_;refine Ks ?_;exact rP
theorem BR2 (b:Nat) (W:World):CC 40 #[.nilIface,.pointer (some ⟨b,0,none⟩)] W (Pure (.tuple #[]) W):=by
 refine cS func40 ?_;refine Lx ?_;refine csr ?_;refine vQ ?_;refine Xa (Ax6 rfl AL8) ?_;refine nnx ?_;refine Ly rfl ?_ (fun h=>absurd h (by simp))
 intro c0;clear c0;refine Ks ?_;refine Ad1 ?_;exact Aa9 (.r0 rfl) (by first | rfl | simp)
theorem BR3 (b:Nat) (k:Int) (x:Value) (W:World) (hb:W.heap[b]? = some (.cells #[x] 49 (0,0))):CC 40 #[ymisf k,.pointer (some ⟨b,0,none⟩)] W (Turns b (.cells #[.I k] 49 (0,0)) (.tuple #[]) W):=by
 refine Af9 hb func40 rfl rfl ?_;refine Lx ?_;refine csr ?_;refine vQ ?_;refine Xa (Aq7 rfl AL8) ?_;refine nnx ?_;refine Ly rfl (fun h=>absurd h (by simp)) ?_;intro c0;clear c0;refine Kd ?_;refine Ke ?_;refine csr ?_;refine vQ ?_;refine Xa (Al8 rfl Ch4) ?_
 iterate 3 refine vQ ?_
 refine Xg (Lp Ce4) (fun b4=>?_)
 refine sQ .here ?_;refine vQ ?_;refine nnx ?_;refine Lx ?_;refine csr ?_;refine vQ ?_;refine vQ ?_;refine nnx ?_;refine Ly rfl (fun h=>absurd h (by simp)) ?_;intro c1;clear c1;refine Kd ?_;refine Ke ?_;refine Kv ?_;refine vQ ?_;refine Xa (Lo rfl BL1) ?_;refine Xa (Aa6 rfl mm1 Af8 rfl) ?_;refine vQ ?_;refine Xs (Ab7 rfl rfl .here Af8 rfl rfl) ?_;refine Kf ?_;exact Ak2 (chg:=[(b,_)]) (.r0 rfl) (fun _ hm=>⟨rfl,hm.drop⟩)
theorem BR6 (b:Nat) (w:World):CallsD π 39 #[.pointer (some ⟨b,0,none⟩)] .returning w fun e u w'=>(∃ v,e = .returned v)∧u = .returning∧Mem w [] [] w':=by
 refine callsD_of_wpS func39 rfl fun c₀ cs hu=>?_
 refine wpS_region ?_;simp [wpOpsS,go_sem,recoverD,hu,ntmps39,Exit.thenS]
 refine (BR2 b w).mono ?_
 rintro e w' ⟨rfl,hm⟩
 exact ⟨rfl,.returning,by rw [← hu],_,results_none rfl _ _ _,⟨_,rfl⟩,rfl,hm⟩
theorem BR5 (b:Nat) (k:Int) (x:Value) (w:World) (hb:w.heap[b]? = some (.cells #[x] 49 (0,0))):CallsD π 39 #[.pointer (some ⟨b,0,none⟩)] (.panicking [{ v:=ymisf k,recovered:=false }]) w fun e u w' =>
  (∃ v,e = .returned v)∧u = .panicking [{ v:=ymisf k,recovered:=true }]∧Mem w [(b,.cells #[.I k] 49 (0,0))] [] w':=by
 refine callsD_of_wpS func39 rfl fun c₀ cs hu=>?_
 refine wpS_region ?_;simp [wpOpsS,go_sem,recoverD,hu,ntmps39,Exit.thenS]
 refine (BR3 b k x w hb).mono ?_
 rintro e w' ⟨rfl,hm⟩
 exact ⟨rfl,.panicking [{ v:=ymisf k,recovered:=true }],rfl,_,results_none rfl _ _ _,⟨_,rfl⟩,rfl,hm⟩
theorem AA9:Catches π 39 49 ymisf:=⟨BR6,fun b k x w h=>BR5 b k x w h⟩
theorem BR0 (g:Gl) (a:Ga) (valid:Bool) (W:World) (hG:GIn W g a) :
  CC 41 #[g.v a,.bool valid] W (TryN ymisf (openG g valid) (fun _ b=>.pointer (some ⟨b,0,none⟩)) (fun _ b=>[(b,.cells (g.cells a).toArray 186)]) W):=by
 refine cS func41 ?_;refine csr ?_;refine Xg (Lm rfl) (fun b2=>?_)
 refine vQ ?_;refine nsr ?_;refine Xa (Ab5 rfl mm0 Db7 rfl) ?_;refine Xa (Lr (parts:=[(0,.tmp 12)]) rfl CZ8 Cr3 rfl) ?_;refine Xg (Lm rfl) (fun b14=>?_)
 refine vQ ?_;refine nsr ?_;refine Xg (Lp CZ7) (fun b6=>?_)
 refine nnx ?_;refine Lx ?_;refine csr ?_;refine Xe (Ab8 rfl CT7) (fun w hm=>AW2 w) ?_;refine vQ ?_;refine nnx ?_;refine Kr ?_;refine Ar1 2 ?_;refine csr ?_;refine vQ ?_;refine nnx ?_;refine Lx ?_;refine Ly rfl ?_ (fun h=>absurd h (by decide))
 intro c0;clear c0;refine Kd ?_;refine Ke ?_;refine Lx ?_;refine Kr ?_;refine csr ?_;refine vQ ?_;refine Xa (Aj4 rfl rfl Bb9 (by decide) (by decide) rfl) ?_;refine vQ ?_;refine vQ ?_;refine nnx ?_;refine Kv ?_
 iterate 3 refine vQ ?_
 refine Xe (Ab4 rfl rfl CS6) (fun w hm=>AW3 g a _ w (hm.at mm1)) ?_;refine Xe (Ab8 rfl Bz0) (fun w hm=>AF4 g.f a.q1 a.b1 a.o1 a.c1 w (hG.mono hm).s1 hG.l1) ?_
 iterate 3 refine vQ ?_
 refine Xa (Aa7 rfl rfl BB0 (by decide) (by decide)) ?_;refine sQ .here ?_;refine Kf ?_;refine Ac4 ?_;refine Ke ?_;refine Kv ?_;refine Xa (Kb rfl rfl (Lq _ ⟨by decide,by decide⟩)) ?_;refine vQ ?_;refine Kf ?_;refine Ag3 ?_;refine csr ?_;refine vQ ?_;refine nnx ?_;refine Lx ?_;refine Ly rfl ?_ (fun h=>absurd h (by decide))
 intro c0;clear c0;refine Kd ?_;refine Ke ?_;refine Lx ?_;refine Kr ?_;refine csr ?_;refine vQ ?_;refine Xa (Aj4 rfl rfl Bb9 (by decide) (by decide) rfl) ?_;refine vQ ?_;refine vQ ?_;refine nnx ?_;refine Kv ?_
 iterate 3 refine vQ ?_
 refine Xe (Ab4 rfl rfl CS5) (fun w hm=>AO8 g a _ w (hm.at mm1)) ?_;refine Xe (Ab8 rfl Bz0) (fun w hm=>AF4 g.s a.q2 a.b2 a.o2 a.c2 w (hG.mono hm).s2 hG.l2) ?_
 iterate 3 refine vQ ?_
 refine Xa (Aa7 rfl rfl BB0 (by decide) (by decide)) ?_;refine sQ .here ?_;refine Kf ?_;refine Ac4 ?_;refine Ke ?_;refine Kv ?_;refine Xa (Kb rfl rfl (Lq _ ⟨by decide,by decide⟩)) ?_;refine vQ ?_;refine Kf ?_;refine Ag3 ?_;refine csr ?_;refine vQ ?_;refine nnx ?_;refine Lx ?_;refine Ly rfl (fun h=>absurd h (by decide)) ?_;intro c0;clear c0;refine Ls ?_;refine Ac0 ?_;refine Ac0 ?_;refine Aa4 ?_;refine Ke ?_;refine csr ?_;refine Xa (Lo rfl Bb3) ?_;refine Xa (Lo rfl AK9) ?_;refine Xa (Aa6 rfl mm2 AD3 rfl) ?_;refine Xa (Ae3 rfl Ax9) ?_;refine Xa (Lo rfl Bx2) ?_;refine Xa (Lo rfl AK9) ?_;refine Xa (Aa6 rfl mm2 AD3 rfl) ?_;refine Xa (Ae3 rfl Ax9) ?_;refine vQ ?_;refine vQ ?_
 refine Ab0 (dj:=39) (dp:=43) 4 rfl (fun g39=>by
  refine Xa (Lo rfl Bx1) ?_;refine Xa (Aa6 rfl mm2 Ae0 rfl) ?_;refine Xe (Ab8 rfl BZ9) (fun w hm=>AD0 _ _ _ w) ?_;refine vQ ?_;exact Ac1 (Kg rfl (qU (Ad2 rfl (by rw [g39]) (Ab3 _)))) (List.Sublist.refl _)
 ) (fun g39=>by
   iterate 3 refine nQ ?_
   refine vQ ?_;exact Ac1 (Kg rfl (qU (Ad2 rfl (by rw [g39]) (Ab3 _)))) (List.Sublist.refl _)
 ) ?_
 refine vQ ?_
 refine Ab0 (dj:=44) (dp:=48) 4 rfl (fun g44=>by
  refine Xa (Lo rfl Bx0) ?_;refine Xa (Aa6 rfl mm2 Ae0 rfl) ?_;refine Xe (Ab8 rfl BZ9) (fun w hm=>AD0 _ _ _ w) ?_;refine vQ ?_;exact Ac1 (Kg rfl (qU (Ad2 rfl (by rw [g44]) (Ab3 _)))) (List.Sublist.refl _)
 ) (fun g44=>by
   iterate 3 refine nQ ?_
   refine vQ ?_;exact Ac1 (Kg rfl (qU (Ad2 rfl (by rw [g44]) (Ab3 _)))) (List.Sublist.refl _)
 ) ?_
 refine vQ ?_
 refine Ab0 (dj:=49) (dp:=55) 6 rfl (fun g49=>by
  refine Xa (Lo rfl Bx1) ?_;refine Xa (Aa6 rfl mm2 Ae0 rfl) ?_;refine Xa (Lo rfl Bx0) ?_;refine Xa (Aa6 rfl mm2 Ae0 rfl) ?_;refine vQ ?_;refine vQ ?_;exact Ac1 (Kg rfl (qU (qT (Ad2 rfl (by rw [g49]) (Ab3 _))))) (List.Sublist.refl _)
 ) (fun g49=>by
   iterate 5 refine nQ ?_
   refine vQ ?_;exact Ac1 (Kg rfl (qU (qT (Ad2 rfl (by rw [g49]) (Ab3 _))))) (List.Sublist.refl _)
 ) ?_
 refine vQ ?_;refine nsr ?_;refine vQ ?_;refine vQ ?_
 refine Ab0 (dj:=57) (dp:=61) 4 rfl (fun g57=>by
  refine Xa (Aa7 rfl rfl BB0 (by decide) (by decide)) ?_;refine Xa (Aa6 rfl mm0 Af8 rfl) ?_;refine vQ ?_;refine vQ ?_;exact Ac1 (Kg rfl (qU (Ad2 rfl (by rw [g57]) (Ab3 _)))) (List.Sublist.refl _)
 ) (fun g57=>by
   iterate 3 refine nQ ?_
   refine vQ ?_;exact Ac1 (Kg rfl (qU (Ad2 rfl (by rw [g57]) (Ab3 _)))) (List.Sublist.refl _)
 ) ?_
 refine vQ ?_
 refine Ab0 (dj:=62) (dp:=66) 4 rfl (fun g62=>by
  refine Xa (Aa7 rfl rfl BB0 (by decide) (by decide)) ?_;refine Xa (Aa6 rfl mm0 Af8 rfl) ?_;refine vQ ?_;refine vQ ?_;exact Ac1 (Kg rfl (qU (Ad2 rfl (by rw [g62]) (Ab3 _)))) (List.Sublist.refl _)
 ) (fun g62=>by
   iterate 3 refine nQ ?_
   refine vQ ?_;exact Ac1 (Kg rfl (qU (Ad2 rfl (by rw [g62]) (Ab3 _)))) (List.Sublist.refl _)
 ) ?_
 refine Xh (Ab8 rfl Bi7) (fun w hm=>Aw3 _ _ w) (fun e67 he67=>?_) (fun v67 hv67=>?_)
 ·obtain ⟨er67,rfl⟩:=Ac9 he67
  refine Aa1 ?_;exact Ai5 (by simp_all [openG,fitG])
 obtain ⟨ok67,rfl⟩:=Ad9 hv67;refine nsr ?_;refine vQ ?_;refine Xh (Ab8 rfl Bi7) (fun w hm=>Aw3 _ _ w) (fun e69 he69=>?_) (fun v69 hv69=>?_)
 ·obtain ⟨er69,rfl⟩:=Ac9 he69
  refine Aa1 ?_;exact Ai5 (by simp_all [openG,fitG])
 obtain ⟨ok69,rfl⟩:=Ad9 hv69;refine nnx ?_;refine Lx ?_;refine csr ?_;refine Xa (Ab5 rfl mm0 Dn7 rfl) ?_;refine vQ ?_;refine nnx ?_;refine Kr ?_;refine Ar1 2 ?_;refine csr ?_;refine vQ ?_;refine nnx ?_;refine Lx ?_;refine Ly rfl ?_ (fun h=>absurd h (by decide))
 intro c1;clear c1;refine Kd ?_;refine Ke ?_;refine Lx ?_;refine Kr ?_;refine csr ?_;refine Xa (Aj4 rfl rfl Ck9 (by decide) (by decide) rfl) ?_;refine vQ ?_;refine nnx ?_;refine Kv ?_
 iterate 3 refine vQ ?_
 refine Xh (Ab8 rfl Bi7) (fun w hm=>Aw3 _ _ w) (fun e77 he77=>?_) (fun v77 hv77=>?_)
 ·obtain ⟨er77,rfl⟩:=Ac9 he77
  refine Ad0 ?_;refine Aa1 ?_;refine Aa1 ?_;refine Ad0 ?_;refine Aa1 ?_;exact Ai5 (by simp_all [openG,fitG])
 obtain ⟨ok77,rfl⟩:=Ad9 hv77;refine Kf ?_;refine Ac4 ?_;refine Ke ?_;refine Kv ?_;refine Xa (Kb rfl rfl (Lq _ ⟨by decide,by decide⟩)) ?_;refine vQ ?_;refine Kf ?_;refine Ag3 ?_;refine csr ?_;refine vQ ?_;refine nnx ?_;refine Lx ?_;refine Ly rfl ?_ (fun h=>absurd h (by decide))
 intro c1;clear c1;refine Kd ?_;refine Ke ?_;refine Lx ?_;refine Kr ?_;refine csr ?_;refine Xa (Aj4 rfl rfl Ck9 (by decide) (by decide) rfl) ?_;refine vQ ?_;refine nnx ?_;refine Kv ?_
 iterate 3 refine vQ ?_
 refine Xh (Ab8 rfl Bi7) (fun w hm=>Aw3 _ _ w) (fun e77 he77=>?_) (fun v77 hv77=>?_)
 ·obtain ⟨er77,rfl⟩:=Ac9 he77
  refine Ad0 ?_;refine Aa1 ?_;refine Aa1 ?_;refine Ad0 ?_;refine Aa1 ?_;exact Ai5 (by simp_all [openG,fitG])
 obtain ⟨ok77,rfl⟩:=Ad9 hv77;refine Kf ?_;refine Ac4 ?_;refine Ke ?_;refine Kv ?_;refine Xa (Kb rfl rfl (Lq _ ⟨by decide,by decide⟩)) ?_;refine vQ ?_;refine Kf ?_;refine Ag3 ?_;refine csr ?_;refine vQ ?_;refine nnx ?_;refine Lx ?_;refine Ly rfl (fun h=>absurd h (by decide)) ?_;intro c1;clear c1;refine Ls ?_;refine Ac0 ?_;refine Ac0 ?_;refine Aa4 ?_;refine Ke ?_;refine csr ?_;refine vQ ?_;refine vQ ?_;refine nnx ?_;refine Ks ?_;exact AL3 (a:=()) b14 rZ (by simp_all [openG,fitG]) rfl (qD .nil)
theorem Cl7 (g:Gl) (a:Ga) (n:Int) (b:Nat) (W:World) (hb:W.heap[b]? = some (.cells (g.cells a).toArray 186)) (hG:GIn W g a) :
  CC 113 #[.pointer (some ⟨b,0,none⟩),.I n] W (Pure (.tuple #[z2v (farG g n),.bool (seenG g n)]) W):=by
 refine cS func113 ?_;refine csr ?_;refine Xg (Lp Ce2) (fun b4=>?_)
 refine vQ ?_;refine nsr ?_;refine vQ ?_;refine nnx ?_;refine Lx ?_;refine csr ?_;refine Xe (Ab8 rfl CT7) (fun w hm=>AW2 w) ?_;refine vQ ?_;refine nnx ?_;refine Kr ?_;refine Ar1 2 ?_;refine csr ?_;refine vQ ?_;refine nnx ?_;refine Lx ?_;refine Ly rfl ?_ (fun h=>absurd h (by decide))
 intro c0;clear c0;refine Kd ?_;refine Ke ?_;refine Lx ?_;refine Kr ?_;refine csr ?_;refine vQ ?_;refine Xa (Aj4 rfl rfl Bb9 (by decide) (by decide) rfl) ?_;refine vQ ?_;refine vQ ?_;refine nsr ?_;refine vQ ?_;refine vQ ?_;refine Xe (Ab4 rfl rfl CS6) (fun w hm=>AW3 g a _ w (hm.old_at hb (by simp))) ?_;refine vQ ?_;refine Xe (Ab8 rfl By9) (fun w hm=>Ar6 g.f n a.q1 a.b1 a.o1 a.c1 w (hG.mono hm).s1 hG.l1) ?_
 iterate 3 refine vQ ?_
 refine Xg (Lp Ad6) (fun b8=>?_)
 refine sQ .here ?_;refine vQ ?_;refine nnx ?_;refine Kv ?_;refine vQ ?_;refine Xa (Ab5 rfl mm0 Ai6 rfl) ?_;refine vQ ?_;refine vQ ?_
 refine Ab0 (dj:=26) (dp:=29) 3 rfl (fun g26=>by
  iterate 3 refine vQ ?_
  exact Ac1 (Kg rfl (qT (qS (Ad2 rfl (by rw [g26]) (Ab3 _))))) (List.Sublist.refl _)
 ) (fun g26=>by
   refine nQ ?_;refine nQ ?_;refine vQ ?_;exact Ac1 (Kg rfl (qT (qS (Ad2 rfl (by rw [g26]) (Ab3 _))))) (List.Sublist.refl _)
 ) ?_
 refine Xa (Aa7 rfl rfl BA9 (by decide) (by decide)) ?_;refine sQ (.there .here) ?_;refine vQ ?_;refine Kf ?_;refine Ac4 ?_;refine Ke ?_;refine Kv ?_;refine Xa (Kb rfl rfl (Lq _ ⟨by decide,by decide⟩)) ?_;refine vQ ?_;refine Kf ?_;refine Ak5 (Kg (t:=0) rfl (Kg (t:=1) rfl (Kg (t:=4) rfl (Kg (t:=5) rfl (Kg (t:=10) rfl (Kg (t:=11) rfl (Sub.nil _))))))) (qD .nil) ?_;refine Ag3 ?_;refine csr ?_;refine vQ ?_;refine nnx ?_;refine Lx ?_;refine Ly rfl ?_ (fun h=>absurd h (by decide))
 intro c0;clear c0;refine Kd ?_;refine Ke ?_;refine Lx ?_;refine Kr ?_;refine csr ?_;refine vQ ?_;refine Xa (Aj4 rfl rfl Bb9 (by decide) (by decide) rfl) ?_;refine vQ ?_;refine vQ ?_;refine nsr ?_;refine vQ ?_;refine vQ ?_;refine Xe (Ab4 rfl rfl CS5) (fun w hm=>AO8 g a _ w (hm.old_at hb (by simp))) ?_;refine vQ ?_;refine Xe (Ab8 rfl By9) (fun w hm=>Ar6 g.s n a.q2 a.b2 a.o2 a.c2 w (hG.mono hm).s2 hG.l2) ?_
 iterate 3 refine vQ ?_
 refine Xg (Lp Ad6) (fun b8=>?_)
 refine sQ .here ?_;refine vQ ?_;refine nnx ?_;refine Kv ?_;refine vQ ?_;refine Xa (Ab5 rfl mm0 Ai6 rfl) ?_;refine vQ ?_;refine vQ ?_
 refine Ab0 (dj:=26) (dp:=29) 3 rfl (fun g26=>by
  iterate 3 refine vQ ?_
  exact Ac1 (Kg rfl (qT (qS (Ad2 rfl (by rw [g26]) (Ab3 _))))) (List.Sublist.refl _)
 ) (fun g26=>by
   refine nQ ?_;refine nQ ?_;refine vQ ?_;exact Ac1 (Kg rfl (qT (qS (Ad2 rfl (by rw [g26]) (Ab3 _))))) (List.Sublist.refl _)
 ) ?_
 refine Xa (Aa7 rfl rfl BA9 (by decide) (by decide)) ?_;refine sQ (.there .here) ?_;refine vQ ?_;refine Kf ?_;refine Ac4 ?_;refine Ke ?_;refine Kv ?_;refine Xa (Kb rfl rfl (Lq _ ⟨by decide,by decide⟩)) ?_;refine vQ ?_;refine Kf ?_;refine Ak5 (Kg (t:=0) rfl (Kg (t:=1) rfl (Kg (t:=4) rfl (Kg (t:=5) rfl (Kg (t:=10) rfl (Kg (t:=11) rfl (Sub.nil _))))))) (qD .nil) ?_;refine Ag3 ?_;refine csr ?_;refine vQ ?_;refine nnx ?_;refine Lx ?_;refine Ly rfl (fun h=>absurd h (by decide)) ?_;intro c0;clear c0;refine Ls ?_;refine Ac0 ?_;refine Ac0 ?_;refine Aa4 ?_;refine Ke ?_;refine csr ?_;refine Xa (Ab5 rfl mm0 Cf3 rfl) ?_;refine vQ ?_;refine sQ .here ?_;refine vQ ?_;refine nnx ?_;refine Ks ?_;exact Aa9 (.r2 rfl (.agg rfl mm0 Cf3 rfl) (.tmp rfl)) (by simp [farG,seenG,z2v,z2c])
def Zok (z:Z2):Prop:=(0≤z.1.1∧z.1.1≤1100000000)∧(0≤z.1.2∧z.1.2≤1100000000)∧(0≤z.2.1∧z.2.1≤1100000000)∧(0≤z.2.2∧z.2.2≤1100000000)
theorem Dx9 (g:Gl) (n:Int):Zok (farG g n):=by
 have h1:=BM3 g.f n;have h2:=BM3 g.s n;exact ⟨⟨h1.1,h1.2.1⟩,⟨h1.2.2.1,h1.2.2.2⟩,⟨h2.1,h2.2.1⟩,⟨h2.2.2.1,h2.2.2.2⟩⟩
theorem Zok.mul {z:Z2} (h:Zok z):∀ x y:Int,(-4000≤x∧x≤4000)→y∈[z.1.1,z.1.2,z.2.1,z.2.2]→-5000000000000≤x * y∧x * y≤5000000000000:=by
 intro x y hx hy;obtain ⟨h1,h2,h3,h4⟩:=h
 have hy2:0≤y∧y≤1100000000:=by
  simp only [List.mem_cons,List.not_mem_nil,or_false] at hy
  rcases hy with rfl | rfl | rfl | rfl <;> assumption
 have m1:=Int.mul_le_mul_of_nonneg_right hx.1 hy2.1;have m2:=Int.mul_le_mul_of_nonneg_right hx.2 hy2.1;omega
theorem Bl2 (n:Int) (b:Nat) (z:Z2) (hz:Zok z) (W:World):CC 304 #[.agg #[],.pointer (some ⟨b,0,none⟩),.I n,z2v z] W (Pure (b2v (movedZ z)) W):=by
 obtain ⟨h1,h2,h3,h4⟩:=hz;refine cS func304 ?_;refine csr ?_;refine Xg (Lm rfl) (fun b4=>?_)
 refine Xg (Lm rfl) (fun b7=>?_)
 refine Xg (Lp Ba1) (fun b8=>?_)
 refine nsr ?_;refine Xa (Aa7 rfl rfl BA9 (by decide) (by decide)) ?_;refine Xa (Ab5 rfl mm1 Bm9 rfl) ?_;refine Xa (Aa7 rfl rfl BA9 (by decide) (by decide)) ?_;refine Xa (Ab5 rfl mm1 Bm9 rfl) ?_;refine Xe (Ab8 rfl Dz2) (fun w hm=>BR1 z.2 z.1 (by omega) w) ?_;refine sQ .here ?_;refine nnx ?_;refine Ks ?_;exact Aa9 (.r1 rfl (.agg rfl mm0 Bm9 rfl)) (by first | rfl | simp)
def ask1 {α:Type} (g:Gl) (n:Int) (f:Z2→α):Except Int α:=if seenG g n then .ok (f (farG g n)) else .error 11
theorem BR4 (g:Gl) (a:Ga) (n:Int) (b:Nat) (W:World) (hb:W.heap[b]? = some (.cells (g.cells a).toArray 186)) (hG:GIn W g a) :
  CC 43 #[.pointer (some ⟨b,0,none⟩),.I n,.iface 114 (.agg #[])] W (Try ymisf (ask1 g n fun z=>b2v (movedZ z)) W):=by
 refine cS func43 ?_;refine csr ?_;refine Xg (Lp Ba1) (fun b6=>?_)
 refine nsr ?_;refine vQ ?_;refine vQ ?_;refine Xe (Ab8 rfl DG1) (fun w hm=>Cl7 g a n b w (hm.old_at hb (by simp)) (hG.mono hm)) ?_
 iterate 3 refine vQ ?_
 refine Xg (Lp Ce2) (fun b7=>?_)
 refine sQ .here ?_;refine vQ ?_;refine nsr ?_;refine vQ ?_;refine Xh (Ab8 rfl Bi7) (fun w hm=>Aw3 _ _ w) (fun e16 he16=>?_) (fun v16 hv16=>?_)
 ·obtain ⟨er16,rfl⟩:=Ac9 he16
  refine Aa1 ?_;exact Ae2 (by simp [ask1,er16])
 obtain ⟨ok16,rfl⟩:=Ad9 hv16;refine nsr ?_
 iterate 3 refine vQ ?_
 refine Xa (Ab5 rfl mm0 Cf3 rfl) ?_;refine Xe (Ag1 rfl rfl (fun w=>Aq4 _ w) Dz3) (fun w hm=>Bl2 n b _ (Dx9 g n) w) ?_;refine sQ (.there .here) ?_;refine nnx ?_;refine Ks ?_;exact Ak4 (.r1 rfl (.agg rfl mm1 Bm9 rfl)) (by simp [ask1,ok16,b2v])
theorem DH5 {α:Type} {g:Gl} {n:Int} {f:Z2→α} {v:α} (h:ask1 g n f = .ok v):seenG g n=true∧v=f (farG g n):=by
 unfold ask1 at h;split at h
 · cases h;exact ⟨by assumption,rfl⟩
 · cases h
theorem Dl9 {α:Type} {g:Gl} {n:Int} {f:Z2→α} {k:Int} (h:ask1 g n f = .error k):seenG g n=false∧k=11:=by
 unfold ask1 at h;split at h
 · cases h
 · cases h;exact ⟨by simpa using ‹¬ seenG g n=true›,rfl⟩
theorem BC1 (g:Gl) (a:Ga) (n:Int) (W:World) (hG:GIn W g a):CC 16 #[g.v a,.I n] W (Pure (.tuple #[b2v (gMoved g n).1,.I (gMoved g n).2]) W):=by
 refine Ae4 func16 rfl rfl ?_;refine csr ?_;refine Xg (Lm rfl) (fun b2=>?_)
 refine Xg (Lp Ad6) (fun b4=>?_)
 refine Xg (Lp Am5) (fun b5=>?_)
 refine nsr ?_;refine vQ ?_;refine An7 rfl ?_;refine nnx ?_;refine Lx ?_;refine Bs8 8 Ah8 (qE (qC .nil)) ?_;refine Xu (i:=0) rfl (Ab5 rfl mm2 Db7 rfl) (PanQ.back rfl) (qE (qC .nil)) ?_;refine Xu (i:=1) rfl (Ab5 rfl mm2 Db7 rfl) (PanQ.back rfl) (qE (qC .nil)) ?_;refine Xu (i:=2) rfl (Aa8 rfl) (PanQ.back rfl) (qE (qC .nil)) ?_;refine Xu (i:=5) rfl (Aa8 rfl) (PanQ.back rfl) (qE (qC .nil)) ?_;refine Xu (i:=6) rfl (Lr (parts:=[]) rfl Da5 Cr8 rfl) (PanQ.back rfl) (qE (qC .nil)) ?_;refine Xu (i:=7) rfl (Lz rfl Dg4) (PanQ.back rfl) (qE (qC .nil)) ?_;refine RunA.one (i:=3) (by kernel_rfl) (by kernel_rfl) ?_;refine Xd rfl (Ab8 rfl DR7) (fun w hm=>Bl1 g a n hG.l1 w) (Aa2 (qE (qC .nil)) (qE (qC .nil)) rfl ?_)
 refine RunA.one (i:=4) (by kernel_rfl) (by kernel_rfl) ?_;refine Xn rfl (Ab8 rfl DR8) (fun w hm=>BR0 g a _ w (hG.mono hm)) (fun e11 he11=>?_) (fun a11 ha11 b11=>(Aa2 (qF .nil) (qD (qD (qD .nil))) rfl ?_))
 ·refine Ax8 (qU (qT (qS (Ab3 _)))) (qE (qC .nil)) ?_
  refine Aa1 ?_;exact Aq8 AA9 CQ1 .here (.r2 rfl (.agg rfl mm1 Ai6 rfl) (.one rfl mm0 Af8 rfl)) (by simp [gMoved,askG,he11,b2v])
 refine AA8 (by kernel_rfl) ?_;refine Ja (i:=8) (by kernel_rfl) ?_;refine Xi rfl (Ab8 rfl DR6) (fun w hm=>BR4 g a n _ w (hm.at mm0) (hG.mono hm)) (fun e15 he15=>?_) (fun v15 hv15=>(Ab2 ?_))
 ·obtain ⟨hs15,rfl⟩:=Dl9 he15
  refine Ax8 (qU (qU (Ab3 _))) (qD (qD (qD .nil))) ?_;refine Aa1 ?_;exact Aq8 AA9 CQ1 .here (.r2 rfl (.agg rfl mm1 Ai6 rfl) (.one rfl mm0 Af8 rfl)) (by simp [gMoved,askG,ha11,hs15,b2v])
 obtain ⟨hs15,rfl⟩:=DH5 hv15;refine Ja (i:=9) (by kernel_rfl) ?_;refine Xr rfl (Lt rfl rfl (.there (.there .here)) Ai6 rfl rfl) (Ab2 ?_)
 refine Ja (i:=10) (by kernel_rfl) ?_;refine Xr rfl (Lt rfl rfl (.there .here) Af8 rfl rfl) (Ab2 ?_)
 refine RunB.done (by kernel_rfl) ?_;refine AF9 ?_;refine Ke ?_;refine Ks ?_;exact Aw1 AA9 CQ1 (.r2 rfl (.agg rfl mm2 Ai6 rfl) (.one rfl mm1 Af8 rfl)) (by simp [gMoved,askG,ha11,hs15,b2v])
theorem DS7:Enters π 16:=eZ func16
theorem CR2:Enters π 23:=eZ func23
theorem DS4:Enters π 24:=eZ func24
theorem Dy1:Enters π 7:=eZ func7
theorem Bh8:fieldNB π 28 0=some (0,8):=by kernel_rfl
theorem CF7:placesB π 48=some [(0,8),(8,8),(16,1),(17,1)]:=by kernel_rfl
theorem Ds3:zeroB π 48=some [.I 0,.I 0,.I 0,.I 0,.I 0,.I 0,.I 0,.slice none 0 0,.I 0,.I 0,.I 0,.I 0,.I 0,.I 0,.I 0,.slice none 0 0,.I 0,.I 0]:=by kernel_rfl
end Go.Q
namespace Go.Dk
open Go Go.Eng Go.RowKit Go.Pw1 Go.Hp
def oLines:List Str:=[[118,105,101,119],[116,104,105,110,103,32,48,32,49,49,48,48,32,49,49,48,49,32,57,48,52,32,57,48,53],[109,97,114,107,32,48,32,48,32,51,48,48,48],[116,104,105,110,103,32,48,32,49,48,53,48,32,49,48,53,48,32,57,57,48,32,57,57,50]]
def oFar:Str:=[102,97,114,32,48,32,49]
def oFarR:Str:=[102,97,114,32,57,53,57,49,32,49,48,50,52,49]
theorem DN0:(playX cE noBn oLines).1=eB4:=by
 show (playX cE eB0 oLines).1=eB4
 unfold oLines;simp only [playX,eS0,eS1,eS2,eS3]
theorem DW5:cardIs c3=true:=by kernel_rfl
theorem Dl4:gMoved ⟨c3.p,c3.p,1,2⟩ 1=((-650,650),0):=by kernel_rfl
end Go.Dk
namespace Go.Q
open Go Go.Eng Go.Dk Go.RowKit Go.Pw1 Go.Hp
theorem Bi9 (c:Cd) (q:OA) (b o cap:Nat) (hq:q=none→cap=0) (l:List Str) (ql:OA) (bl ol cl:Nat) (W:World) (hL:Lw π W) (hS:Sl W q b o 9 (c.p.things.map Th.cells)) (hl:c.p.things.length≤1000) (hls:Sl W ql bl ol 1 (l.map strC)) (hln:l.length≤10000) (hlv:∀ s∈l,s.length≤100000) (hc:cardIs c=true) :
  CC 7 #[c.v q cap,.slice ql l.length cl] W (News (fun z:{z:Nat×DkX // RunD c l z.2}=>pV z.1.1) (fun z=>((z.1.1,dkO z.1.2 c)::dkB z.1.2)++[]) W):=by
 refine Ag8 (CU5 c q b o cap hq l ql bl ol cl W hL hS hl hls hln hlv hc) ?_
 rintro e w' ⟨z,hz,rfl,hm⟩
 exact ⟨⟨z,hz⟩,rfl,hm⟩
theorem BG7 (b1 b2:Nat) (w:World) (h1:w.heap[b1]? = some (.cells (c3.p.things.map Th.cells).flatten.toArray 145)) (h2:w.heap[b2]? = some (.cells (c3.p.things.map Th.cells).flatten.toArray 145)) :
  CC 16 #[Gl.v ⟨c3.p,c3.p,1,2⟩ ⟨some ⟨b1,0,none⟩,b1,0,2,some ⟨b2,0,none⟩,b2,0,2⟩,.I 1] w (Pure (.tuple #[.agg #[.I (-650),.I 650],.I 0]) w):=by
 have h:=BC1 ⟨c3.p,c3.p,1,2⟩ ⟨some ⟨b1,0,none⟩,b1,0,2,some ⟨b2,0,none⟩,b2,0,2⟩ 1 w ⟨Sl.rows h1 (fun x hx=>by obtain ⟨a,_,rfl⟩:=List.mem_map.1 hx;rfl),Sl.rows h2 (fun x hx=>by obtain ⟨a,_,rfl⟩:=List.mem_map.1 hx;rfl),by decide,by decide⟩;rw [Dl4] at h;exact h
set_option maxHeartbeats 2000000 in
set_option maxRecDepth 8000 in
theorem Ap1 (W:World) (hL:Lw π W):CC 6 #[] W (Pure (.bool true) W):=by
 have hund:π.underlying 32=some (.pointer 88):=by kernel_rfl
 refine cS func6 ?_;refine st ?_;refine Xj (zF rfl CR2) (fun w hm=>AI2 w) (fun b6=>?_)
 refine zn (Lu (parts:=[(0,.const (.string ⟨#[118,105,101,119]⟩)),(1,.const (.string ⟨#[116,104,105,110,103,32,48,32,49,49,48,48,32,49,49,48,49,32,57,48,52,32,57,48,53]⟩)),(2,.const (.string ⟨#[109,97,114,107,32,48,32,48,32,51,48,48,48]⟩)),(3,.const (.string ⟨#[116,104,105,110,103,32,48,32,49,48,53,48,32,49,48,53,48,32,57,57,48,32,57,57,50]⟩))]) rfl An4 AW1 rfl rfl rfl rfl) (fun b7=>?_)
 refine Xl (zF rfl Dy1) (fun w hm=>Bi9 c3 _ b6 0 2 (fun h=>by cases h) oLines _ b7 0 4 w (hL.mono hm) (Sl.rows (hm.at mm1) (fun x hx=>by obtain ⟨a,_,rfl⟩:=List.mem_map.1 hx;rfl)) (by decide) (Sl.rows (xs:=oLines.map strC) (hm.at mm0) (fun x hx=>by obtain ⟨a,_,rfl⟩:=List.mem_map.1 hx;rfl)) (by decide) (by decide) DW5) (fun z8=>?_)
 obtain ⟨⟨xb,xd⟩,hxk⟩:=z8;dsimp only at hxk ⊢;have hpl:xd.pl=eB4:=hxk.pl.symm.trans DN0;refine st ?_;refine BQ1 (Ab3 _) (news':=(xb,dkO xd c3)::(dkB xd++[])) pk2 ?_;refine st ?_;refine lv (Ak1 rfl hund) ?_;refine Ae9 rfl ?_;refine st ?_;refine Xq (zF rfl Cj6) (fun w hm=>(Bb6 (nw':=fun z:DkX×Str×Int=>(xb,dkO z.1 c3)::(dkB z.1++[])) (AL5 oFar (by decide) xb xd c3 [] W w hL hxk.dk (hm.pick pk2)) (fun _=>pk2))) (fun z13 hz13=>?_)
 obtain ⟨yd,yr,ye⟩:=z13;obtain ⟨hzd,hzs⟩:=hz13
 obtain ⟨hyr,hye⟩:yr=oFarR∧ye=0:=by
  have h:(yd.pl,yr,ye)=_:=hzs.trans ((congrArg (fun b=>stepX (bareC c3) b oFar) hpl).trans eS4);simp only [Prod.mk.injEq] at h;exact ⟨h.2.1,h.2.2⟩
 dsimp only at hzd ⊢;refine st ?_;refine Xj (zF rfl CR2) (fun w hm=>AI2 w) (fun b17=>?_)
 refine lv (AV8 rfl Bh8) ?_;refine Xj (zF rfl CR2) (fun w hm=>AI2 w) (fun b19=>?_)
 refine lv (AV8 rfl Bh8) ?_;refine lv (Lr (parts:=[(0,.tmp 18),(1,.tmp 20),(2,.const (.I 1)),(3,.const (.I 2))]) rfl Ds3 CF7 rfl) ?_;refine zc (zF rfl DS7) (fun w hm=>BG7 b17 b19 w (hm.at mm1) (hm.at mm0)) ?_;refine zn (Lp Ad6) (fun b4=>?_)
 refine sQ .here ?_;refine st ?_;refine Ab9 9 Ah8 (qF .nil) ?_;refine zw 0 ?_;refine zv 1 rfl (AL0 (a:=yr) (b:=oFarR) rfl rfl) ?_;refine zw 2 ?_;refine At5 (dj:=27) true rfl (by simp [hyr]) ?_;refine zw 3 ?_;refine zw 4 ?_;refine zw 5 ?_;refine zw 6 ?_;refine At5 (dj:=31) true rfl (by simp [hyr,hye]) ?_;refine zw 7 ?_;refine zA 8 ?_;refine Xd rfl (zF rfl AR7) (fun w hm=>Ai3 _ _ w) (Aa2 (qF .nil) (qF .nil) rfl ?_)
 refine zt ?_;refine zo 9 rfl (AY5 rfl rfl CG7) ?_;refine zp 10 ?_;refine zp 11 ?_;refine Bl0 (dj:=36) true rfl (by simp [hyr,hye]) ?_;refine zp 12 ?_;refine zp 13 ?_;refine zp 14 ?_;refine zp 15 ?_;refine Bl0 (dj:=40) true rfl (by simp [hyr,hye]) ?_;refine zq 16 rfl (zF rfl DS4) (fun w hm=>BA7 w) ?_;refine zp 17 ?_;refine zp 18 ?_;refine zd ?_;refine su ?_;exact rP
theorem Dy2:Enters π 5:=eZ func5
theorem CQ0:Enters π 6:=eZ func6
theorem DW2:Enters π 9:=eZ func9
end Go.Q
namespace Go.Dk
open Go Go.Eng Go.RowKit Go.Pw1 Go.Hp
end Go.Dk
namespace Go.Q
open Go Go.Eng Go.Dk Go.RowKit Go.Pw1 Go.Hp
theorem BY1 (c:Cd) (q:OA) (b o cap:Nat) (l:List Str) (ql:OA) (bl ol cl:Nat) (W:World) (hS:Sl W q b o 9 (c.p.things.map Th.cells)) (hls:Sl W ql bl ol 1 (l.map strC)) (hll:l.length≤9223372036854775807) :
  CC 5 #[c.v q cap,.slice ql l.length cl] W (Pure (.bool (farL c l || heavyC c)) W):=by
 cases h:farL c l with
 | true=>rw [Bool.true_or];exact CP4 c q cap l ql bl ol cl W hls hll h
 | false=>rw [Bool.false_or];exact Bx8 c q b o cap l ql bl ol cl W hS hls h
abbrev spSh:Sh:=.st [.int .i64,.int .i64]
abbrev plSh:Sh:=.st [spSh,spSh]
abbrev thSh:Sh:=.st [plSh,plSh,.int .i64]
abbrev prSh:Sh:=.st [spSh,spSh,.int .i64,.int .i64,.int .i64,.sl thSh]
theorem CF3 {w:World} {cs:LV} (h:Rd w spSh cs):∃ s:Sp,cs=[.I s.lo,.I s.hi]:=by
 cases h with
 | recS h1 h2 =>
   cases h1
   cases h2 with
   | recS h3 h4 =>
     cases h3
     cases h4
     exact ⟨⟨_,_⟩,rfl⟩
theorem DM0 {w:World} {cs:LV} (h:Rd w plSh cs):∃ s t:Sp,cs=[.I s.lo,.I s.hi,.I t.lo,.I t.hi]:=by
 cases h with
 | recS h1 h2 =>
   obtain ⟨s,rfl⟩:=CF3 h1
   cases h2 with
   | recS h3 h4 =>
     obtain ⟨t,rfl⟩:=CF3 h3
     cases h4
     exact ⟨s,t,rfl⟩
theorem DV3 {w:World} {cs:LV} (h:Rd w thSh cs):∃ t:Th,cs=t.cells:=by
 cases h with
 | recS h1 h2 =>
   obtain ⟨a,b,rfl⟩:=DM0 h1
   cases h2 with
   | recS h3 h4 =>
     obtain ⟨c,d,rfl⟩:=DM0 h3
     cases h4 with
     | recS h5 h6 =>
       cases h5
       cases h6
       exact ⟨⟨a,b,c,d,_⟩,rfl⟩
theorem BU6 {α:Type} {f:α→LV}:∀ {xs:List (LV)},(∀ x∈xs,∃ a,x=f a)→∃ l:List α,xs=l.map f
 | [],_=>⟨[],rfl⟩
 | x::xs,h=>by
   obtain ⟨a,rfl⟩:=h x (by simp);obtain ⟨l,rfl⟩:=BU6 (xs:=xs) (fun y hy=>h y (List.mem_cons_of_mem _ hy));exact ⟨a::l,rfl⟩
structure In (w:World) (p:Pr) (q:OA) (b o cap:Nat):Prop where
 s:Sl w q b o 9 (p.things.map Th.cells)
 n:q=none→p.things.length=0∧cap=0
theorem DV4 {w:World} {cs:LV} (h:Rd w prSh cs):∃ (p:Pr) (q:OA) (b o cap:Nat),cs=p.cells q cap∧In w p q b o cap:=by
 cases h with
 | recS h1 h2 =>
 obtain ⟨f,rfl⟩:=CF3 h1
 cases h2 with
 | recS h1 h2 =>
 obtain ⟨g,rfl⟩:=CF3 h1
 cases h2 with
 | recS h1 h2 =>
 cases h1
 cases h2 with
 | recS h1 h2 =>
 cases h1
 cases h2 with
 | recS h1 h2 =>
 cases h1
 cases h2 with
 | recS h1 h2 =>
 cases h2
 cases h1 with
 | slNil=>exact ⟨⟨f,g,_,_,_,[]⟩,none,0,0,0,rfl,⟨Sl.emp,fun _=>⟨rfl,rfl⟩⟩⟩
 | sl hs hl hc hx =>
   obtain ⟨ts,rfl⟩:=BU6 (f:=Th.cells) (fun x hx'=>DV3 (hx x hx'));exact ⟨⟨f,g,_,_,_,ts⟩,some _,_,_,_,by rw [List.length_map];rfl,⟨hs,fun h=>by cases h⟩⟩
abbrev cdSh:Sh:=.st [prSh,.int .i64,.int .i64,.int .i64,spSh,.int .i64,.int .i64,.int .i64,.int .i64]
theorem DV6 {w:World} {cs:LV} (h:Rd w cdSh cs):∃ (c:Cd) (q:OA) (b o cap:Nat),cs=c.cells q cap∧In w c.p q b o cap:=by
 cases h with
 | recS h1 h2 =>
 obtain ⟨p,q,b,o,cap,rfl,hp⟩:=DV4 h1
 cases h2 with
 | recS h1 h2 =>
 cases h1
 cases h2 with
 | recS h1 h2 =>
 cases h1
 cases h2 with
 | recS h1 h2 =>
 cases h1
 cases h2 with
 | recS h1 h2 =>
 obtain ⟨e,rfl⟩:=CF3 h1
 cases h2 with
 | recS h1 h2 =>
 cases h1
 cases h2 with
 | recS h1 h2 =>
 cases h1
 cases h2 with
 | recS h1 h2 =>
 cases h1
 cases h2 with
 | recS h1 h2 =>
 cases h1
 cases h2
 exact ⟨⟨p,_,_,_,e,_,_,_,_⟩,q,b,o,cap,rfl,hp⟩
end Go.Q
namespace Go.Eng
open Go Go.RowKit Go.ChangeShapes Go.WideShapes Go.ChangeAt
theorem AU7 {H:Type} {enc:TypeId×Value→H} {a:Assume} {C:Checked} {os:Os} {f:FuncId} {fn:Func} {s:ChangeSpec} {conds:List PathCond} {apart fresh handsOn again:Bool} {X:World→Array Value→Prop}
  (hX:∀ (w w':World) (args:Array Value),w.heap=w'.heap→X w args→X w' args)
  (own:ownKnob C.prog.godebug=none) (started:os.Started) (noInit:C.prog.inits.idxOf? f=none) (hfn:C.prog.funcs[f]? = some fn)
  (witness:∃ (w:World) (tape:Tape) (i:Input),w.os=os∧(w.forCall tape i).Shaped C.prog∧i.vars=[]∧Input.okWide C.prog (w.forCall tape i) .any w.heap.size f i ∧
   ((s.pre enc C.prog fn conds apart (w.forCall tape i).memory i.args∧X (w.forCall tape i).memory i.args)∧sizedMet enc C.prog fn (OpenSpec.ofChange s) apart (w.forCall tape i).memory i.args)∧a.holds C.prog (lone (Frame.enter C.prog f i.args .normal) [] (w.forCall tape i)))
  (contract:∀ (W:World) (base:Nat) (args:Array Value) (ds gs:List (DataW H)) (before:List MemPlace),
   (∀ (j:Nat) t v,fn.params[j]? = some t→args[j]? = some v→Value.okWide C.prog W .any base t v) →
   DataW.Whole enc C.prog fn.params.toList s.vars apart W args.toList ds gs before→W.ShapedOpen C.prog→X W args →
   Calls C.prog f args W fun e W'=>∃ v,e = .returned v∧s.post enc C.prog fn apart fresh handsOn again W args v W') :
  ReturnsInHanded a C os f .any (fun w args=>(s.pre enc C.prog fn conds apart w args∧X w args)∧sizedMet enc C.prog fn (OpenSpec.ofChange s) apart w args) (s.post enc C.prog fn apart fresh handsOn again):=by
 refine returnsInHanded_of_calls own started noInit witness ?_;intro w tape i _ hsh _ hok hpre hholds;obtain ⟨_,_,_,fn',hfn',_,_,_,_,hval⟩:=hok;have e:fn'=fn:=Option.some.inj (hfn'.symm.trans hfn);subst e;obtain ⟨⟨⟨ds,gs,before,hw,hc⟩,hx⟩,hz⟩:=hpre;have hw':=DataW.Whole.of_heap (w':=w.forCall tape i) (by rfl) hw;refine (contract (w.forCall tape i) w.heap.size i.args ds gs before hval hw' hsh (hX _ _ _ (by rfl) hx)).mono fun e W' ⟨v,he,hp⟩=>?_
 subst he;exact ChangeSpec.post_blind hp
theorem Bw4 {H:Type} {enc:TypeId×Value→H} {P:Program} {f:Func} {s:ChangeSpec} {n:Nat} {shs:List Sh} {tb:TypeId} {F:FuncId} (hl:laidOutB P=true) (hsh:f.params.toList.mapM (shapeB P n)=some shs)
  (hp:f.params.toList.all (fun t=>P.readableRec t && decide (t < P.types.size))=true) (hr:f.resultTypes = #[tb]) (hb:P.underlying tb=some .bool) (hvars:s.vars=[])
  (hfn:∀ ds:List (DataW H),ds.length=f.params.toList.length→s.fn H (ds++[])={ results:=[.lit (.bool true)],args:=ds })
  {W:World} (walk:∀ vs:LV,RdAll W shs vs→Calls P F vs.toArray W (Pure (.bool true) W)) {base:Nat} {args:Array Value} {ds gs:List (DataW H)} {before:List MemPlace} (hval:∀ (j:Nat) t v,f.params[j]? = some t→args[j]? = some v→Value.okWide P W .any base t v)
  (hW:DataW.Whole enc P f.params.toList s.vars false W args.toList ds gs before) :
  Calls P F args W fun e W'=>∃ v,e = .returned v∧s.post enc P f false true false false W args v W':=by
 have hW':=hW;obtain ⟨p,q,hA,hV,rfl,hfz,hnd⟩:=hW;rw [hvars] at hV;obtain ⟨rfl,rfl⟩:=trodVars_none hV;have hrd:RdAll W shs args.toList:=Cg2 hsh (fun j t v hj hv=>hval j t v (by simpa using hj) (by simpa using hv)) hA
 have hlen:ds.length=f.params.toList.length:=by
  clear hW' hval hrd hfn hp hsh hfz hnd hV
  generalize f.params.toList=ts at hA
  generalize args.toList=vs at hA
  induction ts generalizing vs ds p with
  | nil=>obtain ⟨_,rfl,_⟩:=trodAll_nil hA;rfl
  | cons t ts ih =>
    obtain ⟨v,vs',d,ds',p,q,rfl,rfl,rfl,h0,hr⟩:=trodAll_cons hA;simp [ih _ _ hr]
 refine (walk args.toList hrd).mono fun e W' ⟨he,hm⟩=>?_
 subst he;have bel:=hm.below;refine ⟨_,rfl,ds,[],p++[],[],p,[],hW',?_,?_,?_,bel.frame _,fun h=>by cases h⟩
 · rw [hfn ds hlen,hr]
   exact trodAll_mk1 (shut_bool hb _)
 · rw [hfn ds hlen]
   exact AP0 hl bel hp hA
 · rw [hvars,hfn ds hlen]
   rfl
theorem Bp4 {P:Program} {n nm:String} {d:DataW Unit} {r:List (String×DataW Unit)} {W:World} {g:Nat} {ti:TypeId} {ms:Array (String×TypeId)}
  (h:laidMet P ((n,.iface nm d)::r) W) (hg:P.globalNamed n=some g) (ht:(P.globals[g]?).map (·.type)=some ti) (hi:P.underlying ti=some (.interface ms)):∃ te pe,W.cell? ⟨g,0,none⟩=some (.iface te pe):=by
 obtain ⟨ps,⟨g0,t0,cs0,f0,p0,q0,hg0,ht0,hv0,hd0,_,e0⟩,_,hrows⟩:=h;obtain rfl:=Option.some.inj (hg.symm.trans hg0);obtain rfl:=Option.some.inj (ht.symm.trans ht0);obtain ⟨f',u,v,hcs,_,_⟩:=iface_of_trod hi hd0;have h1:=World.var?_cell hg0 hv0 0
 have e:cs0 = #[.iface u v]:=by
  obtain ⟨l⟩:=cs0;simp only at hcs
  rw [hcs]
 rw [e] at h1;exact ⟨u,v,by simpa using h1⟩
end Go.Eng
namespace Go.Q
open Go Go.Eng Go.Dk Go.RowKit Go.Pw1 Go.Hp
abbrev laidL:List (String×DataW Unit):=[("math/bits.deBruijn32tab",Rows.laid_math_bits_deBruijn32tab),("math/bits.deBruijn64tab",Rows.laid_math_bits_deBruijn64tab),("internal/strconv.uint64pow10",Rows.laid_internal_strconv_uint64pow10),("unicode/utf8.acceptRanges",Rows.laid_unicode_utf8_acceptRanges),("strconv.ErrRange",Rows.laid_strconv_ErrRange),("strconv.ErrSyntax",Rows.laid_strconv_ErrSyntax),("unicode/utf8.first",Rows.laid_unicode_utf8_first)]
theorem DX7:((begin π (fun _ _=>0) default).world.heap[3]?).bind Obj.row? = some (#[.I 0],3):=by kernel_rfl
theorem DV7 {W:World} (hsh:W.ShapedOpen π) (hL:laidMetH π laidL W):Lw π W:=by
 rw [MakeChecks.laidMetH_plain _ _ _ (by kernel_rfl)] at hL;have h3:=hL.tail.tail;have h5:=h3.tail.tail;obtain ⟨te,pe,h1⟩:=Bp4 h5 (g:=1) (by kernel_rfl) (by kernel_rfl) underlying55;obtain ⟨te2,pe2,h2⟩:=Bp4 h5.tail (g:=0) (by kernel_rfl) (by kernel_rfl) underlying55
 exact ⟨Proofs.cell_of_shapedOpen_int hsh (by decide) DX7 rfl (by kernel_rfl) (by kernel_rfl) underlying3,
  Lib.tabIs_of_head (g:=2) (t:=339) (n:=20) (e:=251) (by kernel_rfl) (by kernel_rfl) (by kernel_rfl) (by kernel_rfl) (by kernel_rfl) (by kernel_rfl) h3,
  ⟨_,h2,.inr ⟨_,_,rfl⟩⟩,⟨_,h1,.inr ⟨_,_,rfl⟩⟩⟩
theorem CK6 (os:Os):(World.holding π os ⟨#[],#[],[]⟩).layFits π laidL []=true:=by kernel_rfl
theorem BW6 (os:Os):(World.holding π os ⟨#[],#[],[]⟩).layIfaces π laidL (World.laidAll π os laidL)=true:=by kernel_rfl
theorem DL9 {w:World} {cs:LV} (h:Rd w .str cs):∃ s:Str,cs=strC s:=by
 cases h with
 | @str v=>exact ⟨v.data.toList,rfl⟩
theorem De6 {w:World} {cs:LV} (h:Rd w (.sl .str) cs):∃ (l:List Str) (q:OA) (b o cap:Nat),cs=[Value.slice q l.length cap]∧Sl w q b o 1 (l.map strC)∧l.length≤9223372036854775807:=by
 cases h with
 | slNil=>exact ⟨[],none,0,0,0,rfl,Sl.emp,by decide⟩
 | @sl _ ad cap2 _ hs hl hc hx =>
   obtain ⟨l,rfl⟩:=BU6 (f:=strC) (fun x hx'=>DL9 (hx x hx'));rw [List.length_map] at hl;exact ⟨l,some ad,_,_,cap2,by rw [List.length_map],hs,Kt hl (Kt hc (by decide))⟩
theorem Dq4:Enters π 49:=eZ func49
theorem Dq2:Enters π 54:=eZ func54
theorem Dq1:Enters π 55:=eZ func55
theorem Dp9:Enters π 58:=eZ func58
theorem DR3:Enters π 59:=eZ func59
theorem Dp8:Enters π 61:=eZ func61
theorem DR2:Enters π 62:=eZ func62
end Go.Q
namespace Go.Le
open Go Go.Eng Go.Bk Go.RowKit
def zW (y:Int) (k:Nat):Nat×Bool:=if k=0 then (0,false) else if y = -1 then (0,true) else (2 ^ y.toNat,false)
theorem Cz4 {us:List Nat} {i:Nat} (h:∀ x∈us,x < 1) (hi:i < 1) (hx:i ∉ us):us=[]:=by
 rcases us with _ | ⟨u,us⟩
 · rfl
 · have h1:=h u (List.mem_cons_self ..)
   exact absurd (show i∈u::us by rw [show i=u by omega];exact List.mem_cons_self ..) hx
def uS (x k:Nat):Nat:=if k≤1 then 0 else 2 ^ x
def uE (x k:Nat):Nat:=if k=0 then 0 else 2 ^ x
theorem DW7 {x k:Nat} (h:k < 2):uS x (k + 1)=uS x k ||| uE x k:=by
 rcases Lc k 1 with h1 | h1
 · obtain rfl:k=0:=by omega
   simp [uS,uE]
 · obtain rfl:k=1:=by omega
   simp [uS,uE]
theorem DW6 (x k:Nat):uS x k≤2 ^ x∧uE x k≤2 ^ x:=by unfold uS uE;constructor <;> split <;> first | exact Lb _ | exact Nat.le_refl _
theorem Bv5 {c:Cb} {p:List Int×Int} (hv:cabV c=true) (h1:endL c okAny=[p]):openX c true = .ok ():=by
 unfold openX;rw [if_pos hv,if_pos rfl,if_neg (by rw [h1];simp)]
end Go.Le
namespace Go.Q
open Go Go.Eng Go.Bk Go.Le Go.RowKit
theorem AQ1 (x:Nat) (hx:x≤6) (b:Nat) (W:World) (h:W.heap[b]? = some (.cells [.I 0,.I ((2 ^ x:Nat):Int)].toArray 3)):CC 54 #[.slice (some ⟨b,0,none⟩) 2 2] W (Pure (.I ((2 ^ x:Nat):Int)) W):=by
 have h2:2 ^ x≤2 ^ 6:=Lk (by decide) hx;have hS:Sl W (some ⟨b,0,none⟩) b 0 1 ([0,2 ^ x].map fun (x:Nat)=>[Value.int .i64 (x:Int)]):=Sl.rows h (fun y hy=>by obtain ⟨z,_,rfl⟩:=List.mem_map.1 hy;rfl);refine cS func54 ?_;refine su ?_;refine Ac8 (2) (fun k q=>(7,.I (k:Int))::(2,.I ((uS x k:Nat):Int))::q) (fun _=>_) (fun _=>[]) (fun _=>True) trivial rfl (zE 7 rfl rfl (zE 2 rfl rfl (zS 5 rfl (zS 6 rfl (Sub.nil _))))) .nil ?_;intro k kN kI;clear kI;refine st ?_;refine cn rfl ?_ ?_
 ·intro c0'
  have hk:k < 2:=by omega
  obtain ⟨h3,h4⟩:=DW6 x k;have h5:=DW6 x (k + 1);rw [DW7 hk] at h5;refine st ?_;refine lv (Aa3 rfl rfl Af6 (by omega) (by omega) (hS.ptrM (i:=k) hk)) ?_;refine lv (Aa5 rfl (fun w hm=>hS.loadM1 (by decide) hm (by simp) Ae0 hk (v:=.int .i64 ((uE x k:Nat):Int)) (by rcases Lc k 1 with h | h;(obtain rfl:k=0:=by omega);rfl;(obtain rfl:k=1:=by omega);rfl))) ?_;refine lv (Val.or (a:=uS x k) (b:=uE x k) rfl rfl (by show _ < 18446744073709551616;omega) (by show _ < 18446744073709551616;omega) (Ak8 (by omega))) ?_;refine lA ?_;exact Ac2 (by omega) trivial rfl (zE 7 rfl rfl (zE 2 rfl (by rw [DW7 hk]) (zS 5 rfl (zS 6 rfl (Sub.nil _))))) .nil
 intro c0';obtain rfl:k=2:=by omega
 refine Ls ?_;refine su ?_;refine Aa4 ?_;refine su ?_;exact rP
theorem BI1 (b:Nat) (w:World):CallsD π 58 #[.pointer (some ⟨b,0,none⟩)] .returning w fun e u w'=>(∃ v,e = .returned v)∧u = .returning∧Mem w [] [] w':=by
 refine callsD_of_wpS func58 rfl fun c₀ cs hu=>?_
 refine wpS_region ?_;simp [wpOpsS,go_sem,recoverD,hu,ntmps58,Exit.thenS]
 refine (As7 b w).mono ?_
 rintro e w' ⟨rfl,hm⟩
 exact ⟨rfl,.returning,by rw [← hu],_,results_none rfl _ _ _,⟨_,rfl⟩,rfl,hm⟩
theorem BI0 (b:Nat) (k:Int) (x:Value) (w:World) (hb:w.heap[b]? = some (.cells #[x] 49 (0,0))):CallsD π 58 #[.pointer (some ⟨b,0,none⟩)] (.panicking [{ v:=lmis k,recovered:=false }]) w fun e u w' =>
  (∃ v,e = .returned v)∧u = .panicking [{ v:=lmis k,recovered:=true }]∧Mem w [(b,.cells #[.I k] 49 (0,0))] [] w':=by
 refine callsD_of_wpS func58 rfl fun c₀ cs hu=>?_
 refine wpS_region ?_;simp [wpOpsS,go_sem,recoverD,hu,ntmps58,Exit.thenS]
 refine (As8 b k x w hb).mono ?_
 rintro e w' ⟨rfl,hm⟩
 exact ⟨rfl,.panicking [{ v:=lmis k,recovered:=true }],rfl,_,results_none rfl _ _ _,⟨_,rfl⟩,rfl,hm⟩
theorem AH2:Catches π 58 49 lmis:=⟨BI1,fun b k x w h=>BI0 b k x w h⟩
theorem BW5 (b:Nat) (w:World):CallsD π 61 #[.pointer (some ⟨b,0,none⟩)] .returning w fun e u w'=>(∃ v,e = .returned v)∧u = .returning∧Mem w [] [] w':=by
 refine callsD_of_wpS func61 rfl fun c₀ cs hu=>?_
 refine wpS_region ?_;simp [wpOpsS,go_sem,recoverD,hu,ntmps61,Exit.thenS]
 refine (As7 b w).mono ?_
 rintro e w' ⟨rfl,hm⟩
 exact ⟨rfl,.returning,by rw [← hu],_,results_none rfl _ _ _,⟨_,rfl⟩,rfl,hm⟩
theorem BW4 (b:Nat) (k:Int) (x:Value) (w:World) (hb:w.heap[b]? = some (.cells #[x] 49 (0,0))):CallsD π 61 #[.pointer (some ⟨b,0,none⟩)] (.panicking [{ v:=lmis k,recovered:=false }]) w fun e u w' =>
  (∃ v,e = .returned v)∧u = .panicking [{ v:=lmis k,recovered:=true }]∧Mem w [(b,.cells #[.I k] 49 (0,0))] [] w':=by
 refine callsD_of_wpS func61 rfl fun c₀ cs hu=>?_
 refine wpS_region ?_;simp [wpOpsS,go_sem,recoverD,hu,ntmps61,Exit.thenS]
 refine (As8 b k x w hb).mono ?_
 rintro e w' ⟨rfl,hm⟩
 exact ⟨rfl,.panicking [{ v:=lmis k,recovered:=true }],rfl,_,results_none rfl _ _ _,⟨_,rfl⟩,rfl,hm⟩
theorem AM3:Catches π 61 49 lmis:=⟨BW5,fun b k x w h=>BW4 b k x w h⟩
theorem BI5 (b:Nat) (w:World):CallsD π 49 #[.pointer (some ⟨b,0,none⟩)] .returning w fun e u w'=>(∃ v,e = .returned v)∧u = .returning∧Mem w [] [] w':=by
 refine callsD_of_wpS func49 rfl fun c₀ cs hu=>?_
 refine wpS_region ?_;simp [wpOpsS,go_sem,recoverD,hu,ntmps49,Exit.thenS]
 refine (As7 b w).mono ?_
 rintro e w' ⟨rfl,hm⟩
 exact ⟨rfl,.returning,by rw [← hu],_,results_none rfl _ _ _,⟨_,rfl⟩,rfl,hm⟩
theorem BI4 (b:Nat) (k:Int) (x:Value) (w:World) (hb:w.heap[b]? = some (.cells #[x] 49 (0,0))):CallsD π 49 #[.pointer (some ⟨b,0,none⟩)] (.panicking [{ v:=lmis k,recovered:=false }]) w fun e u w' =>
  (∃ v,e = .returned v)∧u = .panicking [{ v:=lmis k,recovered:=true }]∧Mem w [(b,.cells #[.I k] 49 (0,0))] [] w':=by
 refine callsD_of_wpS func49 rfl fun c₀ cs hu=>?_
 refine wpS_region ?_;simp [wpOpsS,go_sem,recoverD,hu,ntmps49,Exit.thenS]
 refine (As8 b k x w hb).mono ?_
 rintro e w' ⟨rfl,hm⟩
 exact ⟨rfl,.panicking [{ v:=lmis k,recovered:=true }],rfl,_,results_none rfl _ _ _,⟨_,rfl⟩,rfl,hm⟩
theorem AH4:Catches π 49 49 lmis:=⟨BI5,fun b k x w h=>BI4 b k x w h⟩
theorem BI3 (b:Nat) (w:World):CallsD π 55 #[.pointer (some ⟨b,0,none⟩)] .returning w fun e u w'=>(∃ v,e = .returned v)∧u = .returning∧Mem w [] [] w':=by
 refine callsD_of_wpS func55 rfl fun c₀ cs hu=>?_
 refine wpS_region ?_;simp [wpOpsS,go_sem,recoverD,hu,ntmps55,Exit.thenS]
 refine (As7 b w).mono ?_
 rintro e w' ⟨rfl,hm⟩
 exact ⟨rfl,.returning,by rw [← hu],_,results_none rfl _ _ _,⟨_,rfl⟩,rfl,hm⟩
theorem BI2 (b:Nat) (k:Int) (x:Value) (w:World) (hb:w.heap[b]? = some (.cells #[x] 49 (0,0))):CallsD π 55 #[.pointer (some ⟨b,0,none⟩)] (.panicking [{ v:=lmis k,recovered:=false }]) w fun e u w' =>
  (∃ v,e = .returned v)∧u = .panicking [{ v:=lmis k,recovered:=true }]∧Mem w [(b,.cells #[.I k] 49 (0,0))] [] w':=by
 refine callsD_of_wpS func55 rfl fun c₀ cs hu=>?_
 refine wpS_region ?_;simp [wpOpsS,go_sem,recoverD,hu,ntmps55,Exit.thenS]
 refine (As8 b k x w hb).mono ?_
 rintro e w' ⟨rfl,hm⟩
 exact ⟨rfl,.panicking [{ v:=lmis k,recovered:=true }],rfl,_,results_none rfl _ _ _,⟨_,rfl⟩,rfl,hm⟩
theorem AH3:Catches π 55 49 lmis:=⟨BI3,fun b k x w h=>BI2 b k x w h⟩
theorem BC5 (c:CbA) (b b3:Nat) (i:Nat) (hi:i < c.homes.l.length) (hl:c.homes.l.length≤5) (w:World) (hb:w.heap[b]? = some (cabO c)) (h3:w.heap[b3]? = some (.cells [.I (i:Int)].toArray 3)):CC 59 #[aV b,.pointer (some ⟨b3,0,none⟩)] w (Pure (.bool true) w):=by
 refine cS func59 ?_;refine st ?_;refine lv (Aa0 rfl h3 (by simp) Ae0 rfl) ?_;refine zc (zF rfl CP9) (fun w hm=>AE1 c b (i:Int) w (hm.old_at hb (by simp)) (by omega)) ?_;exact Aa9 rZ (by simp [within];omega)
theorem BT9 (c:CbA) (b b3:Nat) (i:Nat) (hi:(i:Int) < c.slots) (hl:within c.slots 1 6=true) (w:World) (hb:w.heap[b]? = some (cabO c)) (h3:w.heap[b3]? = some (.cells [.I (i:Int)].toArray 3)):CC 62 #[aV b,.pointer (some ⟨b3,0,none⟩)] w (Pure (.bool true) w):=by
 refine cS func62 ?_;refine st ?_;refine lv (Aa0 rfl h3 (by simp) Ae0 rfl) ?_;refine zc (zF rfl CP8) (fun w hm=>AH5 c b (i:Int) w (hm.old_at hb (by simp)) hl) ?_;exact Aa9 rZ (by simp [within];omega)
set_option maxHeartbeats 2000000 in
theorem BC2 (c:CbA) (i:Nat) (hC0:CbS c) (hCC:CbC c) (hv:cabV c.pl=true) (hi:i < c.homes.l.length) (s:List Int) (n0:Int) (y:Int) (hy:s.getD i 0=y) (h1:endL c.pl okAny=[(s,n0)]) (W:World) (hC:CbOk W c) :
  CC 21 #[c.v,.I (i:Int)] W (Pure (.tuple #[.I (((zW y 1).1:Nat):Int),.bool (zW y 1).2,.I 0]) W):=by
 have ho:=Bv5 hv h1;have hcv:=Ca7 hv;have hl5:c.homes.l.length≤5:=hcv.few;have hg:Gd c.pl (s,n0):=AG6 hcv.slots.1 hcv.few hcv.hom hcv.wrong.2 _ _ (by have h:=h1;unfold endL at h;rw [h];exact List.mem_singleton.2 rfl);have hsl:s.length=5:=hg.len
 have hyr:-1≤y∧y≤5:=by
  have h9:=hg.lo y (by rw [← hy,List.getD_eq_getElem?_getD,List.getElem?_eq_getElem (show i < s.length by omega)];exact List.mem_take_iff_getElem.2 ⟨i,by (have h8:i < c.pl.homes.length:=hi);(have h7:(s,n0).1.length=5:=hg.len);omega,rfl⟩)
  have:=hcv.slots.2
  omega
 obtain ⟨x0,x1,x2,x3,x4,hse⟩:=Bx7 hg.len;dsimp only at hse;have hcs:[Value.int .i64 x0,.I x1,.I x2,.I x3,.I x4]=s.map (Value.int .i64):=by rw [hse];rfl
 have hyi:s.getD ((i:Int)).toNat 0=y:=by rw [Int.toNat_natCast];exact hy
 refine Ae4 func21 rfl rfl ?_;refine csr ?_;refine Xg (Lm rfl) (fun b2=>?_)
 refine Xg (Lm rfl) (fun b3=>?_)
 refine vQ ?_;refine vQ ?_;refine Xg (Lp Am5) (fun b6=>?_)
 refine nsr ?_;refine vQ ?_;refine An7 rfl ?_;refine nsr ?_;refine Xa (Ab5 rfl mm2 Cm8 rfl) ?_;refine vQ ?_;refine AF3 (Ab8 rfl Cj5) rfl rfl rfl (fun w hm=>Az5 c hC0 hCC 59 #[.pointer (some ⟨b3,0,none⟩)] true DR3 w (hC.mono0 hm) (fun b _ w2 hm2 hb _=>BC5 c b b3 i hi hl5 w2 hb (hm2.old_at (hm.at mm1) (by simp)))) (fun e14 he14=>?_) (fun a14 ha14 z14=>?_)
 ·refine Aa1 ?_
  exact Aq8 AH2 Dp9 .here (.r3 rfl (.tmp rfl) (.tmp rfl) (.one rfl mm0 Af8 rfl)) (by rw [ho] at he14;cases he14)
 obtain ⟨⟨bc,m,l⟩,hz14⟩:=z14;dsimp only at hz14 ⊢;obtain rfl:l=[(s,n0)]:=List.perm_singleton.1 (h1 ▸ hz14)
 iterate 5 refine vQ ?_
 refine nnx ?_;refine Lx ?_;refine csr ?_;refine vQ ?_;refine Xg (AL4 Ay7 rfl (fun w hm=>hm.at mm1)) (fun b18=>?_)
 refine nnx ?_;refine Kr ?_;refine Af2 (X:=List Nat) (n0:=[(b2,_),(b3,_),(b6,_),(bc,_),(m,_)]) (1) (fun j us q=>(4,.I (((zW y us.length).1:Nat):Int))::(5,.bool (zW y us.length).2)::q) (fun _ _=>_) (fun j us=>[(b18,itK m (rv [(s,n0)]) us)]) (fun j us=>[]) (fun j us=>us.Nodup∧(∀ i∈us,i < 1)∧us.length=j) [] ⟨List.nodup_nil,(fun _ h=>by cases h),rfl⟩ rfl (Ae6 (t:=4) rfl rfl (Ae6 (t:=5) rfl rfl (Kg (t:=2) rfl (Kg (t:=3) rfl (Kg (t:=6) rfl (Kg (t:=7) rfl (Kg (t:=18) rfl (Sub.nil _)))))))) (qC (.cons (.there (.there (.there (.there .here)))) rfl (qI (qH (qE (Pick.same rfl)))))) ?_;intro j us jN jI;obtain ⟨hxn,hxl,hxj⟩:=jI;refine csr ?_;refine AL2 rfl (fun w hm=>hm.at mm5) (fun _=>.here) rfl (fun i19 hi19 hx19=>?_) (fun hx19=>?_)
 ·have hil:i19 < 1:=hi19
  have hus:us=[]:=Cz4 hxl hil hx19;have hi0:i19=0:=by omega
  refine vQ ?_;refine nnx ?_;refine Lx ?_;refine Ai9 rfl ?_;refine Kd ?_;refine Ke ?_;refine Kr ?_;refine csr ?_;refine Xa (AL1 (l:=rv [(s,n0)]) (v:=.tuple #[.agg #[.I x0,.I x1,.I x2,.I x3,.I x4],.I n0]) rfl (fun w hm=>hm.at mm0) (fun w hm=>hm.at mm5) hi19 (by subst hi0;simp [rv,ka,hse])) ?_;refine vQ ?_;refine Xg (Lp Ay1) (fun b9=>?_)
  refine sQ .here ?_;refine nsr ?_;refine Xa (Aa6 rfl mm3 Ae0 rfl) ?_;refine Xa (Aa7 rfl rfl AB3 (by omega) (by omega)) ?_;refine Xa (Aa5 rfl (fun w hm=>arr_load (l:=s) (hm.at mm0) hcs Ae0 (i:=(i:Int)) (by omega) (by omega) (x:=y) hyi)) ?_;refine vQ ?_;refine nnx ?_;refine Ly rfl ?_ ?_
  ·intro c1
   have c1':=c1;clear c1;try simp only [nH] at c1'
   refine Kv ?_;refine vQ ?_;refine Kf ?_;refine Ac4 ?_;exact Ac3 (us++[i19]) (by have:=Cl8 hxn hxl hil hx19;omega) ⟨Aq2 hxn hx19,AN7 hxl hil,by simp [hxj]⟩ rfl (Ae6 (t:=4) rfl (by rw [hus];first | simp [zW,c1'] | simp [zW,hyne]) (Ae6 (t:=5) rfl (by rw [hus];first | simp [zW,c1'] | simp [zW,hyne]) (Kg (t:=2) rfl (Kg (t:=3) rfl (Kg (t:=6) rfl (Kg (t:=7) rfl (Kg (t:=18) rfl (Sub.nil _)))))))) (qD (qD (qD (qD (qD (qD .nil))))))
  intro c1;have c1':=c1;clear c1;try simp only [nH] at c1'
  obtain ⟨yn,rfl⟩:∃ yn:Nat,y=(yn:Int):=⟨y.toNat,by omega⟩;have hyn2:yn≤5:=by omega
  have hyne:¬ ((yn:Int) = -1):=by omega
  have h2y:2 ^ yn≤2 ^ 5:=Lk (by decide) hyn2;refine Kv ?_;refine vQ ?_;refine Xa (Aa6 rfl mm3 Ae0 rfl) ?_;refine Xa (Aa7 rfl rfl AB3 (by omega) (by omega)) ?_;refine Xa (Aa5 rfl (fun w hm=>arr_load (l:=s) (hm.at mm0) hcs Ae0 (i:=(i:Int)) (by omega) (by omega) (x:=(yn:Int)) hyi)) ?_;refine Xa (Ap2 (b:=yn) rfl rfl (by show yn≤64;omega) (Ak8 (n:=2 ^ yn) (by omega))) ?_;refine Xg (Lu (parts:=[(0,.tmp 27),(1,.tmp 31)]) rfl Af6 Al2 rfl rfl rfl rfl) (fun b32=>?_)
  refine Xe (Ab8 rfl Dq2) (fun w hm=>AQ1 yn (by omega) b32 w (by have h9:=hm.at mm0;rw [hus] at h9;exact h9)) ?_;refine vQ ?_;refine Kf ?_;refine Ac4 ?_;exact Ac3 (us++[i19]) (by have:=Cl8 hxn hxl hil hx19;omega) ⟨Aq2 hxn hx19,AN7 hxl hil,by simp [hxj]⟩ rfl (Ae6 (t:=4) rfl (by rw [hus];first | simp [zW,c1'] | simp [zW,hyne]) (Ae6 (t:=5) rfl (by rw [hus];first | simp [zW,c1'] | simp [zW,hyne]) (Kg (t:=2) rfl (Kg (t:=3) rfl (Kg (t:=6) rfl (Kg (t:=7) rfl (Kg (t:=18) rfl (Sub.nil _)))))))) (qH (qH (qH (qH (qH (qH .nil))))))
 have hjl:us.length=1:=by (have h8:=hx19 0 (by show 0 < 1;omega);(cases us with | nil=>cases h8 | cons u us=>(cases us with | nil=>rfl | cons v us=>(have a1:=hxl u (by simp);have a2:=hxl v (by simp);simp at hxn;omega))))
 rw [hjl];refine vQ ?_;refine nnx ?_;refine Lx ?_;refine Ae9 rfl ?_;refine Ls ?_;refine Ac0 ?_;refine Ac0 ?_;refine Aa4 ?_;refine Ke ?_;refine csr ?_
 iterate 4 refine vQ ?_
 refine sQ (.there (.there (.there .here))) ?_;refine nnx ?_;refine Ks ?_;exact Aw1 AH2 Dp9 (.r3 rfl (.tmp rfl) (.tmp rfl) (.one rfl mm3 Af8 rfl)) (by first | rfl | simp)
set_option maxHeartbeats 2000000 in
theorem Cf5 (c:CbA) (i:Nat) (hC0:CbS c) (hCC:CbC c) (hv:cabV c.pl=true) (hi:(i:Int) < c.slots) (s:List Int) (n0:Int) (y:Int) (hy:liesX c.homes.l.length s (i:Int)=y) (hyr:-1≤y∧y≤5) (h1:endL c.pl okAny=[(s,n0)]) (W:World) (hC:CbOk W c) :
  CC 22 #[c.v,.I (i:Int)] W (Pure (.tuple #[.I (((zW y 1).1:Nat):Int),.bool (zW y 1).2,.I 0]) W):=by
 have ho:=Bv5 hv h1;have hcv:=Ca7 hv;have hl5:c.homes.l.length≤5:=hcv.few;have hg:Gd c.pl (s,n0):=AG6 hcv.slots.1 hcv.few hcv.hom hcv.wrong.2 _ _ (by have h:=h1;unfold endL at h;rw [h];exact List.mem_singleton.2 rfl);have hsl:s.length=5:=hg.len;have hsl6:within c.slots 1 6=true:=by simp only [within,Bool.and_eq_true,decide_eq_true_eq];exact hcv.slots
 obtain ⟨x0,x1,x2,x3,x4,hse⟩:=Bx7 hg.len;dsimp only at hse;have hcs:[Value.int .i64 x0,.I x1,.I x2,.I x3,.I x4]=s.map (Value.int .i64):=by rw [hse];rfl
 refine Ae4 func22 rfl rfl ?_;refine csr ?_;refine Xg (Lm rfl) (fun b2=>?_)
 refine Xg (Lm rfl) (fun b3=>?_)
 refine vQ ?_;refine vQ ?_;refine Xg (Lp Am5) (fun b6=>?_)
 refine nsr ?_;refine vQ ?_;refine An7 rfl ?_;refine nsr ?_;refine Xa (Ab5 rfl mm2 Cm8 rfl) ?_;refine vQ ?_;refine AF3 (Ab8 rfl Cj5) rfl rfl rfl (fun w hm=>Az5 c hC0 hCC 62 #[.pointer (some ⟨b3,0,none⟩)] true DR2 w (hC.mono0 hm) (fun b _ w2 hm2 hb _=>BT9 c b b3 i hi hsl6 w2 hb (hm2.old_at (hm.at mm1) (by simp)))) (fun e15 he15=>?_) (fun a15 ha15 z15=>?_)
 ·refine Aa1 ?_
  exact Aq8 AM3 Dp8 .here (.r3 rfl (.tmp rfl) (.tmp rfl) (.one rfl mm0 Af8 rfl)) (by rw [ho] at he15;cases he15)
 obtain ⟨⟨bc,m,l⟩,hz15⟩:=z15;dsimp only at hz15 ⊢;obtain rfl:l=[(s,n0)]:=List.perm_singleton.1 (h1 ▸ hz15)
 iterate 5 refine vQ ?_
 refine nnx ?_;refine Lx ?_;refine csr ?_;refine vQ ?_;refine Xg (AL4 Ay7 rfl (fun w hm=>hm.at mm1)) (fun b19=>?_)
 refine nnx ?_;refine Kr ?_;refine Af2 (X:=List Nat) (n0:=[(b2,_),(b3,_),(b6,_),(bc,_),(m,_)]) (1) (fun j us q=>(4,.I (((zW y us.length).1:Nat):Int))::(5,.bool (zW y us.length).2)::q) (fun _ _=>_) (fun j us=>[(b19,itK m (rv [(s,n0)]) us)]) (fun j us=>[]) (fun j us=>us.Nodup∧(∀ i∈us,i < 1)∧us.length=j) [] ⟨List.nodup_nil,(fun _ h=>by cases h),rfl⟩ rfl (Ae6 (t:=4) rfl rfl (Ae6 (t:=5) rfl rfl (Kg (t:=2) rfl (Kg (t:=3) rfl (Kg (t:=6) rfl (Kg (t:=7) rfl (Kg (t:=8) rfl (Kg (t:=19) rfl (Sub.nil _))))))))) (qC (.cons (.there (.there (.there (.there .here)))) rfl (qI (qH (qE (Pick.same rfl)))))) ?_;intro j us jN jI;obtain ⟨hxn,hxl,hxj⟩:=jI;refine csr ?_;refine AL2 rfl (fun w hm=>hm.at mm5) (fun _=>.here) rfl (fun i20 hi20 hx20=>?_) (fun hx20=>?_)
 ·have hil:i20 < 1:=hi20
  have hus:us=[]:=Cz4 hxl hil hx20;have hi0:i20=0:=by omega
  refine vQ ?_;refine nnx ?_;refine Lx ?_;refine Ai9 rfl ?_;refine Kd ?_;refine Ke ?_;refine Kr ?_;refine csr ?_;refine Xa (AL1 (l:=rv [(s,n0)]) (v:=.tuple #[.agg #[.I x0,.I x1,.I x2,.I x3,.I x4],.I n0]) rfl (fun w hm=>hm.at mm0) (fun w hm=>hm.at mm5) hi20 (by subst hi0;simp [rv,ka,hse])) ?_;refine vQ ?_;refine Xg (Lp Ay1) (fun b9=>?_)
  refine sQ .here ?_;refine nsr ?_;refine vQ ?_;refine Xa (Ab5 rfl mm0 AB7 rfl) ?_;refine Xa (Aa6 rfl mm3 Ae0 rfl) ?_;refine Xe (Ab8 rfl CP7) (fun w hm=>(by have h9:=AU4 c bc s (i:Int) w (hm.at mm5) hl5 hsl;rw [hy,← hcs] at h9;exact h9)) ?_;refine vQ ?_;refine nsr ?_;refine vQ ?_;refine vQ ?_;refine nnx ?_;refine Ly rfl ?_ ?_
  ·intro c1
   have c1':=c1;clear c1;try simp only [nH] at c1'
   refine Kv ?_;refine vQ ?_;refine Kf ?_;refine Ac4 ?_;exact Ac3 (us++[i20]) (by have:=Cl8 hxn hxl hil hx20;omega) ⟨Aq2 hxn hx20,AN7 hxl hil,by simp [hxj]⟩ rfl (Ae6 (t:=4) rfl (by rw [hus];first | simp [zW,c1'] | simp [zW,hyne]) (Ae6 (t:=5) rfl (by rw [hus];first | simp [zW,c1'] | simp [zW,hyne]) (Kg (t:=2) rfl (Kg (t:=3) rfl (Kg (t:=6) rfl (Kg (t:=7) rfl (Kg (t:=8) rfl (Kg (t:=19) rfl (Sub.nil _))))))))) (qD (qD (qD (qD (qD (qD .nil))))))
  intro c1;have c1':=c1;clear c1;try simp only [nH] at c1'
  obtain ⟨yn,rfl⟩:∃ yn:Nat,y=(yn:Int):=⟨y.toNat,by omega⟩;have hyn2:yn≤5:=by omega
  have hyne:¬ ((yn:Int) = -1):=by omega
  have h2y:2 ^ yn≤2 ^ 5:=Lk (by decide) hyn2;refine Kv ?_;refine vQ ?_;refine vQ ?_;refine Xa (Ap2 (b:=yn) rfl rfl (by show yn≤64;omega) (Ak8 (n:=2 ^ yn) (by omega))) ?_;refine Xg (Lu (parts:=[(0,.tmp 30),(1,.tmp 32)]) rfl Af6 Al2 rfl rfl rfl rfl) (fun b33=>?_)
  refine Xe (Ab8 rfl Dq2) (fun w hm=>AQ1 yn (by omega) b33 w (by have h9:=hm.at mm0;rw [hus] at h9;exact h9)) ?_;refine vQ ?_;refine Kf ?_;refine Ac4 ?_;exact Ac3 (us++[i20]) (by have:=Cl8 hxn hxl hil hx20;omega) ⟨Aq2 hxn hx20,AN7 hxl hil,by simp [hxj]⟩ rfl (Ae6 (t:=4) rfl (by rw [hus];first | simp [zW,c1'] | simp [zW,hyne]) (Ae6 (t:=5) rfl (by rw [hus];first | simp [zW,c1'] | simp [zW,hyne]) (Kg (t:=2) rfl (Kg (t:=3) rfl (Kg (t:=6) rfl (Kg (t:=7) rfl (Kg (t:=8) rfl (Kg (t:=19) rfl (Sub.nil _))))))))) (qH (qH (qH (qH (qH (qH .nil))))))
 have hjl:us.length=1:=by (have h8:=hx20 0 (by show 0 < 1;omega);(cases us with | nil=>cases h8 | cons u us=>(cases us with | nil=>rfl | cons v us=>(have a1:=hxl u (by simp);have a2:=hxl v (by simp);simp at hxn;omega))))
 rw [hjl];refine vQ ?_;refine nnx ?_;refine Lx ?_;refine Ae9 rfl ?_;refine Ls ?_;refine Ac0 ?_;refine Ac0 ?_;refine Aa4 ?_;refine Ke ?_;refine csr ?_
 iterate 4 refine vQ ?_
 refine sQ (.there (.there (.there .here))) ?_;refine nnx ?_;refine Ks ?_;exact Aw1 AM3 Dp8 (.r3 rfl (.tmp rfl) (.tmp rfl) (.one rfl mm3 Af8 rfl)) (by first | rfl | simp)
theorem Cv9 (c:CbA) (hC0:CbS c) (hCC:CbC c) (hv:cabV c.pl=true) (p:List Int×Int) (h1:endL c.pl okAny=[p]) (hl0:c.loans.l.length=0) (W:World) (hC:CbOk W c) :
  CC 19 #[c.v] W (Pure (.tuple #[.I 0,.I 0,.I 0]) W):=by
 have ho:=Bv5 hv h1;refine Ae4 func19 rfl rfl ?_;refine csr ?_;refine Xg (Lm rfl) (fun b1=>?_)
 refine vQ ?_;refine vQ ?_;refine Xg (Lp Am5) (fun b4=>?_)
 refine nsr ?_;refine vQ ?_;refine An7 rfl ?_;refine nsr ?_;refine Xa (Ab5 rfl mm1 Cm8 rfl) ?_;refine AF3 (Ab8 rfl Cj5) rfl rfl rfl (fun w hm=>Az5 c hC0 hCC 52 #[] true Dq3 w (hC.mono0 hm) (fun b _ w _ _ _=>AY2 _ w)) (fun e12 he12=>?_) (fun a12 ha12 z12=>?_)
 ·refine Aa1 ?_
  exact Aq8 AH4 Dq4 .here (.r3 rfl (.tmp rfl) (.tmp rfl) (.one rfl mm0 Af8 rfl)) (by rw [ho] at he12;cases he12)
 obtain ⟨⟨bc,m,l⟩,hz12⟩:=z12;dsimp only at hz12 ⊢
 iterate 5 refine vQ ?_
 refine nnx ?_;refine Lx ?_;refine csr ?_;refine vQ ?_;refine vQ ?_;refine Xa (Lo rfl Ap0) ?_;refine Xa (Lo rfl AR3) ?_;refine Xa (Aa6 rfl mm0 BS5 rfl) ?_;refine Xa (Ae3 rfl Bd6) ?_;refine vQ ?_;refine nnx ?_;refine Kr ?_;refine Ac8 (c.loans.l.length) (fun k q=>(21,.I (k:Int))::q) (fun _=>_) (fun _=>[]) (fun _=>True) trivial rfl (Ae6 (t:=21) rfl rfl (Kg (t:=2) rfl (Kg (t:=3) rfl (Kg (t:=4) rfl (Kg (t:=5) rfl (Kg (t:=19) rfl (Kg (t:=20) rfl (Sub.nil _)))))))) (qF .nil) ?_;intro k kN kI;clear kI;refine csr ?_;refine vQ ?_;refine nnx ?_;refine Lx ?_;refine Ly rfl (fun h=>absurd h (by simp;omega)) ?_;intro c0;clear c0;refine Ls ?_;refine Ac0 ?_;refine Ac0 ?_;refine Aa4 ?_;refine Ke ?_;refine csr ?_
 iterate 4 refine vQ ?_
 refine sQ (.there (.there .here)) ?_;refine nnx ?_;refine Ks ?_;exact Aw1 AH4 Dq4 (.r3 rfl (.tmp rfl) (.tmp rfl) (.one rfl mm2 Af8 rfl)) (by first | rfl | simp)
theorem Cv8 (c:CbA) (hC0:CbS c) (hv:cabV c.pl=true) (hl0:c.loans.l.length=0) (W:World) (hC:CbOk W c) :
  CC 20 #[c.v] W (Pure (.tuple #[.I 0,.I 4]) W):=by
 have ho:openC c.pl = .ok ():=by unfold openC;rw [if_pos hv]
 refine Ae4 func20 rfl rfl ?_;refine csr ?_;refine Xg (Lm rfl) (fun b1=>?_)
 refine vQ ?_;refine Xg (Lp Am5) (fun b3=>?_)
 refine nsr ?_;refine vQ ?_;refine An7 rfl ?_;refine nsr ?_;refine Xa (Ab5 rfl mm1 Cm8 rfl) ?_;refine Xm (Ab8 rfl Dq0) (fun w hm=>Bf2 c w (hC.mono0 hm) hC0) (fun e8 he8=>?_) (fun a8 ha8 b8=>?_)
 ·refine Aa1 ?_
  exact Aq8 AH3 Dq1 .here (.r2 rfl (.tmp rfl) (.one rfl mm0 Af8 rfl)) (by rw [ho] at he8;cases he8)
 refine vQ ?_;refine nnx ?_;refine Lx ?_;refine csr ?_;refine vQ ?_;refine vQ ?_;refine Xa (Lo rfl Ap0) ?_;refine Xa (Lo rfl AR3) ?_;refine Xa (Aa6 rfl mm0 BS5 rfl) ?_;refine Xa (Ae3 rfl Bd6) ?_;refine vQ ?_;refine nnx ?_;refine Kr ?_;refine Ac8 (c.loans.l.length) (fun k q=>(15,.I (k:Int))::q) (fun _=>_) (fun _=>[]) (fun _=>True) trivial rfl (Ae6 (t:=15) rfl rfl (Kg (t:=2) rfl (Kg (t:=3) rfl (Kg (t:=4) rfl (Kg (t:=13) rfl (Kg (t:=14) rfl (Sub.nil _))))))) (qE (qC .nil)) ?_;intro k kN kI;clear kI;refine csr ?_;refine vQ ?_;refine nnx ?_;refine Lx ?_;refine Ly rfl (fun h=>absurd h (by simp;omega)) ?_;intro c0;clear c0;refine Ls ?_;refine Ac0 ?_;refine Ac0 ?_;refine Aa4 ?_;refine Ke ?_;refine csr ?_;refine vQ ?_;refine sQ (.there .here) ?_;refine nnx ?_;refine Ks ?_;exact Aw1 AH3 Dq1 (.r2 rfl (.tmp rfl) (.one rfl mm1 Af8 rfl)) (by first | rfl | simp)
end Go.Q
namespace Go.Le
open Go Go.Eng Go.Bk
theorem Bw7 {c:Cb} (h:c.loans=[]):endL c okAny=[(firstX c,0)]:=by
 unfold endL;rw [h];rfl
theorem Dh4 {c:Cb} {k:Nat} (h:c.loans=[⟨0,(k:Int),0,0⟩]) (hw:0≤c.wrong) (hk:¬ (firstX c).getD k 0 = -1):endL c okAny=[((firstX c).set k (-1),0)]:=by
 have e1:thenX c (firstX c) ⟨0,(k:Int),0,0⟩=[((firstX c).set k (-1),false)]:=by
  unfold thenX;rw [if_pos rfl]
  show (if (firstX c).getD k 0 = -1 then _ else [((firstX c).set k (-1),false)])=_
  rw [if_neg hk]
 have e2:adds c c.wrong okAny 0 ⟨0,(k:Int),0,0⟩ [(firstX c,0)]=[((firstX c).set k (-1),0)]:=by
  unfold adds addsP;rw [List.flatMap_cons,List.flatMap_nil,List.append_nil]
  show (thenX c (firstX c) _).flatMap _=_
  rw [e1,List.flatMap_cons,List.flatMap_nil,List.append_nil];unfold add1;rw [if_pos ⟨by show (0:Int) + 0≤c.wrong;omega,rfl⟩];rfl
 unfold endL;rw [h]
 show stepX c c.wrong okAny 0 (c.loans.getD 0 zLn) [(firstX c,0)]=_
 rw [h]
 show addAll [] (adds c c.wrong okAny 0 ⟨0,(k:Int),0,0⟩ [(firstX c,0)])=_
 rw [e2];rfl
theorem BL5 {c:Cb} {i:Nat} (hi:i < c.homes.length):(firstX c).getD i 0=c.homes.getD i 0:=by
 unfold firstX;rw [List.getD_eq_getElem?_getD,List.getD_eq_getElem?_getD,List.getElem?_append_left hi]
end Go.Le
namespace Go.Dk
open Go Go.Eng Go.Pw1 Go.Hp
theorem Bg1 {p:Nat→Bool}:∀ n,lastP p n = -1∨∃ k,k < n∧lastP p n=(k:Int)∧p k=true
 | 0=>.inl rfl
 | n + 1=>by
   unfold lastP
   cases h:p n with
   | true=>exact .inr ⟨n,by omega,rfl,h⟩
   | false =>
     simp only [Bool.false_eq_true,if_false]
     rcases Bg1 (p:=p) n with h1 | ⟨k,h1,h2,h3⟩
     · exact .inl h1
     · exact .inr ⟨k,by omega,h2,h3⟩
theorem CD4 {m:Mx} {hs:List Nat} (hw:waysE m=0) (hl:hs.length=m.cards.length) (h:∀ i (hi:i < hs.length),sureC m i=(hs[i]:Int)):cntX m=1∧hs.Nodup∧(∀ x∈hs,x < neX m):=by
 have hfl:(fsX m).length=m.cards.length:=by unfold fsX;rw [List.length_map]
 have hc:0 < cntX m:=by
  unfold waysE at hw
  split at hw
  · split at hw
    · cases hw
    · omega
  · cases hw
 have key:∀ l,Hp.Way (neX m) (fsX m) 0 l→l=hs:=fun l hW=>by
  refine List.ext_getElem (by rw [hW.len,hfl,hl]) (fun i h1 h2=>?_)
  have h3:=h i h2
  rcases Bg1 (p:=sureP m i) (neX m) with h4 | ⟨k,h5,h6,h7⟩
  · have h8:sureC m i = -1:=h4
    omega
  · have h8:sureC m i=(k:Int):=h6
    have h9:k=hs[i]:=by omega
    unfold sureP at h7;have h10:=(CD6 (ne:=neX m) (fs:=fsX m) (c:=i) (by rw [hfl];omega) (e:=k)).1 (of_decide_eq_true h7) l hW;rw [List.getD_eq_getElem?_getD,List.getElem?_eq_getElem h1] at h10;have h11:l[i]=k:=h10;rw [h11,h9]
 have hlen:cntX m=(waysL (neX m) (fsX m) 0).length:=AE9 _ _ _;have hnd:=BS3 (neX m) (fsX m) 0;have AH6:∀ l∈waysL (neX m) (fsX m) 0,l=hs:=fun l hl=>key l (Ay4.1 hl)
 rw [hlen] at hc ⊢
 cases hW:waysL (neX m) (fsX m) 0 with
 | nil=>rw [hW] at hc;cases hc
 | cons a l =>
   rw [hW] at hnd AH6;have ha:=AH6 a (List.mem_cons_self ..);have hway:Hp.Way (neX m) (fsX m) 0 hs:=Ay4.1 (by rw [hW,ha];exact List.mem_cons_self ..);refine ⟨?_,hway.nd,fun x hx=>?_⟩
   · cases l with
     | nil=>rfl
     | cons b l =>
       have hb:=AH6 b (List.mem_cons_of_mem _ (List.mem_cons_self ..));rw [ha,hb] at hnd;exact absurd (List.mem_cons_self ..) (List.nodup_cons.1 hnd).1
   · obtain ⟨i,hi,rfl⟩:=List.getElem_of_mem hx
     exact (hway.fit i hi).1
theorem Cm6 {c:Cd} {b:Bn} {i:Nat} (h12:i < 12):stepX c b (sayX wWhich [(i:Int)])=(match whichD b i with
  | .ok (b',r)=>(b',r,0)
  | .error k=>(b,[],k)):=by
 obtain ⟨n1,n2,n3⟩:=CC6 h12
 have hbl:blanks (sayX wWhich [(i:Int)]) []=[wWhich,Lib.itoa (i:Int)]:=AV2 _ _ (by decide) (fun n hn=>by
  obtain rfl:=List.mem_singleton.1 hn;unfold Big;omega)
 have hw:wordsX (sayX wWhich [(i:Int)])=some [wWhich,Lib.itoa (i:Int)]:=Bm2 hbl.symm (fun w hw=>by
  simp only [List.mem_cons,List.not_mem_nil,or_false] at hw
  rcases hw with rfl | rfl
  · rfl
  · exact n2)
 have hlen:¬ 200 < (sayX wWhich [(i:Int)]).length:=by
  have e:sayX wWhich [(i:Int)]=wWhich++(32::Lib.itoa (i:Int)):=by simp [sayX]
  rw [e];simp only [List.length_append,List.length_cons]
  have:wWhich.length=5:=rfl
  omega
 have hns:numsX [Lib.itoa (i:Int)]=some [(i:Int)]:=by
  unfold numsX;rw [n1];unfold numsX;rfl
 have hl:lineX c b (sayX wWhich [(i:Int)])=whichD b i:=by
  unfold lineX;rw [if_neg hlen,hw];dsimp only;rw [show [wWhich,Lib.itoa (i:Int)].getD 0 []=wWhich from rfl,if_neg (show ¬ wWhich=wBox by decide),if_neg (show ¬ wWhich=wCard by decide),show verbX wWhich=some ⟨1,false,fun _ b n=>whichD b (N n 0)⟩ from rfl];dsimp only;rw [show [wWhich,Lib.itoa (i:Int)].drop 1=[Lib.itoa (i:Int)] from rfl,hns];dsimp only;rw [if_neg (fun h=>h rfl),if_neg (fun h=>by cases h.1)]
  show whichD b ((i:Int).toNat)=_
  rw [Int.toNat_natCast]
 unfold stepX;rw [hl]
 cases whichD b i <;> rfl
theorem Cm4 {c:Cd} {b:Bn} {i:Nat} (h12:i < 12) (hi:i < b.heap.cards.length) (hw:waysE b.heap=0):stepX c b (sayX wWhich [(i:Int)])=(b,if sureC b.heap i = -1 then wWhich++32::wDoubt else sayX wWhich [sureC b.heap i],0):=by
 have hs:SureX b.heap=((List.range b.heap.cards.length).map (sureC b.heap),0):=by unfold SureX;rw [if_pos hw]
 have hg:(SureX b.heap).1.getD i 0=sureC b.heap i:=by
  rw [hs,List.getD_eq_getElem?_getD,List.getElem?_map,List.getElem?_range hi];rfl
 rw [Cm6 h12];unfold whichD;rw [if_neg (fun h=>h hi),if_neg (by rw [hs];exact fun h=>h rfl)];dsimp only;rw [hg]
theorem Cy7 {c:Cd} {b:Bn} (h:CountX b.heap=(1,0)):stepX c b wWays=(b,[119,97,121,115,32,49],0):=by
 have hl:lineX c b wWays=waysD b:=by
  unfold lineX;rw [if_neg (by decide),show wordsX wWays=some [wWays] from rfl];dsimp only;rw [show [wWays].getD 0 []=wWays from rfl,if_neg (show ¬ wWays=wBox by decide),if_neg (show ¬ wWays=wCard by decide),show verbX wWays=some ⟨0,false,fun _ b _=>waysD b⟩ from rfl];dsimp only;rw [show [wWays].drop 1=[] from rfl,show numsX []=some [] from rfl];dsimp only;rw [if_neg (fun h=>h rfl),if_neg (fun h=>by cases h.1)]
 unfold stepX;rw [hl];unfold waysD;rw [h,if_pos rfl]
 show (b,sayX wWays [1],(0:Int))=_
 rw [show sayX wWays [1]=[119,97,121,115,32,49] by decide +kernel]
def whichW (s:Int):Str:=if s = -1 then wDoubt else Lib.itoa s
theorem BS0 {s:Int} (h:-1≤s∧s < 12):splitL (if s = -1 then wWhich++32::wDoubt else sayX wWhich [s])=[wWhich,whichW s]:=by
 unfold whichW
 split
 · rw [Ao4 _ _ (Nat.le_refl _),Bj4 _ _ _ (by decide),AV3 _ _ (by decide)]
   rfl
 · rw [Ao4 _ _ (Nat.le_refl _),AV2 _ _ (by decide) (fun n hn=>by
    obtain rfl:=List.mem_singleton.1 hn;unfold Big;omega)]
   rfl
theorem BS1 {s:Int} (h:-1≤s∧s < 12):whichW s=wDoubt ↔ s = -1:=by
 unfold whichW
 constructor
 · intro e
   split at e
   · assumption
   · rename_i h1
     have e2:Lib.itoa s=Lib.decDigits s.toNat:=by unfold Lib.itoa;rw [if_neg (by omega)]
     rw [e2] at e;have h3:=Bz4 s.toNat 100 (by rw [e];exact List.mem_cons_self ..);simp [digB] at h3
 · intro e
   rw [if_pos e]
theorem Bu8 (m:Mx) (i:Nat):-1≤sureC m i∧sureC m i < neX m∨neX m=0∧sureC m i = -1:=by
 rcases Bg1 (p:=sureP m i) (neX m) with h | ⟨k,h1,h2,_⟩
 · have h3:sureC m i = -1:=h
   rcases Kz (neX m) with h4 | h4
   · exact .inr ⟨h4,h3⟩
   · exact .inl ⟨by omega,by omega⟩
 · have h3:sureC m i=(k:Int):=h2
   exact .inl ⟨by omega,by omega⟩
def hoV (f:Nat→Int) (n k:Nat):LV:=(List.range n).map fun j=>.I (if j < k then f j else 0)
theorem DW0 (f:Nat→Int) (n:Nat):List.replicate n (Value.int .i64 0)=hoV f n 0:=by
 unfold hoV;refine List.ext_getElem (by simp) (fun i h1 h2=>by simp)
theorem DV8 {f:Nat→Int} {n k:Nat} (hk:k < n):(hoV f n k).set k (.I (f k))=hoV f n (k + 1):=by
 unfold hoV;refine List.ext_getElem (by simp) (fun i h1 h2=>?_)
 rw [List.getElem_set];simp only [List.getElem_map,List.getElem_range]
 split
 · rename_i e
   subst e;rw [if_pos (by omega)]
 · rename_i e
   by_cases h:i < k
   · rw [if_pos h,if_pos (by omega)]
   · rw [if_neg h,if_neg (by omega)]
theorem DV9 (f:Nat→Int) (n:Nat):hoV f n n=((List.range n).map f).map (Value.int .i64):=by
 unfold hoV;rw [List.map_map];refine List.map_congr_left fun i hi=>?_
 rw [if_pos (List.mem_range.1 hi)];rfl
theorem Dx3 (f:Nat→Int) (n k:Nat):(hoV f n k).length=n:=by simp [hoV]
end Go.Dk
namespace Go.Le
open Go Go.Eng Go.Bk
structure HsOk (hs:List Nat) (n e:Nat):Prop where
 len:hs.length=n
 n1:1≤n
 n5:n≤5
 e6:e≤6
 lt:∀ x∈hs,x < e
 nd:hs.Nodup
def hsI (hs:List Nat):List Int:=hs.map fun (x:Nat)=>(x:Int)
def cFull (hs:List Nat) (b n e:Nat):CbA:=⟨(e:Int),⟨hsI hs,some ⟨b,0,none⟩,b,0,n⟩,0,⟨[],none,0,0,0⟩⟩
def cLess (hs:List Nat) (b n e bl k:Nat):CbA:=⟨(e:Int),⟨hsI hs,some ⟨b,0,none⟩,b,0,n⟩,0,⟨[⟨0,(k:Int),0,0⟩],some ⟨bl,0,none⟩,bl,0,1⟩⟩
variable {hs:List Nat} {n e:Nat}
theorem hsI_len (hs:List Nat):(hsI hs).length=hs.length:=by unfold hsI;rw [List.length_map]
theorem hsI_get {i:Nat} (hi:i < hs.length):(hsI hs).getD i 0=(hs[i]:Int):=by
 unfold hsI;rw [List.getD_eq_getElem?_getD,List.getElem?_map,List.getElem?_eq_getElem hi];rfl
theorem Ci1 (h:HsOk hs n e) {c:Cb} (hc:c.homes=hsI hs) (hs2:c.slots=(e:Int)):homesX c c.homes.length=true:=by
 unfold homesX;rw [List.all_eq_true];intro i hi;rw [List.mem_range,hc,hsI_len] at hi;have h1:=h.lt _ (List.getElem_mem hi);rw [hc,hs2,hsI_get hi,Bool.and_eq_true];refine ⟨by simp only [within,Bool.and_eq_true,decide_eq_true_eq];omega,decide_eq_true ?_⟩
 rw [CL1];unfold idxI;refine AU5 (k:=i) (by rw [hsI_len];exact hi) ?_ (fun j hj hji=>?_)
 · simp [hsI]
 · refine decide_eq_false (fun e1=>?_)
   have hj2:j < hs.length:=by rw [hsI_len] at hj;exact hj
   have e2:(hs[i]:Int)=(hs[j]:Int):=by simpa [hsI] using e1
   have:=(List.getElem_inj h.nd).1 (Int.ofNat_inj.1 e2)
   omega
theorem Bb7 (h:HsOk hs n e) (b:Nat):cabV (cFull hs b n e).pl=true:=by
 have hx:homesX (cFull hs b n e).pl (cFull hs b n e).pl.homes.length=true:=Ci1 h rfl rfl
 have h1:1≤e:=by
  have h0:0 < hs.length:=by (have:=h.len;have:=h.n1;omega)
  have:=h.lt hs[0] (List.getElem_mem h0)
  omega
 unfold cabV;rw [hx];have h2:(hsI hs).length≤5:=by rw [hsI_len,h.len];exact h.n5
 have h3:=h.e6;simp [cFull,CbA.pl,within]
 exact ⟨⟨decide_eq_true (by omega),decide_eq_true (by omega)⟩,decide_eq_true h2⟩
theorem Ck2 (h:HsOk hs n e) (b bl k:Nat) (hk:k < n):cabV (cLess hs b n e bl k).pl=true:=by
 have hx:homesX (cLess hs b n e bl k).pl (cLess hs b n e bl k).pl.homes.length=true:=Ci1 h rfl rfl
 have h1:1≤e:=by
  have h0:0 < hs.length:=by (have:=h.len;have:=h.n1;omega)
  have:=h.lt hs[0] (List.getElem_mem h0)
  omega
 have hl:loanV (cLess hs b n e bl k).pl ⟨0,(k:Int),0,0⟩=true:=by
  have h4:(hsI hs).length=n:=by rw [hsI_len,h.len]
  unfold loanV;rw [if_pos (.inl rfl)];simp only [cLess,CbA.pl,within,Bool.and_eq_true,decide_eq_true_eq,h4];omega
 unfold cabV;rw [hx];have h2:(hsI hs).length≤5:=by rw [hsI_len,h.len];exact h.n5
 have h3:=h.e6
 have hany:((cLess hs b n e bl k).pl.loans.any fun l=>!loanV (cLess hs b n e bl k).pl l)=false:=by
  show (([⟨0,(k:Int),0,0⟩]:List Ln).any fun l=>!loanV (cLess hs b n e bl k).pl l)=false
  rw [List.any_cons,hl];rfl
 rw [hany];simp [cLess,CbA.pl,within]
 exact ⟨⟨decide_eq_true (by omega),decide_eq_true (by omega)⟩,decide_eq_true h2⟩
theorem CL6 (h:HsOk hs n e) (b:Nat):(firstX (cFull hs b n e).pl).take n=hsI hs:=by
 unfold firstX
 show (hsI hs++_).take n=hsI hs
 rw [List.take_append_of_le_length (by rw [hsI_len,h.len];exact Nat.le_refl _),List.take_of_length_le (by rw [hsI_len,h.len];exact Nat.le_refl _)]
theorem BH5 (h:HsOk hs n e) (b bl k:Nat):((firstX (cLess hs b n e bl k).pl).set k (-1)).take n=(hsI hs).set k (-1):=by
 unfold firstX
 show ((hsI hs++_).set k (-1)).take n=_
 rw [List.take_set,List.take_append_of_le_length (by rw [hsI_len,h.len];exact Nat.le_refl _),List.take_of_length_le (by rw [hsI_len,h.len];exact Nat.le_refl _)]
theorem BH4 (h:HsOk hs n e) (b s:Nat):(∃ i,∃ (hi:i < hs.length),hs[i]=s∧liesX n (firstX (cFull hs b n e).pl) (s:Int)=(i:Int))∨(s ∉ hs∧liesX n (firstX (cFull hs b n e).pl) (s:Int) = -1):=by
 unfold liesX;rw [CL6 h]
 by_cases hm:s∈hs
 · obtain ⟨i,hi,he⟩:=List.getElem_of_mem hm
   refine .inl ⟨i,hi,he,AU5 (k:=i) (by rw [hsI_len];exact hi) (by simp [hsI,he]) (fun j hj hji=>decide_eq_false (fun e1=>?_))⟩
   have hj2:j < hs.length:=by rw [hsI_len] at hj;exact hj
   have e2:(hs[j]:Int)=(s:Int):=by simpa [hsI] using e1
   have e3:hs[j]=hs[i]:=by rw [he];exact Int.ofNat_inj.1 e2
   have:=(List.getElem_inj h.nd).1 e3
   omega
 · refine .inr ⟨hm,Bg8 (fun j hj=>decide_eq_false (fun e1=>?_))⟩
   have hj2:j < hs.length:=by rw [hsI_len] at hj;exact hj
   have e2:(hs[j]:Int)=(s:Int):=by simpa [hsI] using e1
   exact hm (Int.ofNat_inj.1 e2 ▸ List.getElem_mem hj2)
theorem CK4 (h:HsOk hs n e) (b bl k s:Nat) (hk:k < n):liesX n ((firstX (cLess hs b n e bl k).pl).set k (-1)) (s:Int)=if liesX n (firstX (cFull hs b n e).pl) (s:Int)=(k:Int) then -1 else liesX n (firstX (cFull hs b n e).pl) (s:Int):=by
 have hkl:k < hs.length:=by rw [h.len];exact hk
 have hget:∀ j (hj:j < ((hsI hs).set k (-1)).length),((hsI hs).set k (-1))[j]=if j=k then -1 else (hs[j]'(by simpa [hsI] using hj):Int):=fun j hj=>by
  rw [List.getElem_set]
  by_cases e1:k=j
  · rw [if_pos e1,if_pos e1.symm]
  · rw [if_neg e1,if_neg (fun e2=>e1 e2.symm)]
    simp [hsI]
 have hno:(∀ j (hj:j < hs.length),j ≠ k→hs[j] ≠ s)→idxP (fun y=>decide (y=(s:Int))) ((hsI hs).set k (-1)) = -1:=fun hn=>Bg8 (fun j hj=>decide_eq_false (fun e1=>by
  rw [hget j hj] at e1
  split at e1
  · omega
  · rename_i hjk
    exact hn j (by simpa [hsI] using hj) hjk (Int.ofNat_inj.1 e1)))
 rcases BH4 h b s with ⟨i,hi,he,hl⟩ | ⟨hm,hl⟩
 · rw [hl]
   unfold liesX;rw [BH5 h]
   by_cases hik:i=k
   · subst hik
     rw [if_pos rfl];exact hno (fun j hj hjk e1=>hjk ((List.getElem_inj h.nd).1 (e1.trans he.symm)))
   · rw [if_neg (by omega)]
     refine AU5 (k:=i) (by rw [List.length_set,hsI_len];exact hi) ?_ (fun j hj hji=>decide_eq_false (fun e1=>?_))
     · rw [hget i (by rw [List.length_set,hsI_len];exact hi),if_neg hik,he]
       exact decide_eq_true rfl
     · rw [hget j hj] at e1
       split at e1
       · omega
       · have e3:(hs[j]'(by simpa [hsI] using hj))=hs[i]:=by rw [he];exact Int.ofNat_inj.1 e1
         have:=(List.getElem_inj h.nd).1 e3
         omega
 · rw [hl,if_neg (by omega)]
   unfold liesX;rw [BH5 h];exact hno (fun j hj _ e1=>hm (e1 ▸ List.getElem_mem hj))
end Go.Le
namespace Go.Le
open Go Go.Eng Go.Bk Go.Dk
theorem hoV_hs {f:Nat→Int} {hs:List Nat} {n:Nat} (hl:hs.length=n) (h:∀ i (hi:i < hs.length),f i=(hs[i]:Int)):hoV f n n=((hsI hs).map Bk.intC).flatten:=by
 rw [DV9]
 have e:(List.range n).map f=hsI hs:=List.ext_getElem (by simp [hsI,hl]) (fun i h1 h2=>by
  have h3:i < hs.length:=by simpa [hsI] using h2
  simp [hsI,h i h3])
 rw [e];exact (flat_ints _).symm
theorem DU9 (hs:List Nat) (b n e:Nat) (hl:hs.length=n):(cFull hs b n e).v = .agg #[.I (e:Int),.slice (some ⟨b,0,none⟩) n n,.I 0,.slice none 0 0]:=by
 subst hl
 show Value.agg #[.I (e:Int),.slice (some ⟨b,0,none⟩) (hsI hs).length hs.length,.I 0,.slice none 0 0]=_
 rw [hsI_len]
theorem DX0 (hs:List Nat) (b n e bl k:Nat) (hl:hs.length=n):(cLess hs b n e bl k).v = .agg #[.I (e:Int),.slice (some ⟨b,0,none⟩) n n,.I 0,.slice (some ⟨bl,0,none⟩) 1 1]:=by
 subst hl
 show Value.agg #[.I (e:Int),.slice (some ⟨b,0,none⟩) (hsI hs).length hs.length,.I 0,.slice (some ⟨bl,0,none⟩) 1 1]=_
 rw [hsI_len]
theorem DV0 {hs:List Nat} {n e:Nat} (h:HsOk hs n e) (b:Nat):CbS (cFull hs b n e):=⟨by show (hsI hs).length≤10000;rw [hsI_len,h.len];have:=h.n5;omega,by show 0≤10000;decide⟩
theorem DX1 {hs:List Nat} {n e:Nat} (h:HsOk hs n e) (b bl k:Nat):CbS (cLess hs b n e bl k):=⟨by show (hsI hs).length≤10000;rw [hsI_len,h.len];have:=h.n5;omega,by show 1≤10000;decide⟩
theorem DW4 (hs:List Nat) (b n e:Nat):CbC (cFull hs b n e):=⟨Nat.le_refl _,fun _=>rfl,fun a h=>(by cases h)⟩
theorem DX2 (hs:List Nat) (b n e bl k:Nat):CbC (cLess hs b n e bl k):=⟨by show 1≤1;decide,fun h=>(by cases h),fun a h=>by (obtain rfl:=Option.some.inj h;rfl)⟩
theorem Dl3 {w:World} {hs:List Nat} {b n e:Nat} {T:TypeId} {fr:Nat×Nat} (hb:w.heap[b]? = some (.cells ((hsI hs).map Bk.intC).flatten.toArray T fr)):CbOk w (cFull hs b n e):=⟨Sl.rows hb (fun x hx=>by obtain ⟨a,_,rfl⟩:=List.mem_map.1 hx;rfl),Sl.emp⟩
theorem DT5 {w:World} {hs:List Nat} {b n e bl k:Nat} {T T2:TypeId} {fr fr2:Nat×Nat} (hb:w.heap[b]? = some (.cells ((hsI hs).map Bk.intC).flatten.toArray T fr)) (hl:w.heap[bl]? = some (.cells [Value.int .i64 0,.I (k:Int),.I 0,.I 0].toArray T2 fr2)):CbOk w (cLess hs b n e bl k) :=
 ⟨Sl.rows hb (fun x hx=>by obtain ⟨a,_,rfl⟩:=List.mem_map.1 hx;rfl),Sl.rows (xs:=([⟨0,(k:Int),0,0⟩]:List Ln).map Ln.cells) hl (fun x hx=>by obtain ⟨a,_,rfl⟩:=List.mem_map.1 hx;rfl)⟩
theorem zW_nat (s:Nat):zW (s:Int) 1=(2 ^ s,false):=by
 unfold zW;rw [if_neg (by decide),if_neg (by omega),Int.toNat_natCast]
theorem mod_nat {a:Int} {n:Nat} (hn:0 < n):∃ k:Nat,a % (n:Int)=(k:Int)∧k < n:=by
 have h1:=Int.emod_nonneg a (b:=(n:Int)) (by omega);have h2:=Int.emod_lt_of_pos a (b:=(n:Int)) (by omega);exact ⟨(a % (n:Int)).toNat,by omega,by omega⟩
theorem full_where {hs:List Nat} {n e b i:Nat} (hi:i < hs.length):(firstX (cFull hs b n e).pl).getD i 0=(hs[i]:Int):=by
 rw [BL5 (by show i < (hsI hs).length;rw [hsI_len];exact hi)];exact hsI_get hi
theorem less_where {hs:List Nat} {n e b bl k i:Nat} (hi:i < hs.length):((firstX (cLess hs b n e bl k).pl).set k (-1)).getD i 0=if i=k then -1 else (hs[i]:Int):=by
 have h1:=full_where (n:=n) (e:=e) (b:=b) hi;have h2:firstX (cLess hs b n e bl k).pl=firstX (cFull hs b n e).pl:=rfl
 have h3:i < (firstX (cFull hs b n e).pl).length:=by
  unfold firstX
  show i < (hsI hs++_).length
  rw [List.length_append,hsI_len];omega
 rw [h2,List.getD_eq_getElem?_getD,List.getElem?_set]
 by_cases hik:i=k
 · rw [if_pos hik.symm,if_pos (by omega),if_pos hik];rfl
 · rw [if_neg (fun h=>hik h.symm),if_neg hik,← List.getD_eq_getElem?_getD];exact h1
theorem less_val (s:Nat) (i k:Nat):∃ wv wg,zW (if i=k then -1 else (s:Int)) 1=(wv,wg)∧(((i:Int)=(k:Int)∧wv=0∧wg=true)∨(¬ ((i:Int)=(k:Int))∧wv=2 ^ s∧wg=false)):=by
 by_cases h:i=k
 · exact ⟨0,true,by rw [if_pos h];rfl,.inl ⟨by rw [h],rfl,rfl⟩⟩
 · exact ⟨2 ^ s,false,by rw [if_neg h,zW_nat],.inr ⟨fun e=>h (Int.ofNat_inj.1 e),rfl,rfl⟩⟩
theorem slots_fit {hs:List Nat} {n e:Nat} (h:HsOk hs n e) (b bl k j:Nat) (hk:k < hs.length):∃ (y y':Int) (av bv:Nat) (ag bg:Bool),liesX n (firstX (cFull hs b n e).pl) (j:Int)=y∧(-1≤y∧y≤5)∧liesX n ((firstX (cLess hs b n e bl k).pl).set k (-1)) (j:Int)=y'∧(-1≤y'∧y'≤5)∧zW y 1=(av,ag)∧zW y' 1=(bv,bg)∧ag=decide (av=0)∧bg=(ag || decide ((j:Int)=((hs[k]:Nat):Int)))∧(bv=0∨bv=av):=by
 have hn:k < n:=by rw [← h.len];exact hk
 have hl:=CK4 h b bl k j hn;have h5:=h.n5;have hlen:=h.len
 rcases BH4 h b j with ⟨i,hi,he,hf⟩ | ⟨hm,hf⟩
 · have hp:2 ^ i ≠ 0:=Nat.pos_iff_ne_zero.1 (Li i)
   by_cases hik:i=k
   · subst hik
     refine ⟨(i:Int),-1,2 ^ i,0,false,true,hf,by omega,by rw [hl,hf,if_pos rfl],by omega,zW_nat i,rfl,(decide_eq_false hp).symm,?_,.inl rfl⟩
     simp [he]
   · have hne:¬ ((j:Int)=((hs[k]:Nat):Int)):=fun e1=>hik ((List.getElem_inj h.nd).1 (he.trans (Int.ofNat_inj.1 e1)))
     refine ⟨(i:Int),(i:Int),2 ^ i,2 ^ i,false,false,hf,by omega,by rw [hl,hf,if_neg (by omega)],by omega,zW_nat i,zW_nat i,(decide_eq_false hp).symm,?_,.inr rfl⟩
     simp [hne]
 · refine ⟨-1,-1,0,0,true,true,hf,by omega,by rw [hl,hf,if_neg (by omega)],by omega,rfl,rfl,rfl,?_,.inl rfl⟩
   simp
end Go.Le
namespace Go.Q
open Go Go.Eng Go.Bk Go.Le Go.RowKit
section
variable {hs:List Nat} {n e:Nat} (h:HsOk hs n e) (b:Nat) (w:World) {T:TypeId} {fr:Nat×Nat} (hb:w.heap[b]? = some (.cells ((hsI hs).map Bk.intC).flatten.toArray T fr))
include h hb
theorem BN7:CC 19 #[.agg #[.I (e:Int),.slice (some ⟨b,0,none⟩) n n,.I 0,.slice none 0 0]] w (Pure (.tuple #[.I 0,.I 0,.I 0]) w):=by
 have h1:=Cv9 (cFull hs b n e) (DV0 h b) (DW4 hs b n e) (Bb7 h b) _ (Bw7 rfl) rfl w (Dl3 hb);rw [DU9 hs b n e h.len] at h1;exact h1
theorem BN0:CC 20 #[.agg #[.I (e:Int),.slice (some ⟨b,0,none⟩) n n,.I 0,.slice none 0 0]] w (Pure (.tuple #[.I 0,.I 4]) w):=by
 have h1:=Cv8 (cFull hs b n e) (DV0 h b) (Bb7 h b) rfl w (Dl3 hb);rw [DU9 hs b n e h.len] at h1;exact h1
theorem BC4 (i:Nat) (hi:i < n) (y:Int) (hy:(firstX (cFull hs b n e).pl).getD i 0=y):CC 21 #[.agg #[.I (e:Int),.slice (some ⟨b,0,none⟩) n n,.I 0,.slice none 0 0],.I (i:Int)] w (Pure (.tuple #[.I (((zW y 1).1:Nat):Int),.bool (zW y 1).2,.I 0]) w):=by
 have h1:=BC2 (cFull hs b n e) i (DV0 h b) (DW4 hs b n e) (Bb7 h b) (by show i < (hsI hs).length;rw [hsI_len,h.len];exact hi) _ 0 y hy (Bw7 rfl) w (Dl3 hb);rw [DU9 hs b n e h.len] at h1;exact h1
theorem BT8 (s:Nat) (hs2:s < e) (y:Int) (hy:liesX n (firstX (cFull hs b n e).pl) (s:Int)=y) (hyr:-1≤y∧y≤5):CC 22 #[.agg #[.I (e:Int),.slice (some ⟨b,0,none⟩) n n,.I 0,.slice none 0 0],.I (s:Int)] w (Pure (.tuple #[.I (((zW y 1).1:Nat):Int),.bool (zW y 1).2,.I 0]) w):=by
 have h1:=Cf5 (cFull hs b n e) s (DV0 h b) (DW4 hs b n e) (Bb7 h b) (by show (s:Int) < (e:Int);omega) _ 0 y (by show liesX (hsI hs).length _ _=_;rw [hsI_len,h.len];exact hy) hyr (Bw7 rfl) w (Dl3 hb);rw [DU9 hs b n e h.len] at h1;exact h1
variable (bl k:Nat) (hk:k < n) {T2:TypeId} {fr2:Nat×Nat} (hl:w.heap[bl]? = some (.cells [Value.int .i64 0,.I (k:Int),.I 0,.I 0].toArray T2 fr2))
include hk hl
theorem Ch9:endL (cLess hs b n e bl k).pl okAny=[((firstX (cLess hs b n e bl k).pl).set k (-1),0)]:=by
 refine Dh4 rfl (by show (0:Int)≤0;decide) ?_;have hk2:k < hs.length:=by rw [h.len];exact hk
 rw [BL5 (by show k < (hsI hs).length;rw [hsI_len];exact hk2)]
 show ¬ (hsI hs).getD k 0 = -1
 rw [hsI_get hk2];omega
theorem BC3 (i:Nat) (hi:i < n) (y:Int) (hy:((firstX (cLess hs b n e bl k).pl).set k (-1)).getD i 0=y):CC 21 #[.agg #[.I (e:Int),.slice (some ⟨b,0,none⟩) n n,.I 0,.slice (some ⟨bl,0,none⟩) 1 1],.I (i:Int)] w (Pure (.tuple #[.I (((zW y 1).1:Nat):Int),.bool (zW y 1).2,.I 0]) w):=by
 have h1:=BC2 (cLess hs b n e bl k) i (DX1 h b bl k) (DX2 hs b n e bl k) (Ck2 h b bl k hk) (by show i < (hsI hs).length;rw [hsI_len,h.len];exact hi) _ 0 y hy (Ch9 h b w hb bl k hk hl) w (DT5 hb hl);rw [DX0 hs b n e bl k h.len] at h1;exact h1
theorem BT7 (s:Nat) (hs2:s < e) (y:Int) (hy:liesX n ((firstX (cLess hs b n e bl k).pl).set k (-1)) (s:Int)=y) (hyr:-1≤y∧y≤5):CC 22 #[.agg #[.I (e:Int),.slice (some ⟨b,0,none⟩) n n,.I 0,.slice (some ⟨bl,0,none⟩) 1 1],.I (s:Int)] w (Pure (.tuple #[.I (((zW y 1).1:Nat):Int),.bool (zW y 1).2,.I 0]) w):=by
 have h1:=Cf5 (cLess hs b n e bl k) s (DX1 h b bl k) (DX2 hs b n e bl k) (Ck2 h b bl k hk) (by show (s:Int) < (e:Int);omega) _ 0 y (by show liesX (hsI hs).length _ _=_;rw [hsI_len,h.len];exact hy) hyr (Ch9 h b w hb bl k hk hl) w (DT5 hb hl);rw [DX0 hs b n e bl k h.len] at h1;exact h1
end
theorem DS6:Enters π 19:=eZ func19
theorem DS5:Enters π 20:=eZ func20
theorem Dq9:Enters π 21:=eZ func21
theorem Dq8:Enters π 22:=eZ func22
theorem BX7:fieldNB π 41 1=some (1,2):=by kernel_rfl
end Go.Q
namespace Go.Dk
open Go Go.Eng Go.RowKit Go.Pw1 Go.Hp
theorem Cy6 (i:Nat):([119,104,105,99,104,32]:Str)++Lib.itoa (i:Int)=sayX wWhich [(i:Int)]:=by
 simp [sayX,wWhich]
theorem CG4 (a b:Value) (ha:isOne a=true) (hb:isOne b=true):paste [.slice none 0 0,.slice none 0 0] 0 (cellsL (.agg [a,b].toArray))=some [a,b]:=by
 cases a <;> first | (cases ha;done) | skip
 all_goals (cases b <;> first | (cases hb;done) | rfl)
theorem De8 {f:Nat→Int} {n k:Nat} (hk:k < n):paste (hoV f n k) (0 + ((k:Int)).toNat * 1) (cellsL (.I (f k)))=some (hoV f n (k + 1)):=by
 have h:paste (hoV f n k) k (cellsL (.I (f k)))=some ((hoV f n k).set k (.I (f k))):=Aw7 rfl (by rw [Dx3];exact hk);rw [Int.toNat_natCast,Nat.zero_add,Nat.mul_one,h,DV8 hk]
theorem BH0 (l:List Bx) (k:Nat):Hp.manyX (l.take k)≤Hp.manyX l:=by
 have h:Hp.manyX l=Hp.manyX (l.take k) + Hp.manyX (l.drop k):=by
  unfold Hp.manyX;rw [← List.sum_append,← List.map_append,List.take_append_drop]
 omega
theorem AH0 (l:List Bx) (k:Nat) (hk:k < l.length):Hp.manyX (l.take (k + 1))=Hp.manyX (l.take k) + (l[k]).titles.length:=by
 unfold Hp.manyX;rw [List.take_succ_eq_append_getElem hk,List.map_append];simp only [List.sum_append,List.map_cons,List.map_nil,List.sum_cons,List.sum_nil,Nat.add_zero]
end Go.Dk
namespace Go.Q
open Go Go.Eng Go.Dk Go.RowKit Go.Pw1 Go.Hp
theorem BM5 {w:World} {d:DkX} (hd:DkOk d) (hD:BenA w d):CC 18 #[.agg [ownV d.b d.bs.length,ownV d.c d.cs.length].toArray] w (Pure (.tuple #[.I (CountX d.pl.heap).1,.I (CountX d.pl.heap).2]) w):=by
 have h:=AY1 d.mx hD.sm w hD.m
 have e:d.mx.v = .agg [ownV d.b d.bs.length,ownV d.c d.cs.length].toArray:=by
  show Value.agg [.slice (ownQ d.b) (d.bs.map BoX.a).length (ownC d.b),.slice (ownQ d.c) d.cs.length (ownC d.c)].toArray=_
  rw [List.length_map,Ad3 hd.b,Ad3 hd.c]
 rw [e,d.mx_pl] at h;exact h
theorem CD5 (c:Cd) (q:OA) (b o cap:Nat) (hq:q=none→cap=0) (l:List Str) (ql:OA) (bl ol cl:Nat) (nw:Int) (hnw:0≤nw∧nw < 256) (W:World) (hL:Lw π W) (hS:Sl W q b o 9 (c.p.things.map Th.cells)) (hls:Sl W ql bl ol 1 (l.map strC)) (hll:l.length≤9223372036854775807) (hh:(farL c l || heavyC c)=true):CC 4 #[c.v q cap,.slice ql l.length cl,.int .u8 nw] W (Pure (.bool true) W):=by
 refine cS func4 ?_;refine st ?_;refine zn (Lm rfl) (fun b3=>?_)
 refine zc (zF rfl Dy2) (fun w hm=>BY1 c q b o cap l ql bl ol cl w (hS.mono (by decide) hm (by simp)) (hls.mono (by decide) hm (by simp)) hll) ?_;refine Ly rfl ?_ (fun h=>absurd h (by revert hh;cases farL c l <;> cases heavyC c <;> simp))
 intro c0;clear c0;refine st ?_;refine zc (zF rfl CQ0) (fun w hm=>Ap1 w (hL.mono hm)) ?_;exact rP
theorem Dd8 (c:Cd) (q:OA) (b o cap:Nat) (hq:q=none→cap=0) (l:List Str) (ql:OA) (bl ol cl:Nat) (nw:Int) (hnw:0≤nw∧nw < 256) (W:World) (hL:Lw π W) (hS:Sl W q b o 9 (c.p.things.map Th.cells)) (hls:Sl W ql bl ol 1 (l.map strC)) (hf1:farL c l=false) (h2:heavyC c=false) (hc:cardIs c=false):CC 4 #[c.v q cap,.slice ql l.length cl,.int .u8 nw] W (Pure (.bool true) W):=by
 have hcR:cardR c=false:=(Bb5 c).trans hc;obtain ⟨hl3,hl4,hv1⟩:=BY0 hf1;have hund:π.underlying 32=some (.pointer 88):=by kernel_rfl
 refine cS func4 ?_;refine st ?_;refine zn (Lm rfl) (fun b3=>?_)
 refine zc (zF rfl Dy2) (fun w hm=>Bx8 c q b o cap l ql bl ol cl w (hS.mono (by decide) hm (by simp)) (hls.mono (by decide) hm (by simp)) hf1) ?_;refine Ly rfl (fun h=>absurd h (by simp [h2])) ?_;intro c0;clear c0;refine su ?_;refine zc (zF rfl Dy1) (fun w hm=>CU6 c q b o cap hq l ql cl w (hS.mono (by decide) hm (by simp)) (by omega) hc) ?_;refine lv (Ak1 rfl hund) ?_;refine Ai9 rfl ?_;refine su ?_;refine zc (zF rfl DQ3) (fun w hm=>AX1 c q b o cap w (hS.mono (by decide) hm (by simp)) (by omega)) ?_;refine Ag6 (dj:=59) true rfl (by simp [hcR]) ?_;refine zc (zF rfl CQ0) (fun w hm=>Ap1 w (hL.mono hm)) ?_;exact rP
set_option maxHeartbeats 8000000 in
theorem Dd7 (c:Cd) (q:OA) (b o cap:Nat) (hq:q=none→cap=0) (l:List Str) (ql:OA) (bl ol cl:Nat) (nw:Int) (hnw:0≤nw∧nw < 256) (W:World) (hL:Lw π W) (hS:Sl W q b o 9 (c.p.things.map Th.cells)) (hls:Sl W ql bl ol 1 (l.map strC)) (hf1:farL c l=false) (h2:heavyC c=false) (hc:cardIs c=true):CC 4 #[c.v q cap,.slice ql l.length cl,.int .u8 nw] W (Pure (.bool true) W):=by
 obtain ⟨hl3,hl4,hv1⟩:=BY0 hf1;have hund:π.underlying 32=some (.pointer 88):=by kernel_rfl
 obtain ⟨ms,hms⟩:=DO2;refine cS func4 ?_;refine st ?_;refine zn (Lm rfl) (fun b3=>?_)
 refine zc (zF rfl Dy2) (fun w hm=>Bx8 c q b o cap l ql bl ol cl w (hS.mono (by decide) hm (by simp)) (hls.mono (by decide) hm (by simp)) hf1) ?_;refine Ly rfl (fun h=>absurd h (by simp [h2])) ?_;intro c0;clear c0;refine su ?_;refine Xl (zF rfl Dy1) (fun w hm=>Bi9 c q b o cap hq l ql bl ol cl w (hL.mono hm) (hS.mono (by decide) hm (by simp)) (by omega) (hls.mono (by decide) hm (by simp)) (by omega) (fun s hs=>by have:=hv1 s hs;omega) hc) (fun z53=>?_)
 obtain ⟨⟨xb,xd⟩,hxk⟩:=z53;dsimp only at hxk ⊢;refine st ?_;refine BQ1 (Ab3 _) (news':=(xb,dkO xd c)::(b3,.cells (cellsL (c.v q cap)).toArray 28)::(dkB xd++[])) pk2 ?_;refine st ?_;refine lv (Ak1 rfl hund) ?_;refine Ae9 rfl ?_;refine st ?_;refine Xo [(xb,_),(b3,_)] _ rfl (zF rfl DW2) (fun w hm=>Cd7 xb xd c hxk.dk w (Am7 hxk.dk (hm.pick (news':=dkM xb xd c []) pk2))) (fun z63=>?_)
 have hrt:Right c z63.1.pl:=by (rw [z63.2.2];exact hxk.rt)
 have hwe:waysE z63.1.pl.heap=0:=by (have h:=Ce6 (m:=z63.1.mx) (by rw [DkX.mx_pl];exact hrt.w);rw [DkX.mx_pl] at h;exact h)
 have hnb:z63.1.bs.length≤4:=by (have:=hrt.nb;simpa [DkX.pl] using this)
 have hnc:z63.1.cs.length≤8:=hrt.nc;have hmx:mixedX z63.1.pl.heap=true:=by (by_cases h:mixedX z63.1.pl.heap=true;exact h;unfold waysE at hwe;rw [if_neg h] at hwe;cases hwe)
 have hne:neX z63.1.pl.heap≤12:=by (have h:=hmx;unfold mixedX at h;simp only [Bool.and_eq_true,decide_eq_true_eq] at h;have h9:=h.1.2;unfold neX;rw [Aq5];exact h9)
 have hmany:Hp.manyX z63.1.pl.heap.boxes=neX z63.1.pl.heap:=(Aq5 _).symm;have hbl:z63.1.pl.heap.boxes.length=z63.1.bs.length:=by simp [DkX.pl]
 have hrep:=DW0 (sureC z63.1.pl.heap) z63.1.cs.length;refine lv (AV8 rfl BX7) ?_;refine zn (Lp Bt3) (fun b8=>?_)
 refine Xs (Lt (cs:=[.slice none 0 0,.slice none 0 0]) (cs':=[ownV z63.1.b z63.1.bs.length,ownV z63.1.c z63.1.cs.length]) rfl rfl .here BS6 rfl (CG4 _ _ (Af3 _ _) (Af3 _ _))) ?_;refine su ?_;refine lv (Ak0 rfl Bd7 z63.2.1.b) ?_;refine Ac8 (z63.1.bs.length) (fun k q=>(68,.I (k:Int))::(9,.I ((Hp.manyX (z63.1.pl.heap.boxes.take k):Nat):Int))::q) (fun _=>_) (fun _=>[]) (fun _=>True) trivial rfl (zE 68 rfl rfl (zE 9 rfl rfl (zS 2 rfl (zS 7 rfl (zS 8 rfl (zS 66 rfl (zS 67 rfl (Sub.nil _)))))))) (qE (qC (Pick.refl _))) ?_;intro k kN kI;clear kI;refine st ?_;refine cn rfl ?_ ?_
 ·intro c2'
  have hk:k < z63.1.bs.length:=by omega
  obtain ⟨u,hu⟩:∃ u,z63.1.bs[k]=u:=⟨_,rfl⟩;have hms1:=AH0 z63.1.pl.heap.boxes k (by rw [hbl];exact hk);have hut:(z63.1.pl.heap.boxes[k]'(by rw [hbl];exact hk)).titles.length=u.a.bx.titles.length:=by (subst hu;simp [DkX.pl,BoX.pl,BoX.a])
  have hmt:=BH0 z63.1.pl.heap.boxes k;have hmt1:=BH0 z63.1.pl.heap.boxes (k + 1);refine st ?_;refine lv (Aa3 (by show some (ownV z63.1.b z63.1.bs.length)=_;rw [Ad3 z63.2.1.b]) rfl Bd7 (by omega) (by omega) (Ba8 z63.2.1.b (by omega))) ?_;refine lv (Aa5 rfl (fun w hm=>(Dr6 z63.2.1 (hm.pick (news':=dkB z63.1++[]) pk2)).m.bx.loadX (by decide) (Mem.refl w) (by simp) Db6 (i:=k) (by simp [DkX.mx];omega) (x:=u.a) (by simp [DkX.mx,hu]))) ?_;refine zn (Lp AG1) (fun b11=>?_)
  refine sQ .here ?_;refine su ?_;refine lA ?_;refine lA ?_;exact Ac2 (by omega) trivial rfl (zE 68 rfl rfl (zE 9 rfl (by rw [hms1,hut];simp) (zS 2 rfl (zS 7 rfl (zS 8 rfl (zS 66 rfl (zS 67 rfl (Sub.nil _)))))))) (qD (qD (qD (Pick.skip (Pick.refl _)))))
 intro c2';obtain rfl:k=z63.1.bs.length:=by omega
 have hme:Hp.manyX (z63.1.pl.heap.boxes.take z63.1.bs.length)=neX z63.1.pl.heap:=by rw [← hbl,List.take_length,hmany]
 rw [hme];refine Ls ?_;refine su ?_;refine Aa4 ?_;refine su ?_;refine lv (Ak0 rfl AZ0 z63.2.1.c) ?_;refine Xg (New.makeSlice rfl rfl BO3 Al2 (by omega) (by decide)) (fun b81=>?_)
 refine vQ ?_;refine nnx ?_;refine Lx ?_;refine csr ?_;rw [hrep];refine su ?_;refine Af2 (X:=DkX×Nat) (n0:=[(b8,_),(b3,_)]) (z63.1.cs.length) (fun k y q=>(84,.int .i64 (k:Int))::q) (fun _ _=>_) (fun k y=>[(b81,.cells (hoV (sureC z63.1.pl.heap) z63.1.cs.length y.2).toArray 3),(xb,dkO y.1 c)]) (fun k y=>dkB z63.1++(dkB y.1++[])) (fun k y=>DkOk y.1∧y.1.pl=xd.pl∧y.2=k∧∀ j < k,¬ sureC z63.1.pl.heap j = -1) (xd,0) ⟨hxk.dk,rfl,rfl,fun j h=>absurd h (by omega)⟩ rfl (zE 84 rfl rfl (zS 2 rfl (zS 7 rfl (zS 8 rfl (zS 9 rfl (zS 12 rfl (zS 82 rfl (zS 83 rfl (Sub.nil _))))))))) (qC (qD (qE (Pick.same rfl)))) ?_;intro k y kN kI;obtain ⟨hyd,hyp0,hy2,hys⟩:=kI;have hyp:y.1.pl=z63.1.pl:=hyp0.trans z63.2.2.symm;refine st ?_;refine cn rfl ?_ ?_
 ·intro c3'
  have hk:k < z63.1.cs.length:=by omega
  have hil:=Az6 (Dr5 (show Big (k:Int) by unfold Big;omega));have hsr:-1≤sureC z63.1.pl.heap k∧sureC z63.1.pl.heap k < 12:=by (rcases Bu8 z63.1.pl.heap k with h | h <;> omega)
  obtain ⟨u0,hu0⟩:∃ u,u=wWhich:=⟨_,rfl⟩;obtain ⟨w1,hw1⟩:∃ w,w=whichW (sureC z63.1.pl.heap k):=⟨_,rfl⟩;obtain ⟨ws,hws⟩:∃ ws,ws=[u0,w1]:=⟨_,rfl⟩;have hwl:ws.length=2:=by (rw [hws];rfl)
  refine st ?_;refine zc (zF rfl Bq7) (fun w hm=>Ax1 (k:Int) (by omega) w (hL.mono hm)) ?_;refine lv (Cw5 rfl rfl (by simp;omega)) ?_;refine Xq (zF rfl Cj6) (fun w hm=>(Bb6 (nw':=fun z:DkX×Str×Int=>(b81,.cells (hoV (sureC z63.1.pl.heap) z63.1.cs.length y.2).toArray 3)::(b8,.cells [ownV z63.1.b z63.1.bs.length,ownV z63.1.c z63.1.cs.length].toArray 39)::(xb,dkO z.1 c)::(b3,.cells (cellsL (c.v q cap)).toArray 28)::(dkB z.1++(dkB z63.1++[]))) (AL5 ([119,104,105,99,104,32]++Lib.itoa (k:Int)) (by simp only [List.length_append,List.length_cons,List.length_nil];omega) xb y.1 c ((b81,.cells (hoV (sureC z63.1.pl.heap) z63.1.cs.length y.2).toArray 3)::(b8,.cells [ownV z63.1.b z63.1.bs.length,ownV z63.1.c z63.1.cs.length].toArray 39)::(b3,.cells (cellsL (c.v q cap)).toArray 28)::dkB z63.1) W w hL hyd (hm.pick pk2)) (fun _=>pk2))) (fun z92 hz92=>?_)
  obtain ⟨yd,yr,ye⟩:=z92;obtain ⟨hzd,hzs⟩:=hz92
  obtain ⟨hzp,hyr,hye⟩:yd.pl=y.1.pl∧yr=(if sureC z63.1.pl.heap k = -1 then wWhich++32::wDoubt else sayX wWhich [sureC z63.1.pl.heap k])∧ye=0:=by
   have h:(yd.pl,yr,ye)=_:=hzs.trans ((congrArg (fun z=>stepX (bareC c) z ([119,104,105,99,104,32]++Lib.itoa (k:Int))) hyp).trans ((congrArg (stepX (bareC c) z63.1.pl) (Cy6 k)).trans (Cm4 (by omega) hk hwe)));simp only [Prod.mk.injEq] at h;exact ⟨h.1.trans hyp.symm,h.2.1,h.2.2⟩
  have hsq:splitL yr=ws:=by rw [hyr,BS0 hsr,hws,hw1,hu0]
  have hyl:yr.length < 4294967281:=by (rw [hyr];split;decide;(have h8:=Az6 (n:=sureC z63.1.pl.heap k) (by unfold In64;omega);simp only [sayX,List.map_cons,List.map_nil,List.flatten_cons,List.flatten_nil,List.length_append,List.length_cons,List.length_nil,List.append_nil];have h7:wWhich.length=5:=rfl;omega))
  dsimp only at hzd ⊢;refine st ?_;refine Xj (zF rfl Dr1) (fun w hm=>(by have h9:=AX8 yr hyl w (hL.mono hm);rw [hsq] at h9;exact h9)) (fun b96=>?_)
  refine st ?_;refine Ag6 (dj:=99) false rfl (by simp [hye]) ?_;refine su ?_;refine Ag6 (dj:=104) false rfl (by simp [hye,hwl]) ?_;refine st ?_;refine lv (Aa3 rfl rfl An4 (by omega) (by omega) rfl) ?_;refine lv (Aa5 rfl (fun w hm=>Sl.loadM1 (Sl.rowsR (t:=[]) (xs:=ws.map strC) (hm.at mm0) (fun x hx=>by obtain ⟨a,_,rfl⟩:=List.mem_map.1 hx;rfl)) (by decide) (Mem.refl w) (by simp) AN0 (i:=0) (by omega) (v:=.string (bs u0)) (by simp [strC,hws]))) ?_;refine lv (AV7 rfl rfl) ?_;refine Ly rfl (fun h=>absurd h (by simp [hu0,wWhich])) ?_;intro c4;clear c4;refine st ?_;refine lv (Aa3 rfl rfl An4 (by omega) (by omega) rfl) ?_;refine lv (Aa5 rfl (fun w hm=>Sl.loadM1 (Sl.rowsR (t:=[]) (xs:=ws.map strC) (hm.at mm0) (fun x hx=>by obtain ⟨a,_,rfl⟩:=List.mem_map.1 hx;rfl)) (by decide) (Mem.refl w) (by simp) AN0 (i:=1) (by omega) (v:=.string (bs w1)) (by simp [strC,hws]))) ?_;refine lv (AL0 (a:=w1) (b:=wDoubt) rfl rfl) ?_;refine cn rfl ?_ ?_
  ·intro c5'
   refine st ?_;refine zc (zF rfl CQ0) (fun w hm=>Ap1 w (hL.mono hm)) ?_;exact rP
  intro c5';have hns:¬ sureC z63.1.pl.heap k = -1:=fun h=>absurd ((BS1 hsr).2 h) (by rw [← hw1];simpa using c5')
  have hw2:w1=Lib.itoa (sureC z63.1.pl.heap k):=by (rw [hw1];unfold whichW;rw [if_neg hns])
  have hbg:Big (sureC z63.1.pl.heap k):=⟨by omega,by omega⟩;have ha1:Lib.atoiAll w1 = .ok (sureC z63.1.pl.heap k):=by (rw [hw2];exact CW5 hbg)
  have hw1l:w1.length≤281474976710656:=by (rw [hw2];have:=Az6 (Dr5 hbg);omega)
  have hsn:sureC z63.1.pl.heap k < neX z63.1.pl.heap:=by (rcases Bu8 z63.1.pl.heap k with h | h <;> omega)
  refine st ?_;refine lv (Aa3 rfl rfl An4 (by omega) (by omega) rfl) ?_;refine lv (Aa5 rfl (fun w hm=>Sl.loadM1 (Sl.rowsR (t:=[]) (xs:=ws.map strC) (hm.at mm0) (fun x hx=>by obtain ⟨a,_,rfl⟩:=List.mem_map.1 hx;rfl)) (by decide) (Mem.refl w) (by simp) AN0 (i:=1) (by omega) (v:=.string (bs w1)) (by simp [strC,hws]))) ?_;refine zc (zF rfl CS9) (fun w hm=>AS3 w1 hw1l (sureC z63.1.pl.heap k) ha1 w) ?_;refine lv (Ap3 rfl hms) ?_;refine Ag6 (dj:=128) false rfl (by simp;omega) ?_;refine st ?_;refine Ly rfl (fun h=>absurd h (by simp;omega)) ?_;intro c6;clear c6;refine st ?_;refine lv (Ab1 rfl rfl Af6 (by omega) (by omega)) ?_;refine Xs (Lt (cs:=hoV (sureC z63.1.pl.heap) z63.1.cs.length y.2) (cs':=hoV (sureC z63.1.pl.heap) z63.1.cs.length (k + 1)) rfl rfl (.there .here) Ae0 rfl (by rw [hy2];exact De8 hk)) ?_;refine st ?_;refine lA ?_;exact Ac3 (yd,k + 1) (by omega) ⟨hzd,hzp.trans hyp0,rfl,fun j hj=>(by rcases Lc j k with h | h;exact hys j h;(obtain rfl:j=k:=by omega);exact hns)⟩ rfl (zE 84 rfl rfl (zS 2 rfl (zS 7 rfl (zS 8 rfl (zS 9 rfl (zS 12 rfl (zS 82 rfl (zS 83 rfl (Sub.nil _))))))))) pk2
 intro c3';have hkn:k=z63.1.cs.length:=by omega
 rw [hkn] at hys hy2;obtain ⟨hs,hhs⟩:∃ hs:List Nat,hs=(List.range z63.1.cs.length).map (fun i=>(sureC z63.1.pl.heap i).toNat):=⟨_,rfl⟩;have hsl:hs.length=z63.1.cs.length:=by (rw [hhs];simp)
 have hsg:∀ i (hi:i < hs.length),sureC z63.1.pl.heap i=(hs[i]:Int):=fun i hi=>by (subst hhs;have h1:=hys i (by simpa using hi);rcases Bu8 z63.1.pl.heap i with h | h;(simp;omega);exact absurd h.2 h1)
 obtain ⟨hc1,hnd,hlt⟩:=CD4 hwe hsl hsg;have hcx:CountX z63.1.pl.heap=(1,0):=by (unfold CountX;rw [if_pos hmx,hc1];rfl)
 refine Ls ?_;refine su ?_;refine Aa4 ?_;refine su ?_;refine zc (zF rfl Dr0) (fun w hm=>BM5 z63.2.1 (Dr6 z63.2.1 (hm.pick (news':=dkB z63.1++[]) pk2))) ?_;refine Xq (zF rfl Cj6) (fun w hm=>(Bb6 (nw':=fun z:DkX×Str×Int=>(b81,.cells (hoV (sureC z63.1.pl.heap) z63.1.cs.length y.2).toArray 3)::(b8,.cells [ownV z63.1.b z63.1.bs.length,ownV z63.1.c z63.1.cs.length].toArray 39)::(xb,dkO z.1 c)::(b3,.cells (cellsL (c.v q cap)).toArray 28)::(dkB z.1++(dkB z63.1++[]))) (AL5 wWays (by decide) xb y.1 c ((b81,.cells (hoV (sureC z63.1.pl.heap) z63.1.cs.length y.2).toArray 3)::(b8,.cells [ownV z63.1.b z63.1.bs.length,ownV z63.1.c z63.1.cs.length].toArray 39)::(b3,.cells (cellsL (c.v q cap)).toArray 28)::dkB z63.1) W w hL hyd (hm.pick pk2)) (fun _=>pk2))) (fun z145 hz145=>?_)
 obtain ⟨vd,vr,ve⟩:=z145;obtain ⟨hvd,hvs⟩:=hz145
 obtain ⟨hvr,hve⟩:vr=[119,97,121,115,32,49]∧ve=0:=by
  have h:(vd.pl,vr,ve)=_:=hvs.trans ((congrArg (fun z=>stepX (bareC c) z wWays) hyp).trans (Cy7 hcx));simp only [Prod.mk.injEq] at h;exact ⟨h.2.1,h.2.2⟩
 dsimp only at hvd ⊢;refine st ?_;refine Ag6 (dj:=150) false rfl (by simp [hcx]) ?_;refine st ?_;refine Ag6 (dj:=154) false rfl (by simp [hcx]) ?_;refine st ?_;refine lv (AV7 rfl rfl) ?_;refine Ag6 (dj:=158) false rfl (by simp [hvr]) ?_;refine st ?_;refine Ly rfl (fun h=>absurd h (by simp [hvr,hve])) ?_;intro c7;clear c7;refine su ?_
 refine Ac5 (dj:=166) (dp:=169) 3 rfl (fun g166=>by
  refine sv ?_;exact zs g166
 ) (fun g166=>by
   refine nQ ?_;refine nQ ?_;refine sv ?_;exact zs g166
 ) ?_
 refine st ?_
 refine Ac5 (dj:=170) (dp:=173) 3 rfl (fun g170=>by
  refine sv ?_;exact zs g170
 ) (fun g170=>by
   refine nQ ?_;refine nQ ?_;refine sv ?_;exact zs g170
 ) ?_
 refine st ?_;refine cn rfl ?_ ?_
 ·intro c8'
  refine st ?_;refine zc (zF rfl CQ0) (fun w hm=>Ap1 w (hL.mono hm)) ?_;exact rP
 intro c8';have hok:Go.Le.HsOk hs z63.1.cs.length (neX z63.1.pl.heap):=⟨hsl,by omega,by omega,by omega,hlt,hnd⟩;refine st ?_;refine lv (Al5 rfl Dt1 BC9 (Lq _ ⟨by omega,by omega⟩)) ?_;refine Xa (Val.rem rfl rfl (by omega) (by omega)) ?_;refine vQ ?_;refine nsr ?_;obtain ⟨kk,hkk,hkn⟩:=Go.Le.mod_nat (a:=nw) (n:=z63.1.cs.length) (by omega);rw [hkk];refine st ?_;refine lv (Lr (parts:=[(0,.tmp 179),(1,.tmp 180)]) rfl Bt2 BF4 rfl) ?_;refine zn (Lp Bt2) (fun b25=>?_)
 refine sQ .here ?_;refine su ?_;refine zn (Lp Bt2) (fun b26=>?_)
 refine sQ .here ?_;refine st ?_;refine lv (Lr (parts:=[(0,.const (.I 0)),(1,.tmp 183)]) rfl AG0 AG7 rfl) ?_;refine zn (Lu (parts:=[(0,.tmp 184)]) rfl Bd6 AG0 rfl rfl rfl rfl) (fun b185=>?_)
 refine sQ (.there .here) ?_;refine su ?_;refine zc (zF rfl DS6) (fun w hm=>BN7 hok b81 w (by have h9:=hm.at mm3;rw [hy2,Go.Le.hoV_hs hsl hsg] at h9;exact h9)) ?_;refine zc (zF rfl DS5) (fun w hm=>BN0 hok b81 w (by have h9:=hm.at mm3;rw [hy2,Go.Le.hoV_hs hsl hsg] at h9;exact h9)) ?_;refine Ae9 rfl ?_;refine su ?_;refine Ac8 (z63.1.cs.length) (fun k q=>(214,.int .i64 (k:Int))::q) (fun _=>_) (fun _=>[]) (fun _=>True) trivial rfl (zE 214 rfl rfl (zS 9 rfl (zS 12 rfl (zS 24 rfl (zS 25 rfl (zS 26 rfl (zS 212 rfl (zS 213 rfl (Sub.nil _))))))))) (qH (qD (qD (qC .nil)))) ?_;intro k kN kI;clear kI;refine st ?_;refine cn rfl ?_ ?_
 ·intro c10'
  have hk:k < z63.1.cs.length:=by omega
  obtain ⟨sk,hsk⟩:∃ s,hs[k]'(by omega)=s:=⟨_,rfl⟩;have hsk6:sk < neX z63.1.pl.heap:=hsk ▸ hlt _ (List.getElem_mem _);have h2s:2 ^ sk≤2 ^ 6:=Lk (by decide) (by omega);obtain ⟨wv,wg,hwz,hwc⟩:=Go.Le.less_val sk k kk;refine st ?_;refine lv (Ab1 rfl rfl Af6 (by omega) (by omega)) ?_;refine lu (Aa5 rfl (fun w hm=>Go.Le.arr_load (l:=Go.Le.hsI hs) (by have h9:=hm.at mm2;rw [hy2,Go.Le.hoV_hs hsl hsg] at h9;exact h9) (Go.Le.flat_ints _) Ae0 (i:=(k:Int)) (by omega) (by rw [Go.Le.hsI_len];omega) (x:=(sk:Int)) (by rw [Int.toNat_natCast,Go.Le.hsI_get (by omega),hsk]))) ?_;refine zc (zF rfl Dq9) (fun w hm=>(by have h9:=BC4 hok b81 w (by have h9:=hm.at mm2;rw [hy2,Go.Le.hoV_hs hsl hsg] at h9;exact h9) k hk _ (Go.Le.full_where (by omega));rw [hsk,Go.Le.zW_nat] at h9;exact h9)) ?_;refine zc (zF rfl Dq9) (fun w hm=>(by have h9:=BC3 hok b81 w (by have h9:=hm.at mm2;rw [hy2,Go.Le.hoV_hs hsl hsg] at h9;exact h9) b185 kk hkn (hm.at mm3) k hk _ (Go.Le.less_where (by omega));rw [hsk,hwz] at h9;exact h9)) ?_;refine lv (Ap2 (b:=sk) rfl rfl (by show sk≤64;omega) (Ak8 (n:=2 ^ sk) (by omega))) ?_;refine Ag6 (dj:=245) false rfl (by simp) ?_;refine st ?_;refine lv (AI5 rfl rfl Cb2) ?_;refine Ag6 (dj:=255) false rfl (by rcases hwc with ⟨h1,h2,h3⟩ | ⟨h1,h2,h3⟩ <;> simp [h1,h2,h3]) ?_;refine st ?_
  refine Ab0 (dj:=259) (dp:=263) 4 rfl (fun g259=>by
   refine sv ?_;exact zs g259
  ) (fun g259=>by
    iterate 3 refine nQ ?_
    refine sv ?_;exact zs g259
  ) ?_
  refine st ?_;refine Ag6 (dj:=265) false rfl (by rcases hwc with ⟨h1,h2,h3⟩ | ⟨h1,h2,h3⟩ <;> simp [h1,h2,h3]) ?_;refine st ?_
  refine Ab0 (dj:=269) (dp:=272) 3 rfl (fun g269=>by
   refine sv ?_;exact zs g269
  ) (fun g269=>by
    refine nQ ?_;refine nQ ?_;refine sv ?_;exact zs g269
  ) ?_
  refine st ?_;refine Ly rfl (fun h=>absurd h (by rcases hwc with ⟨h1,h2,h3⟩ | ⟨h1,h2,h3⟩ <;> simp [h1,h2,h3])) ?_;intro c11;clear c11;refine st ?_;refine lA ?_;exact Ac2 (by omega) trivial rfl (zE 214 rfl rfl (zS 9 rfl (zS 12 rfl (zS 24 rfl (zS 25 rfl (zS 26 rfl (zS 212 rfl (zS 213 rfl (Sub.nil _))))))))) (qF .nil)
 intro c10';refine Ls ?_;refine su ?_;refine Aa4 ?_;refine st ?_;refine Ac8 (neX z63.1.pl.heap) (fun j q=>(276,.I (j:Int))::q) (fun _=>_) (fun _=>[]) (fun _=>True) trivial rfl (zE 276 rfl rfl (zS 12 rfl (zS 24 rfl (zS 25 rfl (zS 26 rfl (zS 275 rfl (Sub.nil _))))))) (qF .nil) ?_;intro j jN jI;clear jI;refine st ?_;refine cn rfl ?_ ?_
 ·intro c12'
  have hj:j < neX z63.1.pl.heap:=by omega
  obtain ⟨sk,hsk⟩:∃ s,hs[kk]'(by omega)=s:=⟨_,rfl⟩;obtain ⟨y1,y3,av,bv,ag,bg,hy1,hy1r,hy3,hy3r,hzv,hzv3,hag,hbg,hbv⟩:=Go.Le.slots_fit hok b81 b185 kk j (by omega);rw [hsk] at hbg;refine su ?_;refine zc (zF rfl Dq8) (fun w hm=>(by have h9:=BT8 hok b81 w (by have h9:=hm.at mm2;rw [hy2,Go.Le.hoV_hs hsl hsg] at h9;exact h9) j hj y1 hy1 hy1r;rw [hzv] at h9;exact h9)) ?_;refine zc (zF rfl Dq8) (fun w hm=>(by have h9:=BT7 hok b81 w (by have h9:=hm.at mm2;rw [hy2,Go.Le.hoV_hs hsl hsg] at h9;exact h9) b185 kk hkn (hm.at mm3) j hj y3 hy3 hy3r;rw [hzv3] at h9;exact h9)) ?_;refine lv (AI5 rfl rfl Cb2) ?_;refine Ag6 (dj:=305) false rfl (by rw [hag];simp) ?_;refine st ?_
  refine Ac5 (dj:=308) (dp:=315) 7 rfl (fun g308=>by
   have g308':=g308;try simp only [nH] at g308'
   refine st ?_;refine lv (Ab1 rfl rfl Af6 (by omega) (by omega)) ?_;refine Xa (Aa5 rfl (fun w hm=>Go.Le.arr_load (l:=Go.Le.hsI hs) (by have h9:=hm.at mm2;rw [hy2,Go.Le.hoV_hs hsl hsg] at h9;exact h9) (Go.Le.flat_ints _) Ae0 (i:=(kk:Int)) (by omega) (by rw [Go.Le.hsI_len];omega) (x:=(sk:Int)) (by rw [Int.toNat_natCast,Go.Le.hsI_get (by omega),hsk]))) ?_;refine sv ?_;exact zs g308
  ) (fun g308=>by
    iterate 6 refine nQ ?_
    refine sv ?_;exact zs g308
  ) ?_
  refine lv (AI5 rfl rfl Cb2) ?_;refine Ag6 (dj:=318) false rfl (by rw [hbg];cases ag <;> simp) ?_;refine st ?_
  refine Ab0 (dj:=321) (dp:=325) 4 rfl (fun g321=>by
   refine sv ?_;exact zs g321
  ) (fun g321=>by
    iterate 3 refine nQ ?_
    refine sv ?_;exact zs g321
  ) ?_
  refine st ?_;refine Ly rfl (fun h=>absurd h (by rcases hbv with h9 | h9 <;> simp [h9])) ?_;intro c13;clear c13;refine st ?_;refine lA ?_;exact Ac2 (by omega) trivial rfl (zE 276 rfl rfl (zS 12 rfl (zS 24 rfl (zS 25 rfl (zS 26 rfl (zS 275 rfl (Sub.nil _))))))) (qF .nil)
 intro c12';refine Ls ?_;refine su ?_;refine Aa4 ?_;refine st ?_;refine zc (zF rfl CQ0) (fun w hm=>Ap1 w (hL.mono hm)) ?_;exact rP
theorem DL8 {w:World} {cs:LV} (h:Rd w (.int .u8) cs):∃ a:Int,cs=[.int .u8 a]∧(0≤a∧a < 256):=by
 cases h with
 | @int _ n h =>
   have h2:0≤n∧n≤255:=by
    have h3:(decide (IntKind.u8.min≤n) && decide (n≤IntKind.u8.max))=true:=h;rw [Bool.and_eq_true,decide_eq_true_eq,decide_eq_true_eq] at h3;exact h3
   exact ⟨n,rfl,by omega⟩
theorem Bu7 (W:World) (vs:LV) (hL:Lw π W) (h:RdAll W [cdSh,.sl .str,.int .u8] vs):CC 4 vs.toArray W (Pure (.bool true) W):=by
 cases h with
 | cons h1 h =>
 cases h with
 | cons h2 h =>
 cases h with
 | cons h3 h =>
 cases h
 obtain ⟨c,q,b,o,cap,rfl,hp⟩:=DV6 h1;obtain ⟨l1,q1,e1,o1,k1,rfl,hs1,hl1⟩:=De6 h2;obtain ⟨nw,rfl,hnw⟩:=DL8 h3;have hq:q=none→cap=0:=fun h=>(hp.n h).2
 by_cases hf:(farL c l1 || heavyC c)=true
 · exact CD5 c q b o cap hq l1 q1 e1 o1 k1 nw hnw W hL hp.s hs1 hl1 hf
 · simp only [Bool.or_eq_true,not_or,Bool.not_eq_true] at hf
   obtain ⟨f1,f2⟩:=hf
   cases hc:cardIs c with
   | false=>exact Dd8 c q b o cap hq l1 q1 e1 o1 k1 nw hnw W hL hp.s hs1 f1 f2 hc
   | true=>exact Dd7 c q b o cap hq l1 q1 e1 o1 k1 nw hnw W hL hp.s hs1 f1 f2 hc
end Go.Q
