/- Walks of package desk: verbs that turn the things of a view. Printed by mk_kn.py. -/
import Derived.Test.YtnmkdiagbkkmaabGreatDoorN04
import Derived.Test.YtnmkdiagbkkmaabGreatDoorProg
import Derived.Lib.UnsafeStr
set_option linter.unusedSimpArgs false
set_option linter.unusedVariables false
set_option linter.unusedSectionVars false
namespace Go.Dk
open Go Go.Eng Go.RowKit Go.Pw1 Go.Hp
theorem Bv5 {α β:Type} {f:α→β} {l:List α} {i:Nat} (hi:i < l.length) {a a':α} (ha:l[i]=a) (h:f a'=f a):(l.set i a').map f=l.map f:=by
  rw [List.map_set,h];subst ha;refine List.ext_getElem (by simp) fun j h1 h2=>?_
  rw [List.getElem_set]
  split
  · rename_i he;subst he;simp
  · rfl
section
variable {b:Bn} {i k:Nat} {v:Vw} {far:Int} (h:b.views.getD i noVw=v)
include h
theorem Ck8 (hk:¬ k < v.p.things.length):markD b i k far = .error 2:=by unfold markD;rw [h];dsimp only;rw [if_pos hk]
theorem Ck7 (hk:k < v.p.things.length) (hu:v.up=true):markD b i k far = .error 6:=by unfold markD;rw [h];dsimp only;rw [if_neg (fun h=>h hk),if_pos hu]
theorem Ck6 (hk:k < v.p.things.length) (hu:v.up=false) {p:Pr} (hp:{ v.p with things:=v.p.things.modify k fun t=>{ t with far:=far } }=p) (he:(powerX p).2 ≠ 0):markD b i k far = .error (powerX p).2:=by subst hp;unfold markD;rw [h];dsimp only;rw [if_neg (fun h=>h hk),if_neg (by rw [hu];decide),if_neg he]
theorem CE6 (hk:k < v.p.things.length) (hu:v.up=false) {p:Pr} (hp:{ v.p with things:=v.p.things.modify k fun t=>{ t with far:=far } }=p) (he:(powerX p).2=0):markD b i k far = .ok (putV b i { v with p:=p },sayX wMark [(powerX p).1.1,(powerX p).1.2]):=by subst hp;unfold markD;rw [h];dsimp only;rw [if_neg (fun h=>h hk),if_neg (by rw [hu];decide),if_pos he]
variable {x1 x2 y1 y2:Int}
theorem BT8 (hu:v.up=true):thingD b i x1 x2 y1 y2 = .error 6:=by unfold thingD;rw [h];dsimp only;rw [if_pos hu]
theorem BT7 (hu:v.up=false) (hk:¬ v.p.things.length < 12):thingD b i x1 x2 y1 y2 = .error 9:=by unfold thingD;rw [h];dsimp only;rw [if_neg (by rw [hu];decide),if_pos hk]
theorem BT6 (hu:v.up=false) (hk:v.p.things.length < 12) {p:Pr} (hp:{ v.p with things:=v.p.things++[⟨⟨x1,x2⟩,⟨0,0⟩,⟨y1,y2⟩,⟨0,0⟩,0⟩] }=p) (he:(whyX p v.p.things.length).2 ≠ 0):thingD b i x1 x2 y1 y2 = .error (whyX p v.p.things.length).2:=by subst hp;unfold thingD;rw [h];dsimp only;rw [if_neg (by rw [hu];decide),if_neg (fun h=>h hk),if_neg he]
theorem Ce8 (hu:v.up=false) (hk:v.p.things.length < 12) {p:Pr} (hp:{ v.p with things:=v.p.things++[⟨⟨x1,x2⟩,⟨0,0⟩,⟨y1,y2⟩,⟨0,0⟩,0⟩] }=p) (he:(whyX p v.p.things.length).2=0):thingD b i x1 x2 y1 y2 = .ok (putV b i { v with p:=p },sayX wThing [v.p.things.length,(whyX p v.p.things.length).1]):=by subst hp;unfold thingD;rw [h];dsimp only;rw [if_neg (by rw [hu];decide),if_neg (fun h=>h hk),if_pos he]
end
end Go.Dk
namespace Go.Proofs.YtnmkdiagbkkmaabGreatDoor
open Go Go.Eng Go.Dk Go.RowKit Go.Pw1 Go.Hp

def othV (vs:List VwX) (i:Nat):Blks:=((vs.take i).map vwB).flatten++((vs.drop (i + 1)).map vwB).flatten
theorem BO8 (vs:List VwX) (i:Nat) (v:VwX):othV (vs.set i v) i=othV vs i:=by
  unfold othV;rw [List.take_set_of_le (Nat.le_refl i),List.drop_set_of_lt (Nat.lt_succ_self i)]
open Classical in
theorem AL3 {vs:List VwX} {i:Nat} (hi:i < vs.length) {v:VwX} (hv:vs[i]=v) (x:Nat×Obj):(vs.map vwB).flatten.count x=(vwB v).count x + (othV vs i).count x:=by
  subst hv;unfold othV
  conv=>lhs;rw [← List.take_append_drop i vs,List.drop_eq_getElem_cons hi]
  simp only [List.map_append,List.map_cons,List.flatten_append,List.flatten_cons,List.count_append];omega
abbrev dthO (l:List Th) (r:List Value):Obj:=.cells ((l.map Th.cells).flatten++r).toArray 66 (0,0)
theorem Bu5 (p p2:Pr) (l:List Th) (hp:p2={ p with things:=l }) (n:Nat) (hn:l.length=n) (q:Option Addr) (b o cap:Nat) (W:World) (hS:Sl W q b o 9 (l.map Th.cells)) (hl:l.length≤100000000000) :
    Calls Tryz.prog 123 #[.agg [.int .i64 p.focal.lo,.int .i64 p.focal.hi,.int .i64 p.base.lo,.int .i64 p.base.hi,.int .i64 p.tilt,.int .i64 p.near,.int .i64 p.far,.slice q n cap].toArray] W (Pure (.tuple #[b2v (powerX p2).1,.int .i64 (powerX p2).2]) W):=by
  subst hn hp;exact Bd2 { p with things:=l } q b o cap W hS hl
theorem BS4 (p:Pr) (n:Int) (z:Eng.Own) (h:OwnOk 9 z p.things.length (p.things.map Th.cells).flatten) (W:World) (hS:∀ b o,(b,o)∈ownB 66 z (p.things.map Th.cells).flatten→W.heap[b]? = some o) (hl:p.things.length≤100000000000) :
    Calls Tryz.prog 117 #[.agg [.int .i64 p.focal.lo,.int .i64 p.focal.hi,.int .i64 p.base.lo,.int .i64 p.base.hi,.int .i64 p.tilt,.int .i64 p.near,.int .i64 p.far,ownV z p.things.length].toArray,.int .i64 n] W (Pure (.tuple #[.int .i64 (whyX p n).1,.int .i64 (whyX p n).2]) W):=by
  rw [Ad9 h];exact BB1 p n (ownQ z) (ownK z) 0 (ownC z) W (Ar5 (f:=Th.cells) (e:=66) (fun _=>rfl) (by decide) h hS) hl
section
variable (xb vb vc:Nat) (vr:List Value) (vs:List VwX) (db:Eng.Own) (bs0:List BoX) (dc:Eng.Own) (cs:List Tn) (c:Cd) (nb nc:Nat) (nr:List Value) (wv:Value) (rest:Blks) (W0 w:World) (hL:Lw Tryz.prog W0) (hd:DkOk ⟨some (vb,vc,vr),vs,db,bs0,dc,cs⟩)
include hL hd
theorem CI7 (i k:Nat) (far:Int) (hi:i < vs.length) (hk:¬ k < (vs[i]).p.things.length) (hm0:Mem W0 [] (dkM xb ⟨some (vb,vc,vr),vs,db,bs0,dc,cs⟩ c ((nb,nO [(i:Int),(k:Int),far] nr)::(rest++[]))) w) :
    Calls Tryz.prog 74 #[pV xb,wv,.slice (some ⟨nb,0,none⟩) 3 nc] w (VerbT W0 xb c (markD (DkX.pl ⟨some (vb,vc,vr),vs,db,bs0,dc,cs⟩) i k far) rest):=by
  obtain ⟨v,hv⟩:∃ v,vs[i]=v:=⟨_,rfl⟩;have hvm:v∈vs:=hv ▸ List.getElem_mem hi;have hth:v.p.things.length≤12:=hd.things v hvm;have hpl:(DkX.pl ⟨some (vb,vc,vr),vs,db,bs0,dc,cs⟩).views.getD i noVw=v.pl:=pl_view (d:=⟨some (vb,vc,vr),vs,db,bs0,dc,cs⟩) hi hv;have hok:OwnOk 9 v.t v.p.things.length (v.p.things.map Th.cells).flatten:=hd.vs v hvm;have hi0:i < (DkX.mk (some (vb,vc,vr)) vs db bs0 dc cs).vs.length:=hi;have hcn:=AL3 hi hv;have hm1:Mem W0 [] ((xb,dkO ⟨some (vb,vc,vr),vs,db,bs0,dc,cs⟩ c)::(vb,vwsO vs vr)::(nb,nO [(i:Int),(k:Int),far] nr)::(vwB v++(othV vs i++(dkS ⟨some (vb,vc,vr),vs,db,bs0,dc,cs⟩++(rest++[]))))) w:=hm0.pick (Pick.cnt fun x=>by have:=hcn x;simp only [dkM,dkB,dkS,vwsO,ownB,List.count_cons,List.count_append,List.count_nil] at this ⊢;omega);rw [hv] at hk;refine Af7 hm1 Tryz.func74 rfl rfl ?_;refine st ?_;refine Ac4 7 Aj3 (.cons .here rfl (.cons .here rfl (.cons .here rfl .nil))) ?_;refine zw 0 ?_;refine zw 1 ?_;refine zv 2 rfl (Ab4 rfl rfl Ah5 (by omega) (by omega)) ?_;refine zw 3 ?_;refine zw 4 ?_;refine zv 5 rfl (Ab4 rfl rfl Ah5 (by omega) (by omega)) ?_;refine zw 6 ?_;refine zt ?_;refine zB 7 ?_;refine Am7 rfl (zF rfl BI6) rfl rfl rfl (fun w hm=>Az7 xb ⟨some (vb,vc,vr),vs,db,bs0,dc,cs⟩ c w (An9 hd (hm.pick (news':=dkM xb ⟨some (vb,vc,vr),vs,db,bs0,dc,cs⟩ c (rest++[])) (Pick.cnt fun x=>by simp only [nC,dkM,dkB,vwsO,nO,dkS,ownB,hcn];omega))) i k v hi hv) (fun e17 he17=>?_) (fun v17 hv17=>(Ab9 ?_))
  ·obtain ⟨er17,rfl⟩:=Ae0 he17
   refine Aa5 ?_;exact Ae4 ((ownV (some (vb,vc,vr)) vs.length,ownV db bs0.length,ownV dc cs.length),2) (Ck8 hpl hk) rfl (.cons .here rfl (Pick.cnt fun x=>by simp only [nC,dkM,dkB,vwsO,nO,dkS,ownB,hcn];omega))
  exact absurd (of_decide_eq_true (Ae7 hv17).1) (by omega)
theorem BY7 (i k:Nat) (far:Int) (hi:i < vs.length) (hm0:Mem W0 [] (dkM xb ⟨some (vb,vc,vr),vs,db,bs0,dc,cs⟩ c ((nb,nO [(i:Int),(k:Int),far] nr)::(rest++[]))) w) :
    Calls Tryz.prog 74 #[pV xb,wv,.slice (some ⟨nb,0,none⟩) 3 nc] w (VerbT W0 xb c (markD (DkX.pl ⟨some (vb,vc,vr),vs,db,bs0,dc,cs⟩) i k far) rest):=by
  by_cases hk:k < (vs[i]).p.things.length
  case neg=>exact CI7 xb vb vc vr vs db bs0 dc cs c nb nc nr wv rest W0 w hL hd i k far hi hk hm0
  obtain ⟨v,hv⟩:∃ v,vs[i]=v:=⟨_,rfl⟩;have hvm:v∈vs:=hv ▸ List.getElem_mem hi;have hth:v.p.things.length≤12:=hd.things v hvm;have hpl:(DkX.pl ⟨some (vb,vc,vr),vs,db,bs0,dc,cs⟩).views.getD i noVw=v.pl:=pl_view (d:=⟨some (vb,vc,vr),vs,db,bs0,dc,cs⟩) hi hv;have hok:OwnOk 9 v.t v.p.things.length (v.p.things.map Th.cells).flatten:=hd.vs v hvm;have hi0:i < (DkX.mk (some (vb,vc,vr)) vs db bs0 dc cs).vs.length:=hi;have hcn:=AL3 hi hv;have hm1:Mem W0 [] ((xb,dkO ⟨some (vb,vc,vr),vs,db,bs0,dc,cs⟩ c)::(vb,vwsO vs vr)::(nb,nO [(i:Int),(k:Int),far] nr)::(vwB v++(othV vs i++(dkS ⟨some (vb,vc,vr),vs,db,bs0,dc,cs⟩++(rest++[]))))) w:=hm0.pick (Pick.cnt fun x=>by have:=hcn x;simp only [dkM,dkB,dkS,vwsO,ownB,List.count_cons,List.count_append,List.count_nil] at this ⊢;omega);rw [hv] at hk;obtain ⟨tb,tc,tr,ht,-,-,-⟩:=hok.has (by omega);obtain ⟨p,vt,vcu,vup⟩:=v;dsimp only at ht hk hok hth;subst ht;obtain ⟨th,hthk⟩:∃ th,p.things[k]=th:=⟨_,rfl⟩;obtain ⟨p2,hp2⟩:∃ p2:Pr,p2={ p with things:=p.things.set k { th with far:=far } }:=⟨_,rfl⟩;have hpm:{ p with things:=p.things.modify k fun t=>{ t with far:=far } }=p2:=by rw [hp2,BW7 hk hthk]
  have hpn:p2.things.length=p.things.length:=by rw [hp2];exact List.length_set
  have hpt:p2.things=p.things.set k { th with far:=far }:=by rw [hp2]
  have hbd:=Bm7 p2;obtain ⟨v2,hv2⟩:∃ v2:VwX,v2=⟨p2,some (tb,tc,tr),vcu,vup⟩:=⟨_,rfl⟩;have hcs:v2.cells=VwX.cells ⟨p,some (tb,tc,tr),vcu,vup⟩:=by rw [hv2,hp2];simp only [VwX.cells,List.length_set]
  have hvs:(vs.set i v2).map VwX.cells=vs.map VwX.cells:=Bv5 hi hv hcs
  have hok2:OwnOk 9 v2.t v2.p.things.length (v2.p.things.map Th.cells).flatten:=by
    rw [hv2]
    show OwnOk 9 _ p2.things.length (p2.things.map Th.cells).flatten
    rw [hpn];exact BF1 hok (by rw [Ak1 (f:=Th.cells) (sz:=9) (fun _=>rfl),Ak1 (f:=Th.cells) (sz:=9) (fun _=>rfl),hpn])
  have hcn2:=AL3 (vs:=vs.set i v2) (i:=i) (by rw [List.length_set];exact hi) (v:=v2) (by simp);have hb2:vwB v2=[(tb,dthO (p.things.set k { th with far:=far }) tr)]:=by rw [hv2,hp2];rfl
  rw [BO8,hb2] at hcn2;refine Af7 hm1 Tryz.func74 rfl rfl ?_;refine st ?_;refine Ac4 7 Aj3 (.cons .here rfl (.cons .here rfl (.cons .here rfl .nil))) ?_;refine zw 0 ?_;refine zw 1 ?_;refine zv 2 rfl (Ab4 rfl rfl Ah5 (by omega) (by omega)) ?_;refine zw 3 ?_;refine zw 4 ?_;refine zv 5 rfl (Ab4 rfl rfl Ah5 (by omega) (by omega)) ?_;refine zw 6 ?_;refine zt ?_;refine zB 7 ?_;refine Am7 rfl (zF rfl BI6) rfl rfl rfl (fun w hm=>Az7 xb ⟨some (vb,vc,vr),vs,db,bs0,dc,cs⟩ c w (An9 hd (hm.pick (news':=dkM xb ⟨some (vb,vc,vr),vs,db,bs0,dc,cs⟩ c (rest++[])) (Pick.cnt fun x=>by simp only [nC,dkM,dkB,vwsO,nO,dkS,ownB,hcn];omega))) i k _ hi hv) (fun e17 he17=>?_) (fun v17 hv17=>(Ab9 ?_))
  ·obtain ⟨er17,rfl⟩:=Ae0 he17
   refine Aa5 ?_;exact absurd (of_decide_eq_false er17) (fun h=>h (show (k:Int) < (p.things.length:Int) by omega))
  obtain ⟨ok17,rfl⟩:=Ae7 hv17;refine zd ?_;refine st ?_;refine Ac4 8 Aj3 (.cons .here rfl (.cons .here rfl (.cons .here rfl .nil))) ?_;refine zw 0 ?_;refine zw 1 ?_;refine zw 2 ?_;refine zw 3 ?_;refine zw 4 ?_;refine zw 5 ?_;refine zv 6 rfl (Ab4 rfl rfl Ah5 (by omega) (by omega)) ?_;refine zw 7 ?_;refine zt ?_;refine zo 8 rfl (Ab4 rfl rfl AE4 (by omega) (by omega)) ?_;refine zp 9 ?_;refine zd ?_;refine st ?_;refine Ac2 (zF rfl BI7) rfl rfl rfl (fun w hm=>AF9 (some ⟨vb,0,none⟩) vb 0 _ vs i _ vup w (Bd5 (hm.at (.tail _ (.head _)))) hi hv rfl (by simp)) (fun e28 he28=>?_) (fun v28 hv28=>?_)
  ·obtain ⟨er28,rfl⟩:=Ae0 he28
   have hu:vup=true:=by simpa using er28
   refine Aa5 ?_;exact Ae4 ((ownV (some (vb,vc,vr)) vs.length,ownV db bs0.length,ownV dc cs.length),6) (Ck7 hpl hk hu) rfl (.cons .here rfl (Pick.cnt fun x=>by simp only [nC,dkM,dkB,vwsO,nO,dkS,ownB,hcn];omega))
  obtain ⟨ok28,rfl⟩:=Ae7 hv28;have hu:vup=false:=by simpa using ok28
  refine st ?_;refine Ac4 11 Aj3 (.cons .here rfl (.cons .here rfl (.cons .here rfl .nil))) ?_;refine zw 0 ?_;refine zw 1 ?_;refine zw 2 ?_;refine zw 3 ?_;refine zv 4 rfl (Ab0 rfl (fun w hm=>(Bd5 (hm.at (.tail _ (.head _)))).cellE (Mem.refl w) (by simp) AB8 hi hv (j:=7) (by decide) (v:=.slice (some ⟨tb,0,none⟩) p.things.length tc) rfl (by simp))) ?_;refine zw 5 ?_;refine zv 6 rfl (Ab4 rfl rfl Ah5 (by omega) (by omega)) ?_;refine zw 7 ?_;refine zw 8 ?_;refine zv 9 rfl (Ab4 rfl rfl Ah5 (by omega) (by omega)) ?_;refine zw 10 ?_;refine zt ?_;refine zo 11 rfl (Ab4 rfl rfl AE5 (by omega) (by omega)) ?_;refine zp 12 ?_;refine zB 13 ?_;refine Ac0 rfl (Sto.store (cs:=(p.things.map Th.cells).flatten++tr) (cs':=((p.things.set k { th with far:=far }).map Th.cells).flatten++tr) rfl rfl (.there (.there (.there .here))) Ag4 rfl (Aq0 CP9 hk hthk (j:=8) (by simp) rfl)) rfl rfl (Ab9 ?_)
  refine zd ?_;refine su ?_;refine lv (Ab0 rfl (fun w hm=>(Bd5 (hm.at (.tail _ (.head _)))).loadPart (Mem.refl w) (by simp) Bm1 hi hv (j:=0) (by decide) (vs:=[.int .i64 p.focal.lo,.int .i64 p.focal.hi,.int .i64 p.base.lo,.int .i64 p.base.hi,.int .i64 p.tilt,.int .i64 p.near,.int .i64 p.far,.slice (some ⟨tb,0,none⟩) p.things.length tc]) rfl (by decide) (by simp))) ?_;refine zc (zF rfl Cr9) (fun w hm=>Bu5 p p2 (p.things.set k { th with far:=far }) hp2 p.things.length List.length_set (some ⟨tb,0,none⟩) tb 0 tc w (Sl.rowsR (hm.at (.tail _ (.tail _ (.tail _ (.head _))))) (fun x hx=>by obtain ⟨t,_,rfl⟩:=List.mem_map.1 hx;rfl)) (by rw [List.length_set];omega)) ?_;refine zn (New.alloc Ae2) (fun b8=>?_)
  refine Aa9 (Sto.store rfl rfl .here Ag5 rfl rfl) rfl rfl ?_;refine st ?_;refine Ac2 (zF rfl At8) rfl rfl rfl (fun w hm=>Ah6 _ w) (fun e51 he51=>?_) (fun v51 hv51=>?_)
  ·obtain ⟨er51,rfl⟩:=An5 he51
   refine Aa5 ?_;exact Ae4 ((ownV (some (vb,vc,vr)) vs.length,ownV db bs0.length,ownV dc cs.length),(powerX p2).2) (Ck6 hpl hk hu hpm er51) rfl (.cons (.there .here) rfl (Pick.cnt fun x=>by simp only [nC,dkM,dkB,vwsO,nO,dkS,ownB,hcn];omega))
  obtain ⟨ok51,rfl⟩:=At6 hv51;refine st ?_;refine lu (Val.makeInterface rfl Ap0) ?_;refine lv (Val.makeInterface rfl BF4) ?_;refine zn (New.buildSlice (parts:=[(0,.tmp 52),(1,.tmp 54)]) rfl Ao7 Al8 rfl rfl rfl rfl) (fun b55=>?_)
  refine zc (zF rfl Au1) (fun w hm=>Ag2 [.s wMark,.sp (powerX p2).1.1 (powerX p2).1.2] _ (Am4 wMark [_,_]) b55 w (hL.mono (hm.zero)) (hm.at (.head _)) (by simp) (by intro p hp;simp only [List.mem_cons,List.not_mem_nil,or_false] at hp;rcases hp with rfl | rfl;exact (show wMark.length≤40 by decide);exact hbd) (by simp [Prt.words])) ?_;exact Am8 (DkX.mk (some (vb,vc,vr)) (vs.set i v2) db bs0 dc cs,sayX wMark [(powerX p2).1.1,(powerX p2).1.2]) ⟨hd.set (i:=i) (v:=v2) hok2 (by rw [hv2];show p2.things.length≤12;omega),by rw [CE6 hpl hk hu hpm ok51];exact congrArg (fun b=>Except.ok (b,sayX wMark [(powerX p2).1.1,(powerX p2).1.2])) (by rw [DkX.pl_set (d:=⟨some (vb,vc,vr),vs,db,bs0,dc,cs⟩),hv2];rfl)⟩ (.r1 rfl (.tmp rfl)) rfl (Pick.cnt fun x=>by have hc1:=hcn2 x;simp only [dkM,dkO,dkB,DkX.cells,dkS,ownB,vwsO,dthO,List.length_set,hvs,nC] at hc1 ⊢;omega)
theorem BJ2 (i:Nat) (a1 a2 a3 a4:Int) (hi:i < vs.length) (hm0:Mem W0 [] (dkM xb ⟨some (vb,vc,vr),vs,db,bs0,dc,cs⟩ c ((nb,nO [(i:Int),a1,a2,a3,a4] nr)::(rest++[]))) w) :
    Calls Tryz.prog 73 #[pV xb,wv,.slice (some ⟨nb,0,none⟩) 5 nc] w (VerbT W0 xb c (thingD (DkX.pl ⟨some (vb,vc,vr),vs,db,bs0,dc,cs⟩) i a1 a2 a3 a4) rest):=by
  obtain ⟨v,hv⟩:∃ v,vs[i]=v:=⟨_,rfl⟩;have hvm:v∈vs:=hv ▸ List.getElem_mem hi;have hth:v.p.things.length≤12:=hd.things v hvm;have hpl:(DkX.pl ⟨some (vb,vc,vr),vs,db,bs0,dc,cs⟩).views.getD i noVw=v.pl:=pl_view (d:=⟨some (vb,vc,vr),vs,db,bs0,dc,cs⟩) hi hv;have hok:OwnOk 9 v.t v.p.things.length (v.p.things.map Th.cells).flatten:=hd.vs v hvm;have hi0:i < (DkX.mk (some (vb,vc,vr)) vs db bs0 dc cs).vs.length:=hi;have hcn:=AL3 hi hv;have hm1:Mem W0 [] ((xb,dkO ⟨some (vb,vc,vr),vs,db,bs0,dc,cs⟩ c)::(vb,vwsO vs vr)::(nb,nO [(i:Int),a1,a2,a3,a4] nr)::(vwB v++(othV vs i++(dkS ⟨some (vb,vc,vr),vs,db,bs0,dc,cs⟩++(rest++[]))))) w:=hm0.pick (Pick.cnt fun x=>by have:=hcn x;simp only [dkM,dkB,dkS,vwsO,ownB,List.count_cons,List.count_append,List.count_nil] at this ⊢;omega);obtain ⟨th,hte⟩:∃ th:Th,th=⟨⟨a1,a2⟩,⟨0,0⟩,⟨a3,a4⟩,⟨0,0⟩,0⟩:=⟨_,rfl⟩;obtain ⟨p2,hp2⟩:∃ p2:Pr,p2={ v.p with things:=v.p.things++[th] }:=⟨_,rfl⟩;have hpm:{ v.p with things:=v.p.things++[⟨⟨a1,a2⟩,⟨0,0⟩,⟨a3,a4⟩,⟨0,0⟩,0⟩] }=p2:=by rw [hp2,hte]
  have hpt:p2.things=v.p.things++[th]:=by rw [hp2]
  have hpn:p2.things.length=v.p.things.length + 1:=by rw [hpt,List.length_append];rfl
  have hpf:(p2.things.map Th.cells).flatten=(v.p.things.map Th.cells).flatten++th.cells:=by rw [hpt];simp
  have hbd:=CK8 p2 (v.p.things.length:Int)
  have hps:∀ z:Eng.Own,paste v.cells 7 [ownV z (v.p.things.length + 1)]=some (VwX.cells { v with p:=p2,t:=z }):=fun z=>by
    rw [AF3 (Ae3 _ _) (show 7 < v.cells.length from (by rw [VwX.cells_len];decide))];simp only [VwX.cells,hpn];rw [hp2];rfl
  refine Af7 hm1 Tryz.func73 rfl rfl ?_;refine st ?_;refine Ac4 8 Aj3 (.cons .here rfl (.cons (.there .here) rfl .nil)) ?_;refine zw 0 ?_;refine zw 1 ?_;refine zw 2 ?_;refine zw 3 ?_;refine zw 4 ?_;refine zw 5 ?_;refine zv 6 rfl (Ab4 rfl rfl Ah5 (by omega) (by omega)) ?_;refine zw 7 ?_;refine zt ?_;refine zo 8 rfl (Ab4 rfl rfl AE4 (by omega) (by omega)) ?_;refine zp 9 ?_;refine zd ?_;refine st ?_;refine Ac2 (zF rfl BI7) rfl rfl rfl (fun w hm=>AF9 (some ⟨vb,0,none⟩) vb 0 _ vs i v v.up w (Bd5 (hm.at (.tail _ (.head _)))) hi hv rfl (by simp)) (fun e21 he21=>?_) (fun v21 hv21=>?_)
  ·obtain ⟨er21,rfl⟩:=Ae0 he21
   have hu:v.pl.up=true:=(show v.up=true by simpa using er21);refine Aa5 ?_;exact Ae4 ((ownV (some (vb,vc,vr)) vs.length,ownV db bs0.length,ownV dc cs.length),6) (BT8 hpl hu) rfl (.cons .here rfl (Pick.cnt fun x=>by simp only [nC,dkM,dkB,vwsO,nO,dkS,ownB,hcn];omega))
  obtain ⟨ok21,rfl⟩:=Ae7 hv21;have hu:v.pl.up=false:=(show v.up=false by simpa using ok21);refine su ?_;refine lv (Ab0 rfl (fun w hm=>(Bd5 (hm.at (.tail _ (.head _)))).cellE (Mem.refl w) (by simp) AB8 hi hv (j:=7) (by decide) (v:=ownV v.t v.p.things.length) rfl (by simp))) ?_;refine lv (Ag6 rfl AE5 hok) ?_;refine Ac2 (zF rfl Al7) rfl rfl rfl (fun w hm=>Ad8 _ _ w) (fun e30 he30=>?_) (fun v30 hv30=>?_)
  ·obtain ⟨er30,rfl⟩:=Ae0 he30
   have hk:¬ v.p.things.length < 12:=by have:=of_decide_eq_false er30;omega
   refine Aa5 ?_;exact Ae4 ((ownV (some (vb,vc,vr)) vs.length,ownV db bs0.length,ownV dc cs.length),9) (BT7 hpl hu hk) rfl (.cons .here rfl (Pick.cnt fun x=>by simp only [nC,dkM,dkB,vwsO,nO,dkS,ownB,hcn];omega))
  obtain ⟨ok30,rfl⟩:=Ae7 hv30;have hk:v.p.things.length < 12:=by have:=of_decide_eq_true ok30;omega
  refine st ?_;refine Ao6 (X:=Eng.Own) 25 (n0:=[(xb,_),(nb,_)]) (fun z q=>q) (fun z=>[]) (fun z=>[(vb,vwsO (vs.set i { v with p:=p2,t:=z }) vr)]) (fun z=>ownB 66 z ((v.p.things.map Th.cells).flatten++th.cells)++(othV vs i++(dkS ⟨some (vb,vc,vr),vs,db,bs0,dc,cs⟩++(rest++[])))) (fun z=>OwnOk 9 z (v.p.things.length + 1) ((v.p.things.map Th.cells).flatten++th.cells)) Aj3 (.cons .here rfl (.cons (.there .here) rfl .nil)) (zS 0 rfl (zS 1 rfl (zS 2 rfl (zS 7 rfl (zS 8 rfl (Sub.nil _)))))) (.cons .here rfl (.cons (.there .here) rfl .nil)) ?_ ?_
  ·refine zw 0 ?_
   refine zw 1 ?_;refine zw 2 ?_;refine zw 3 ?_;refine zw 4 ?_;refine zw 6 ?_;refine zv 7 rfl (Ab4 rfl rfl Ah5 (by omega) (by omega)) ?_;refine zw 8 ?_;refine zw 9 ?_;refine zv 10 rfl (Ab4 rfl rfl Ah5 (by omega) (by omega)) ?_;refine zw 11 ?_;refine zv 12 rfl (Val.build (parts:=[(0,.tmp 39),(1,.tmp 42)]) rfl Ae2 Al9 rfl) ?_;refine zv 13 rfl (Val.build (parts:=[(0,.tmp 43)]) rfl Cb4 Bu6 rfl) ?_;refine zw 14 ?_;refine zv 15 rfl (Ab4 rfl rfl Ah5 (by omega) (by omega)) ?_;refine zw 16 ?_;refine zw 17 ?_;refine zv 18 rfl (Ab4 rfl rfl Ah5 (by omega) (by omega)) ?_;refine zw 19 ?_;refine zv 20 rfl (Val.build (parts:=[(0,.tmp 47),(1,.tmp 50)]) rfl Ae2 Al9 rfl) ?_;refine zv 21 rfl (Val.build (parts:=[(0,.tmp 51)]) rfl Cb4 Bu6 rfl) ?_;refine zv 22 rfl (Val.build (parts:=[(0,.tmp 44),(1,.tmp 52)]) rfl Aw1 Ch6 rfl) ?_;refine Ag7 (rs:=[5,23]) (by kernel_rfl) (by simp) (by kernel_rfl) (fun m hm=>?_)
   simp only [List.mem_cons,List.not_mem_nil,or_false] at hm
   rcases hm with rfl | rfl
   ·refine Ai8 rfl (Ab0 rfl (fun w hm=>(Bd5 (hm.at (.tail _ (.head _)))).cellE (Mem.refl w) (by simp) AB8 hi hv (j:=7) (by decide) (v:=ownV v.t v.p.things.length) rfl (by simp))) rfl rfl rfl (Aa7 (.cons .here rfl (.cons (.there .here) rfl .nil)) (.cons .here rfl (.cons .here rfl .nil)) rfl ?_)
    refine zA 23 ?_;refine Ac6 rfl (New.buildSlice (parts:=[(0,.tmp 53)]) rfl AE5 Aw1 rfl rfl rfl rfl) rfl rfl rfl (fun b54=>(Aa7 (.cons .here rfl (.cons .here rfl (.cons (.there .here) rfl .nil))) (.cons (.there .here) rfl (.cons (.there .here) rfl .nil)) rfl ?_))
    refine zA 24 ?_;refine RunI.append (A:=[(b54,_),(xb,_),(vb,_),(nb,_)]) (B:=_) (x:=v.t) (ys:=(⟨⟨a1,a2⟩,⟨0,0⟩,⟨a3,a4⟩,⟨0,0⟩,0⟩:Th).cells) rfl Da2 rfl rfl rfl hok rfl (fun h=>by cases h) (fun w hm=>An1 (hm.at (.head _))) (Ar6 rfl) (by simp only [maxLen];omega) (by omega) rfl (fun z55 hz55=>(Aa7 (.cons .here rfl (.cons .here rfl (.cons (.there .here) rfl .nil))) (.cons .here rfl (.cons .here rfl (.cons .here rfl .nil))) rfl ?_))
    refine zt ?_;refine zp 25 ?_;refine zp 26 ?_;refine zp 27 ?_;refine zB 28 ?_;refine Ac0 rfl (Sto.store (cs:=(vs.map VwX.cells).flatten++vr) (cs':=((vs.set i { v with p:=p2,t:=z55 }).map VwX.cells).flatten++vr) rfl rfl (.there (.there .here)) AB8 (by rw [Av5];rfl) (Aq0 VwX.cells_len hi hv (j:=7) (by simp) (by rw [Av5];exact hps z55))) rfl rfl (Ab9 ?_)
    refine zd ?_;exact Ai5 z55 (by rw [hte];exact hz55) rfl (zS 0 rfl (zS 1 rfl (zS 2 rfl (zS 7 rfl (zS 8 rfl (Sub.nil _)))))) (.cons (.there (.there .here)) rfl (.cons (.there .here) rfl (.cons (.there .here) rfl (Pick.skip (Pick.same (by rw [hte]))))))
   refine Ac6 rfl (New.buildSlice (parts:=[(0,.tmp 53)]) rfl AE5 Aw1 rfl rfl rfl rfl) rfl rfl rfl (fun b54=>(Aa7 (.cons .here rfl (.cons .here rfl (.cons (.there .here) rfl .nil))) (.cons (.there .here) rfl (.cons (.there .here) rfl .nil)) rfl ?_))
   refine zA 5 ?_;refine Ai8 rfl (Ab0 rfl (fun w hm=>(Bd5 (hm.at (.tail _ (.tail _ (.head _))))).cellE (Mem.refl w) (by simp) AB8 hi hv (j:=7) (by decide) (v:=ownV v.t v.p.things.length) rfl (by simp))) rfl rfl rfl (Aa7 (.cons .here rfl (.cons .here rfl (.cons (.there .here) rfl .nil))) (.cons .here rfl (.cons .here rfl (.cons .here rfl .nil))) rfl ?_)
   refine zA 24 ?_;refine RunI.append (A:=[(b54,_),(xb,_),(vb,_),(nb,_)]) (B:=_) (x:=v.t) (ys:=(⟨⟨a1,a2⟩,⟨0,0⟩,⟨a3,a4⟩,⟨0,0⟩,0⟩:Th).cells) rfl Da2 rfl rfl rfl hok rfl (fun h=>by cases h) (fun w hm=>An1 (hm.at (.head _))) (Ar6 rfl) (by simp only [maxLen];omega) (by omega) rfl (fun z55 hz55=>(Aa7 (.cons .here rfl (.cons .here rfl (.cons (.there .here) rfl .nil))) (.cons .here rfl (.cons .here rfl (.cons .here rfl .nil))) rfl ?_))
   refine zt ?_;refine zp 25 ?_;refine zp 26 ?_;refine zp 27 ?_;refine zB 28 ?_;refine Ac0 rfl (Sto.store (cs:=(vs.map VwX.cells).flatten++vr) (cs':=((vs.set i { v with p:=p2,t:=z55 }).map VwX.cells).flatten++vr) rfl rfl (.there (.there .here)) AB8 (by rw [Av5];rfl) (Aq0 VwX.cells_len hi hv (j:=7) (by simp) (by rw [Av5];exact hps z55))) rfl rfl (Ab9 ?_)
   refine zd ?_;exact Ai5 z55 (by rw [hte];exact hz55) rfl (zS 0 rfl (zS 1 rfl (zS 2 rfl (zS 7 rfl (zS 8 rfl (Sub.nil _)))))) (.cons (.there (.there .here)) rfl (.cons (.there .here) rfl (.cons (.there .here) rfl (Pick.skip (Pick.same (by rw [hte]))))))
  intro z zI;have hz1:=zI;have hcn2:=AL3 (vs:=vs.set i { v with p:=p2,t:=z }) (i:=i) (by rw [List.length_set];exact hi) (v:={ v with p:=p2,t:=z }) (by simp);rw [BO8] at hcn2;refine su ?_;refine lv (Ab0 rfl (fun w hm=>(Bd5 (vs:=vs.set i { v with p:=p2,t:=z }) (hm.at (.head _))).loadPart (Mem.refl w) (by simp) Bm1 (i:=i) (by rw [List.length_set];exact hi) (x:={ v with p:=p2,t:=z }) (by simp) (j:=0) (by decide) (vs:=[.int .i64 p2.focal.lo,.int .i64 p2.focal.hi,.int .i64 p2.base.lo,.int .i64 p2.base.hi,.int .i64 p2.tilt,.int .i64 p2.near,.int .i64 p2.far,ownV z p2.things.length]) rfl (by decide) (by simp))) ?_;refine zc (zF rfl Cs1) (fun w hm=>BS4 p2 (v.p.things.length:Int) z (by rw [hpn,hpf];exact hz1) w (fun b o h=>hm.at (by rw [hpf] at h;exact (.tail _ (.tail _ (.tail _ ((by first | exact List.mem_append_left _ h | exact List.mem_append_right _ (List.mem_append_left _ h)))))))) (by omega)) ?_;refine Ac2 (zF rfl At8) rfl rfl rfl (fun w hm=>Ah6 _ w) (fun e69 he69=>?_) (fun v69 hv69=>?_)
  ·obtain ⟨er69,rfl⟩:=An5 he69
   refine Aa5 ?_;exact Ae4 ((ownV (some (vb,vc,vr)) vs.length,ownV db bs0.length,ownV dc cs.length),(whyX p2 (v.p.things.length:Int)).2) (BT6 hpl hu hk hpm er69) rfl (.cons (.there .here) rfl (Pick.cnt fun x=>by simp only [nC,dkM,dkB,vwsO,nO,dkS,ownB,hcn];omega))
  obtain ⟨ok69,rfl⟩:=At6 hv69;refine st ?_;refine lv (Val.makeInterface rfl Ap0) ?_;refine lv (Val.makeInterface rfl Au0) ?_;refine lv (Val.makeInterface rfl Au0) ?_;refine zn (New.buildSlice (parts:=[(0,.tmp 70),(1,.tmp 72),(2,.tmp 74)]) rfl Ao7 Al8 rfl rfl rfl rfl) (fun b75=>?_)
  refine zc (zF rfl Au1) (fun w hm=>Ag2 [.s wThing,.n (v.p.things.length:Int),.n (whyX p2 (v.p.things.length:Int)).1] _ (Am4 wThing [_,_]) b75 w (hL.mono (hm.zero)) (hm.at (.head _)) (by simp) (by intro p hp;simp only [List.mem_cons,List.not_mem_nil,or_false] at hp;rcases hp with rfl | rfl | rfl;exact (show wThing.length≤40 by decide);exact (show In64 (v.p.things.length:Int) from ⟨by omega,by omega⟩);exact hbd) (by simp [Prt.words])) ?_;exact Am8 (DkX.mk (some (vb,vc,vr)) (vs.set i { v with p:=p2,t:=z }) db bs0 dc cs,sayX wThing [(v.p.things.length:Int),(whyX p2 (v.p.things.length:Int)).1]) ⟨hd.set (i:=i) (v:={ v with p:=p2,t:=z }) (by show OwnOk 9 z p2.things.length (p2.things.map Th.cells).flatten;rw [hpn,hpf];exact hz1) (by show p2.things.length≤12;omega),by rw [Ce8 hpl hu hk hpm ok69];exact congrArg (fun b=>Except.ok (b,sayX wThing [(v.p.things.length:Int),(whyX p2 (v.p.things.length:Int)).1])) (by rw [DkX.pl_set (d:=⟨some (vb,vc,vr),vs,db,bs0,dc,cs⟩)];rfl)⟩ (.r1 rfl (.tmp rfl)) rfl (Pick.cnt fun x=>by have hc1:=hcn2 x;simp only [dkM,dkO,dkB,DkX.cells,dkS,vwsO,vwB,hpf,List.length_set,nC] at hc1 ⊢;simp only [ownB,List.count_cons,List.count_nil] at hc1 ⊢;omega)
end
end Go.Proofs.YtnmkdiagbkkmaabGreatDoor
namespace Go.Proofs.YtnmkdiagbkkmaabGreatDoor
open Go Go.Eng
theorem Dk9:apB Tryz.prog 37=some (62,13,120):=by kernel_rfl
theorem Dk8:apB Tryz.prog 38=some (68,2,32):=by kernel_rfl
theorem Cr5:Enters Tryz.prog 131:=Aa1 Tryz.func131 (by kernel_rfl) rfl
theorem CM8:Enters Tryz.prog 65:=Aa1 Tryz.func65 (by kernel_rfl) rfl
theorem Ch7:placesB Tryz.prog 62=some [(0,8),(8,4),(12,1)]:=by kernel_rfl
theorem Ch5:placesB Tryz.prog 68=some [(0,1),(1,1)]:=by kernel_rfl
theorem BC6:zeroB Tryz.prog 62=some [.int .i64 0,.int .i64 0,.int .i64 0,.int .i64 0,.int .i64 0,.int .i64 0,.int .i64 0,.slice none 0 0,.int .i64 0,.int .i64 0,.int .i64 0,.int .i64 0,.bool false]:=by kernel_rfl
end Go.Proofs.YtnmkdiagbkkmaabGreatDoor
namespace Go.Eng
open Go Go.RowKit
theorem BC2 {P:Program} {ops:Array Oper} {Q:Exit→Act→World→Prop} {n i:Nat} {K:Act→World→Prop} {r:Regs} {ds:List Deferred} {W:World} {chg news:Blks} (A X1 Y C:Blks) (hn:news=A++(X1++(Y++C))) (h:RunI P ops Q n i K r ds W chg (A++(Y++(X1++C)))):RunI P ops Q n i K r ds W chg news:=by
  subst hn;exact Cv9 (Ac1 _) (Pick.cnt fun x=>by simp only [List.count_append];omega) h
end Go.Eng
namespace Go.Dk
open Go Go.Eng Go.RowKit Go.Pw1 Go.Hp
theorem Bm8 {α:Type} {f:α→List Value} {sz:Nat} {z:Eng.Own} {l:List α} {a:α} (h:OwnOk sz z (l.length + 1) ((l.map f).flatten++f a)):OwnOk sz z (l++[a]).length ((l++[a]).map f).flatten:=by
  simp only [List.map_append,List.flatten_append,List.length_append,List.length_singleton];simpa using h
theorem Av4 {α:Type} (f:α→List Value) (l:List α) (a:α):((l++[a]).map f).flatten=(l.map f).flatten++f a:=by simp
theorem CA2 {w:World} {sb:Nat} {T:TypeId} {fr:Nat×Nat} {x y:Str} {ws:List Str} {r:List Value} (h:w.heap[sb]? = some (.cells (((x::y::ws).map strC).flatten++r).toArray T fr)):Sl w (some ⟨sb,2,none⟩) sb 2 1 (ws.map strC):=by
  have h1:Sl w (some ⟨sb,0,none⟩) sb 0 1 ((x::y::ws).map strC):=Sl.rowsR h (fun y hy=>by obtain ⟨z,_,rfl⟩:=List.mem_map.1 hy;rfl);refine ⟨fun _=>rfl,fun y hy=>by obtain ⟨z,_,rfl⟩:=List.mem_map.1 hy;rfl,fun i hi j hj=>?_⟩
  have h2:=h1.cell (i + 2) (by simpa using hi) j hj;have e:0 + (i + 2) * 1 + j=2 + i * 1 + j:=by omega
  rw [e] at h2;rw [h2];simp
theorem DkOk.view {d:DkX} (h:DkOk d) {z:Eng.Own} {v:VwX} (hz:OwnOk 13 z (d.vs.length + 1) ((d.vs.map VwX.cells).flatten++v.cells)) (hv:OwnOk 9 v.t v.p.things.length (v.p.things.map Th.cells).flatten) (ht:v.p.things.length≤12) (hn:d.vs.length < 4):DkOk { d with v:=z,vs:=d.vs++[v] }:=by
  refine ⟨Bm8 hz,fun x hx=>?_,h.b,h.bs,h.c,?_,fun x hx=>?_,h.ti,h.tx⟩
  · rcases List.mem_append.1 hx with hx | hx
    · exact h.vs x hx
    · rw [List.mem_singleton.1 hx];exact hv
  · have:=h.few
    simp only [List.length_append,List.length_singleton];omega
  · rcases List.mem_append.1 hx with hx | hx
    · exact h.things x hx
    · rw [List.mem_singleton.1 hx];exact ht
theorem DkOk.box {d:DkX} (h:DkOk d) {z:Eng.Own} {v:BoX} (hz:OwnOk 2 z (d.bs.length + 1) ((d.bs.map BoX.cells).flatten++v.cells)) (hv:OwnOk 1 v.t v.titles.length (strsC v.titles)) (ht:v.titles.length≤1000∧∀ t∈v.titles,t.length≤1000000) (hn:d.bs.length < 4):DkOk { d with b:=z,bs:=d.bs++[v] }:=by
  refine ⟨h.v,h.vs,Bm8 hz,fun x hx=>?_,h.c,?_,h.things,fun x hx=>?_,h.tx⟩
  · rcases List.mem_append.1 hx with hx | hx
    · exact h.bs x hx
    · rw [List.mem_singleton.1 hx];exact hv
  · have:=h.few
    simp only [List.length_append,List.length_singleton];omega
  · rcases List.mem_append.1 hx with hx | hx
    · exact h.ti x hx
    · rw [List.mem_singleton.1 hx];exact ht
theorem DkOk.card {d:DkX} (h:DkOk d) {z:Eng.Own} {t:Tn} (hz:OwnOk 3 z (d.cs.length + 1) ((d.cs.map Tn.cells).flatten++t.cells)) (ht:t.number.length≤1000000∧t.text.length≤1000000) (hn:d.cs.length < 8):DkOk { d with c:=z,cs:=d.cs++[t] }:=by
  refine ⟨h.v,h.vs,h.b,h.bs,Bm8 hz,?_,h.things,h.ti,fun x hx=>?_⟩
  · have:=h.few
    simp only [List.length_append,List.length_singleton];omega
  · rcases List.mem_append.1 hx with hx | hx
    · exact h.tx x hx
    · rw [List.mem_singleton.1 hx];exact ht
theorem DkX.pl_view {d:DkX} {z:Eng.Own} {v:VwX}:(DkX.pl { d with v:=z,vs:=d.vs++[v] })={ d.pl with views:=d.pl.views++[v.pl] }:=by
  unfold DkX.pl;simp
theorem DkX.pl_box {d:DkX} {z:Eng.Own} {v:BoX}:(DkX.pl { d with b:=z,bs:=d.bs++[v] })={ d.pl with heap:={ d.pl.heap with boxes:=d.pl.heap.boxes++[v.pl] } }:=by
  unfold DkX.pl;simp
theorem DkX.pl_card {d:DkX} {z:Eng.Own} {t:Tn}:(DkX.pl { d with c:=z,cs:=d.cs++[t] })={ d.pl with heap:={ d.pl.heap with cards:=d.pl.heap.cards++[t] } }:=by
  unfold DkX.pl;simp
theorem Cy9 {c:Cd} {b:Bn} (h:¬ b.views.length < 4):viewD c b = .error 9:=by unfold viewD;rw [if_neg h]
theorem Cy8 {c:Cd} {b:Bn} (h:b.views.length < 4):viewD c b = .ok ({ b with views:=b.views++[⟨c.p,noTr,false⟩] },sayX wView [b.views.length]):=by unfold viewD;rw [if_pos h]
theorem CJ9 {b:Bn} {w:List Str} (h:¬ 1 < w.length):boxD b w = .error 8:=by unfold boxD;rw [if_pos h]
theorem CJ8 {b:Bn} {w:List Str} (h:1 < w.length) (hn:numX (w.getD 0 [])=none):boxD b w = .error 8:=by unfold boxD;rw [if_neg (fun h2=>h2 h),hn]
theorem CJ7 {b:Bn} {w:List Str} {n:Int} (h:1 < w.length) (hn:numX (w.getD 0 [])=some n) (hb:¬ b.heap.boxes.length < 4):boxD b w = .error 9:=by unfold boxD;rw [if_neg (fun h2=>h2 h),hn];dsimp only;rw [if_pos hb]
theorem CJ6 {b:Bn} {w:List Str} {n:Int} (h:1 < w.length) (hn:numX (w.getD 0 [])=some n) (hb:b.heap.boxes.length < 4) {m:Mx} (hm:{ b.heap with boxes:=b.heap.boxes++[⟨n,w.drop 1⟩] }=m) (he:(WhyX m).2 ≠ 0):boxD b w = .error (WhyX m).2:=by subst hm;unfold boxD;rw [if_neg (fun h2=>h2 h),hn];dsimp only;rw [if_neg (fun h2=>h2 hb),if_neg he]
theorem CZ7 {b:Bn} {w:List Str} {n:Int} (h:1 < w.length) (hn:numX (w.getD 0 [])=some n) (hb:b.heap.boxes.length < 4) {m:Mx} (hm:{ b.heap with boxes:=b.heap.boxes++[⟨n,w.drop 1⟩] }=m) (he:(WhyX m).2=0):boxD b w = .ok ({ b with heap:=m },sayX wBox [b.heap.boxes.length]):=by subst hm;unfold boxD;rw [if_neg (fun h2=>h2 h),hn];dsimp only;rw [if_neg (fun h2=>h2 hb),if_pos he]
end Go.Dk
namespace Go.Proofs.YtnmkdiagbkkmaabGreatDoor
open Go Go.Eng Go.Dk Go.RowKit Go.Pw1 Go.Hp

abbrev dkNv (d:DkX):Blks:=(d.vs.map vwB).flatten++dkS d
abbrev dkNb (d:DkX):Blks:=ownB 62 d.v (d.vs.map VwX.cells).flatten++((d.vs.map vwB).flatten++((d.bs.map boB).flatten++ownB 70 d.c (d.cs.map Tn.cells).flatten))
abbrev dkNc (d:DkX):Blks:=ownB 62 d.v (d.vs.map VwX.cells).flatten++((d.vs.map vwB).flatten++(ownB 68 d.b (d.bs.map BoX.cells).flatten++(d.bs.map boB).flatten))
theorem Dn5 {d:DkX} (hd:DkOk d):.agg [ownV d.b d.bs.length,ownV d.c d.cs.length].toArray=d.mx.v:=by
  unfold MxA.v MxA.cells DkX.mx;rw [Ad9 hd.b,Ad9 hd.c];dsimp only;rw [List.length_map]
theorem Be7 {W0 w:World} {xb:Nat} {d:DkX} {c:Cd} {tl:Blks} (n m:Nat) (hd:DkOk d) (hm:Mem W0 [] (dkM xb d c tl) w) (hn:d.bs.length=n) (hc:d.cs.length=m):Calls Tryz.prog 131 #[.agg [ownV d.b n,ownV d.c m].toArray] w (Pure (.tuple #[.int .i64 (WhyX d.pl.heap).1,.int .i64 (WhyX d.pl.heap).2]) w):=by
  subst hn hc;have hD:=An9 hd hm;have h:=Cb8 d.mx hD.sm w hD.m;rw [DkX.mx_pl,← Dn5 hd] at h;exact h
section
variable (xb:Nat) (d:DkX) (c:Cd) (rest:Blks) (W0 w:World) (hL:Lw Tryz.prog W0) (hd:DkOk d)
include hL hd
theorem BY4 (wv nv:Value) (hm0:Mem W0 [] (dkM xb d c (rest++[])) w) :
    Calls Tryz.prog 72 #[pV xb,wv,nv] w (VerbT W0 xb c (viewD (bareC c) d.pl) rest):=by
  have hdv:=hd.v;have hvl:d.pl.views.length=d.vs.length:=List.length_map ..;obtain ⟨v,hve⟩:∃ v:VwX,v=⟨(bareC c).p,none,noTr,false⟩:=⟨_,rfl⟩;have hm1:Mem W0 [] ((xb,dkO d c)::(ownB 62 d.v (d.vs.map VwX.cells).flatten++(dkNv d++(rest++[])))) w:=hm0.pick (Pick.cnt fun x=>by simp only [dkM,dkB,dkNv,dkS,List.count_cons,List.count_append,List.count_nil];omega);refine Af7 hm1 Tryz.func72 rfl rfl ?_;refine su ?_;refine lv (Ag6 rfl AE4 hdv) ?_;refine Ac2 (zF rfl Al7) rfl rfl rfl (fun w hm=>Ad8 _ _ w) (fun e14 he14=>?_) (fun v14 hv14=>?_)
  ·obtain ⟨er14,rfl⟩:=Ae0 he14
   have hk:¬ d.vs.length < 4:=by have:=of_decide_eq_false er14;omega
   refine Aa5 ?_;exact Ae4 ((ownV d.v d.vs.length,ownV d.b d.bs.length,ownV d.c d.cs.length),9) (Cy9 (by rw [hvl];exact hk)) rfl (.cons .here rfl (Pick.cnt fun x=>by simp only [nC];omega))
  obtain ⟨ok14,rfl⟩:=Ae7 hv14;have hk:d.vs.length < 4:=by have:=of_decide_eq_true ok14;omega
  refine st ?_;refine Ao6 (X:=Eng.Own) 14 (n0:=[]) (fun z q=>q) (fun z=>[]) (fun z=>[(xb,.cells ([ownV z (d.vs.length + 1),ownV d.b d.bs.length,ownV d.c d.cs.length]++(bareC c).cells none 0++[Value.bool true]).toArray 86 (0,0))]) (fun z=>ownB 62 z ((d.vs.map VwX.cells).flatten++v.cells)++(dkNv d++(rest++[]))) (fun z=>OwnOk 13 z (d.vs.length + 1) ((d.vs.map VwX.cells).flatten++v.cells)) Aj3 (.cons .here rfl .nil) (zS 0 rfl (Sub.nil _)) .nil ?_ ?_
  ·refine zw 0 ?_
   refine zw 1 ?_;refine zw 2 ?_;refine zw 3 ?_;refine zw 4 ?_;refine zw 5 ?_;refine zw 6 ?_;refine zw 7 ?_;refine zw 8 ?_;refine zw 9 ?_;refine zw 10 ?_;refine zv 11 rfl (Val.build (parts:=[(0,.tmp 25)]) rfl BC6 Ch7 rfl) ?_;refine zA 12 ?_;refine Ac6 rfl (New.buildSlice (parts:=[(0,.tmp 26)]) rfl AE4 BC6 rfl rfl rfl rfl) rfl rfl rfl (fun b27=>(Aa7 (.cons .here rfl (.cons .here rfl .nil)) (.cons (.there .here) rfl .nil) rfl ?_))
   refine zA 13 ?_;refine RunI.append (A:=[(b27,_),(xb,_)]) (B:=_) (x:=d.v) (ys:=(⟨(bareC c).p,none,noTr,false⟩:VwX).cells) rfl Dk9 rfl rfl rfl hdv rfl (fun h=>by cases h) (fun w hm=>An1 (hm.at (.head _))) (Ar6 rfl) (by simp only [maxLen];omega) (by omega) rfl (fun z28 hz28=>(Aa7 (.cons .here rfl (.cons .here rfl .nil)) (.cons .here rfl (.cons .here rfl .nil)) rfl ?_))
   refine zt ?_;refine zp 14 ?_;refine zp 15 ?_;refine zp 16 ?_;refine zB 17 ?_;refine Ac0 rfl (As7 rfl rfl (.there .here) Bs7 rfl rfl) rfl rfl (Ab9 ?_)
   refine zd ?_;exact Ai5 z28 (by rw [hve];exact hz28) rfl (zS 0 rfl (Sub.nil _)) (.cons (.there .here) rfl (Pick.skip (Pick.same (by rw [hve];rfl))))
  intro z zI;have hz1:=zI;refine st ?_;refine lu (Val.makeInterface rfl Ap0) ?_;refine lv (Ag6 rfl AE4 hz1) ?_;refine lv (Ae9 rfl rfl (IntWalk.i64_in _ ⟨by omega,by omega⟩)) ?_;refine lv (Val.makeInterface rfl Au0) ?_;refine zn (New.buildSlice (parts:=[(0,.tmp 32),(1,.tmp 40)]) rfl Ao7 Al8 rfl rfl rfl rfl) (fun b41=>?_)
  refine zc (zF rfl Au1) (fun w hm=>Ag2 [.s wView,.n (((d.vs.length + 1:Nat):Int) - 1)] _ (show Lib.join _ _=sayX wView [(d.vs.length:Int)] from (by rw [show (((d.vs.length + 1:Nat):Int) - 1)=(d.vs.length:Int) by omega];exact Am4 wView [_])) b41 w (hL.mono (hm.zero)) (hm.at (.head _)) (by simp) (by intro p hp;simp only [List.mem_cons,List.not_mem_nil,or_false] at hp;rcases hp with rfl | rfl;exact (show wView.length≤40 by decide);exact (show In64 (((d.vs.length + 1:Nat):Int) - 1) from ⟨by omega,by omega⟩)) (by simp [Prt.words])) ?_;exact Am8 ({ d with v:=z,vs:=d.vs++[v] },sayX wView [(d.vs.length:Int)]) ⟨hd.view hz1 (by rw [hve];exact OwnOk.start) (by rw [hve];exact Nat.zero_le _) hk,by rw [Cy8 (by rw [hvl];exact hk),hvl,DkX.pl_view,hve];rfl⟩ (.r1 rfl (.tmp rfl)) rfl (Pick.cnt fun x=>by have hv0:vwB v=[]:=(by rw [hve];rfl);simp only [dkM,dkO,dkB,DkX.cells,dkNv,dkS,List.length_append,List.length_singleton,Av4,List.map_append,List.map_cons,List.map_nil,List.flatten_append,List.flatten_cons,List.flatten_nil,hv0,List.append_nil,List.append_assoc,List.cons_append,List.nil_append,nC];omega)
theorem Bi9 (ws:List Str) (hs:¬ 1 < ws.length) (q:Option Addr) (cap:Nat) (nv:Value) (hm0:Mem W0 [] (dkM xb d c (rest++[])) w) :
    Calls Tryz.prog 81 #[pV xb,.slice q ws.length cap,nv] w (VerbT W0 xb c (boxD d.pl ws) rest):=by
  have hm1:Mem W0 [] ((xb,dkO d c)::(dkB d++(rest++[]))) w:=hm0;refine Af7 hm1 Tryz.func81 rfl rfl ?_;refine su ?_;refine Ac2 (zF rfl Al7) rfl rfl rfl (fun w hm=>Ad8 _ _ w) (fun e14 he14=>?_) (fun v14 hv14=>?_)
  ·obtain ⟨er14,rfl⟩:=Ae0 he14
   refine Aa5 ?_;exact Ae4 ((ownV d.v d.vs.length,ownV d.b d.bs.length,ownV d.c d.cs.length),8) (CJ9 hs) rfl (.cons .here rfl (Pick.cnt fun x=>by simp only [nC];omega))
  obtain ⟨ok14,rfl⟩:=Ae7 hv14;exact absurd (of_decide_eq_true (Ae7 hv14).1) (by omega)
theorem Ct3 (x y t0:Str) (ts:List Str) (r:List Value) (sb cap:Nat) (nv:Value) (hcap:ts.length + 2≤cap) (hlen:ts.length + 2≤1000) (hsh:∀ s∈y::t0::ts,s.length≤100000) (hm0:Mem W0 [] (dkM xb d c ((sb,sbO (x::y::t0::ts) r)::(rest++[]))) w) :
    Calls Tryz.prog 81 #[pV xb,.slice (some ⟨sb,1,none⟩) (ts.length + 2) cap,nv] w (VerbT W0 xb c (boxD d.pl (y::t0::ts)) rest):=by
  have hdb:=hd.b;have hbl:d.pl.heap.boxes.length=d.bs.length:=List.length_map ..;have hyl:=hsh y (by simp);have hw1:1 < (y::t0::ts).length:=by simp
  have hm1:Mem W0 [] ((xb,dkO d c)::(sb,sbO (x::y::t0::ts) r)::(ownB 68 d.b (d.bs.map BoX.cells).flatten++(dkNb d++(rest++[])))) w:=hm0.pick (Pick.cnt fun x=>by simp only [dkM,dkB,dkNb,List.count_cons,List.count_append,List.count_nil];omega);refine Af7 hm1 Tryz.func81 rfl rfl ?_;refine su ?_;refine Ac2 (zF rfl Al7) rfl rfl rfl (fun w hm=>Ad8 _ _ w) (fun e14 he14=>?_) (fun v14 hv14=>?_)
  ·obtain ⟨er14,rfl⟩:=Ae0 he14
   refine Aa5 ?_;exact absurd (of_decide_eq_false er14) (fun h=>h (by omega))
  obtain ⟨ok14,rfl⟩:=Ae7 hv14;refine st ?_;refine lv (Ab4 rfl rfl Au5 (by omega) (by omega)) ?_;refine lv (Ab0 rfl (fun w hm=>Sl.cellE (AO6 (q:=some ⟨sb,1,none⟩) (hm.at (.tail _ (.head _))) (fun _=>rfl)) (Mem.refl w) (by simp) AE3 (i:=0) (by simp) (x:=y) rfl (j:=0) (by decide) (v:=.string (bs y)) rfl (by simp))) ?_;refine Ac2 (zF rfl BQ4) rfl rfl rfl (fun w hm=>Av0 _ (by omega) w (hL.mono hm)) (fun e18 he18=>?_) (fun v18 hv18=>?_)
  ·obtain ⟨hn18,rfl⟩:=AV0 he18
   refine Aa5 ?_;exact Ae4 ((ownV d.v d.vs.length,ownV d.b d.bs.length,ownV d.c d.cs.length),8) (CJ8 hw1 hn18) rfl (.cons .here rfl (Pick.cnt fun x=>by simp only [nC];omega))
  obtain ⟨n18,hn18,rfl⟩:=Bn1 hv18;refine su ?_;refine lv (Ag6 rfl Bd6 hdb) ?_;refine Ac2 (zF rfl Al7) rfl rfl rfl (fun w hm=>Ad8 _ _ w) (fun e28 he28=>?_) (fun v28 hv28=>?_)
  ·obtain ⟨er28,rfl⟩:=Ae0 he28
   have hk:¬ d.bs.length < 4:=by have:=of_decide_eq_false er28;omega
   refine Aa5 ?_;exact Ae4 ((ownV d.v d.vs.length,ownV d.b d.bs.length,ownV d.c d.cs.length),9) (CJ7 hw1 hn18 (by rw [hbl];exact hk)) rfl (.cons .here rfl (Pick.cnt fun x=>by simp only [nC];omega))
  obtain ⟨ok28,rfl⟩:=Ae7 hv28;have hk:d.bs.length < 4:=by have:=of_decide_eq_true ok28;omega
  refine st ?_;refine Ao6 (X:=Eng.Own×Eng.Own) 14 (n0:=[(sb,_)]) (fun z q=>q) (fun z=>[]) (fun z=>[(xb,.cells ([ownV d.v d.vs.length,ownV z.1 (d.bs.length + 1),ownV d.c d.cs.length]++(bareC c).cells none 0++[Value.bool true]).toArray 86 (0,0))]) (fun z=>ownB 68 z.1 ((d.bs.map BoX.cells).flatten++(BoX.a ⟨n18,z.2,t0::ts⟩).cells)++(ownB 9 z.2 ((t0::ts).map strC).flatten++(dkNb d++(rest++[])))) (fun z=>OwnOk 2 z.1 (d.bs.length + 1) ((d.bs.map BoX.cells).flatten++(BoX.a ⟨n18,z.2,t0::ts⟩).cells)∧OwnOk 1 z.2 (t0::ts).length ((t0::ts).map strC).flatten) Aj3 (.cons .here rfl (.cons .here rfl .nil)) (zS 0 rfl (zS 1 rfl (zS 2 rfl (zS 7 rfl (zS 8 rfl (Sub.nil _)))))) (.cons (.there .here) rfl .nil) ?_ ?_
  ·refine zw 0 ?_
   refine zw 1 ?_;refine zw 2 ?_;refine zw 3 ?_;refine zw 4 ?_;refine zw 5 ?_;refine zw 6 ?_;refine zw 7 ?_;refine zw 8 ?_;refine zv 9 rfl (Br6 rfl rfl Au5 rfl (by decide) (by omega) (by omega)) ?_;refine zA 10 ?_;refine Ax4 [(xb,_),(sb,_)] _ rfl rfl (zF rfl CM8) rfl rfl rfl (fun w hm=>AN7 (t0::ts) (by simp only [List.length_cons];omega) (some ⟨sb,2,none⟩) sb 2 (cap - 1) w (CA2 (hm.at (.tail _ (.head _)))) (fun h=>by cases h)) (fun z39=>(Aa7 (.cons .here rfl (.cons .here rfl .nil)) (.cons .here rfl (.cons .here rfl .nil)) rfl ?_))
   obtain ⟨y39,hy39⟩:=z39;dsimp only;refine zv 11 rfl (Val.build (parts:=[(0,.tmp 36),(1,.tmp 39)]) rfl Bl0 Ch5 rfl) ?_;refine zA 12 ?_;refine Ac6 rfl (New.buildSlice (parts:=[(0,.tmp 40)]) rfl Bd6 Bl0 rfl rfl rfl rfl) rfl rfl rfl (fun b41=>(Aa7 (.cons .here rfl (.cons .here rfl (.cons .here rfl .nil))) (.cons (.there .here) rfl (.cons (.there .here) rfl .nil)) rfl ?_))
   refine zA 13 ?_;refine BC2 [(b41,_),(xb,_),(sb,_)] _ _ _ rfl ?_;refine RunI.append (A:=[(b41,_),(xb,_),(sb,_)]) (B:=_) (x:=d.b) (ys:=(BoX.a ⟨n18,y39,t0::ts⟩).cells) rfl Dk8 rfl rfl rfl hdb rfl (fun h=>by cases h) (fun w hm=>An1 (hm.at (.head _))) (Ar6 rfl) (by simp only [maxLen];omega) (by omega) rfl (fun z42 hz42=>(Aa7 (.cons .here rfl (.cons .here rfl (.cons .here rfl .nil))) (.cons .here rfl (.cons .here rfl (.cons .here rfl .nil))) rfl ?_))
   refine zt ?_;refine zp 14 ?_;refine zp 15 ?_;refine zp 16 ?_;refine zp 17 ?_;refine zB 18 ?_;refine Ac0 rfl (As7 rfl rfl (.there .here) Cz4 rfl rfl) rfl rfl (Ab9 ?_)
   refine zd ?_;exact Ai5 (z42,y39) ⟨hz42,hy39⟩ rfl (zS 0 rfl (zS 1 rfl (zS 2 rfl (zS 7 rfl (zS 8 rfl (Sub.nil _)))))) (.cons (.there .here) rfl (.cons (.there .here) rfl (Pick.skip (Pick.same rfl))))
  intro z zI;obtain ⟨hz1,hz2⟩:=zI;have hz3:OwnOk 1 z.2 (t0::ts).length (strsC (t0::ts)):=by (rw [Au3];exact hz2)
  have hbc:=BoX.cells_eq (x:=⟨n18,z.2,t0::ts⟩) hz3;rw [← hbc] at hz1 ⊢;have hd2:=hd.box (v:=⟨n18,z.2,t0::ts⟩) hz1 hz3 ⟨by simp only [List.length_cons];omega,fun s hs=>by (have:=hsh s (by simp only [List.mem_cons] at hs ⊢;exact .inr hs);omega)⟩ hk;obtain ⟨m,hme⟩:∃ m:Mx,{ d.pl.heap with boxes:=d.pl.heap.boxes++[⟨n18,t0::ts⟩] }=m:=⟨_,rfl⟩;have hpl2:(DkX.pl { d with b:=z.1,bs:=d.bs++[⟨n18,z.2,t0::ts⟩] }).heap=m:=by (rw [DkX.pl_box,← hme];rfl)
  refine su ?_;refine zc (zF rfl Cr5) (fun w hm=>(by have h:=Be7 (xb:=xb) (d:={ d with b:=z.1,bs:=d.bs++[⟨n18,z.2,t0::ts⟩] }) (c:=c) (tl:=rest++[]) (d.bs.length + 1) d.cs.length hd2 (hm.pick (Pick.cnt fun x=>by simp only [dkM,dkO,dkB,DkX.cells,dkNb,boB,Au3,List.length_append,List.length_singleton,Av4,List.map_append,List.map_cons,List.map_nil,List.flatten_append,List.flatten_cons,List.flatten_nil,List.append_nil,List.append_assoc,List.cons_append,List.nil_append,nC];omega)) (by simp) rfl;rw [hpl2] at h;exact h)) ?_;refine Ac2 (zF rfl At8) rfl rfl rfl (fun w hm=>Ah6 _ w) (fun e57 he57=>?_) (fun v57 hv57=>?_)
  ·obtain ⟨er57,rfl⟩:=An5 he57
   refine Aa5 ?_;exact Ae4 ((ownV d.v d.vs.length,ownV z.1 (d.bs.length + 1),ownV d.c d.cs.length),(WhyX m).2) (CJ6 hw1 hn18 (by rw [hbl];exact hk) hme er57) rfl (.cons .here rfl (Pick.cnt fun x=>by simp only [nC];omega))
  obtain ⟨ok57,rfl⟩:=At6 hv57;refine st ?_;refine lv (Val.makeInterface rfl Ap0) ?_;refine lv (Val.makeInterface rfl Au0) ?_;refine zn (New.buildSlice (parts:=[(0,.tmp 58),(1,.tmp 60)]) rfl Ao7 Al8 rfl rfl rfl rfl) (fun b61=>?_)
  refine zc (zF rfl Au1) (fun w hm=>Ag2 [.s wBox,.n (d.bs.length:Int)] _ (Am4 wBox [_]) b61 w (hL.mono (hm.zero)) (hm.at (.head _)) (by simp) (by intro p hp;simp only [List.mem_cons,List.not_mem_nil,or_false] at hp;rcases hp with rfl | rfl;exact (show wBox.length≤40 by decide);exact (show In64 (d.bs.length:Int) from ⟨by omega,by omega⟩)) (by simp [Prt.words])) ?_;exact Am8 ({ d with b:=z.1,bs:=d.bs++[⟨n18,z.2,t0::ts⟩] },sayX wBox [(d.bs.length:Int)]) ⟨hd2,by rw [CZ7 hw1 hn18 (by rw [hbl];exact hk) hme ok57,hbl,DkX.pl_box,← hme];rfl⟩ (.r1 rfl (.tmp rfl)) rfl (Pick.cnt fun x=>by simp only [dkM,dkO,dkB,DkX.cells,dkNb,boB,Au3,List.length_append,List.length_singleton,Av4,List.map_append,List.map_cons,List.map_nil,List.flatten_append,List.flatten_cons,List.flatten_nil,List.append_nil,List.append_assoc,List.cons_append,List.nil_append,nC];omega)
end
end Go.Proofs.YtnmkdiagbkkmaabGreatDoor
namespace Go.Hp
open Go Go.Eng Go.Pw1
theorem Ci2 (s:Nat):∀ k,pc s (k + 1)=s % 2 + pc (s / 2) k
  | 0=>by simp [pc]
  | k + 1=>by
    have ih:=Ci2 s k
    show pc s (k + 1) + s / 2 ^ (k + 1) % 2=s % 2 + (pc (s / 2) k + s / 2 / 2 ^ k % 2)
    rw [ih,Nat.div_div_eq_div_mul,Nat.pow_succ,Nat.mul_comm 2];omega
theorem Dd4 (s:Nat):∀ k,pc s k≤k
  | 0=>Nat.le_refl _
  | k + 1=>by
    have:=Dd4 s k
    show pc s k + s / 2 ^ k % 2≤k + 1
    omega
theorem Ci1:∀ k,pc 0 k=0
  | 0=>rfl
  | k + 1=>by simp [pc,Ci1 k]
theorem CL6 {s k:Nat} (h:s / 2 ^ k=0):∀ j,pc s (k + j)=pc s k
  | 0=>rfl
  | j + 1=>by
    show pc s (k + j) + s / 2 ^ (k + j) % 2=pc s k
    rw [CL6 h j,Nat.pow_add,← Nat.div_div_eq_div_mul,h,Nat.zero_div];exact Nat.add_zero _
end Go.Hp
namespace Go.Hp
open Go Go.Eng Go.Pw1 Go.Proofs.YtnmkdiagbkkmaabGreatDoor
theorem BK5 (s k:Nat):s / 2 ^ k % 2=if s.testBit k then 1 else 0:=by
  rw [Nat.testBit_eq_decide_div_mod_eq]
  by_cases h:s / 2 ^ k % 2=1
  · simp [h]
  · simp [h];omega
theorem CL8 {s t i:Nat} (h:∀ j,t.testBit j=(s.testBit j && !decide (j=i))):∀ k,pc s k=pc t k + if decide (i < k) && s.testBit i then 1 else 0
  | 0=>by simp [pc]
  | k + 1=>by
    have ih:=CL8 h k
    show pc s k + s / 2 ^ k % 2=pc t k + t / 2 ^ k % 2 + _
    rw [BK5,BK5,h k,ih]
    by_cases e:k=i
    · subst e
      have h1:¬ k < k:=by omega
      cases s.testBit k <;> simp [h1]
    · by_cases h1:i < k
      · have h2:i < k + 1:=by omega
        cases s.testBit k <;> cases s.testBit i <;> simp [h1,h2,e]
      · have h2:¬ i < k + 1:=by omega
        cases s.testBit k <;> simp [h1,h2,e]
theorem CL7:∀ {k s:Nat},0 < s→s < 2 ^ k→0 < pc s k
  | 0,s,h0,h=>by simp at h;omega
  | k + 1,s,h0,h=>by
    rw [Ci2]
    rcases Nat.eq_zero_or_pos (s % 2) with h1 | h1
    · have:=CL7 (k:=k) (s:=s / 2) (by omega) (by rw [Nat.pow_succ] at h;omega)
      omega
    · omega
theorem Dn3 {s n:Nat} (hn:n≤12) (h:s < 2 ^ n):pc s 12=pc s n:=by
  have h1:=CL6 (s:=s) (k:=n) (Nat.div_eq_of_lt h) (12 - n);rw [show n + (12 - n)=12 by omega] at h1;exact h1
def ltS (s t:Nat):Prop:=pc s 12 < pc t 12∨(pc s 12=pc t 12∧s < t)
theorem CQ6 (n:Nat):(setsL n).Pairwise ltS:=by
  unfold setsL;refine AP9 (R:=(· < ·)) (List.pairwise_map.2 (List.pairwise_lt_range.imp fun h=>by omega)) (fun k _=>?_) fun a b hab x hx y hy=>?_
  · refine (List.pairwise_lt_range.filter _).imp_of_mem fun {x y} hx hy h=>.inr ⟨?_,h⟩
    have h1:=(List.mem_filter.1 hx).2;have h2:=(List.mem_filter.1 hy).2;simp only [Bool.and_eq_true,decide_eq_true_eq] at h1 h2;omega
  · have h1:=(List.mem_filter.1 hx).2
    have h2:=(List.mem_filter.1 hy).2;simp only [Bool.and_eq_true,decide_eq_true_eq] at h1 h2;exact .inl (by omega)
theorem Bm4 {n s:Nat} (hn:n≤8):s∈setsL n ↔ 0 < s∧s < 2 ^ n:=by
  unfold setsL;simp only [List.mem_flatMap,List.mem_map,List.mem_range,List.mem_filter,Bool.and_eq_true,decide_eq_true_eq]
  constructor
  · rintro ⟨_,_,h1,h2,_⟩
    exact ⟨h2,h1⟩
  · rintro ⟨h1,h2⟩
    have h3:=Dn3 (by omega) h2;have h4:=CL7 h1 h2;have h5:=Dd4 s n;exact ⟨pc s 12,⟨pc s 12 - 1,by omega,by omega⟩,h2,h1,rfl⟩
theorem Bf9 (fs:List Nat):shortX fs 0=false:=by
  unfold shortX;rw [Ci1];simp
structure WhyIs (fs:List Nat) (s e:Nat):Prop where
  lt:s < 2 ^ fs.length
  se:(s=0∧e=0)∨(0 < s∧e=11∧shortX fs s=true)
  del:∀ i,s.testBit i=true→shortX fs (andN s (2 ^ i))=false
  min:∀ t,t < 2 ^ fs.length→shortX fs t=true→0 < s∧(pc s 12 < pc t 12∨(pc s 12=pc t 12∧s≤t))
theorem CK2 {s i:Nat}:∀ j,(andN s (2 ^ i)).testBit j=(s.testBit j && !decide (j=i)):=fun j=>by
  rw [AN9,Nat.testBit_two_pow]
  congr 2
  exact decide_eq_decide.2 ⟨fun h=>h.symm,fun h=>h.symm⟩
theorem Dk5 {s n i:Nat} (h:s < 2 ^ n) (hb:s.testBit i=true):i < n:=by
  rcases Nat.lt_or_ge i n with h1 | h1
  · exact h1
  · have h2:s < 2 ^ i:=Nat.lt_of_lt_of_le h (Nat.pow_le_pow_right (by decide) h1)
    rw [Nat.testBit_lt_two_pow h2] at hb
    cases hb
theorem CP2 {fs:List Nat} (hn:fs.length≤8):∃ s e,WhyIs fs s e∧(match whyL fs with | some s=>((s:Int),(11:Int)) | none=>(0,0))=((s:Int),(e:Int)):=by
  cases h:whyL fs with
  | none =>
    have h0:∀ t,t < 2 ^ fs.length→shortX fs t=false:=fun t ht=>by
      rcases Nat.eq_zero_or_pos t with rfl | h1
      · exact Bf9 fs
      · have:=List.find?_eq_none.1 h t ((Bm4 hn).2 ⟨h1,ht⟩)
        simpa using this
    exact ⟨0,0,⟨Nat.two_pow_pos _,.inl ⟨rfl,rfl⟩,fun i hi=>by simp at hi,fun t ht hs=>by rw [h0 t ht] at hs;cases hs⟩,rfl⟩
  | some s =>
    obtain ⟨h1,l1,l2,h2,h3⟩:=List.find?_eq_some_iff_append.1 h;have hm:s∈setsL fs.length:=by rw [h2];simp
    obtain ⟨hs0,hs1⟩:=(Bm4 hn).1 hm
    have key:∀ t,t < 2 ^ fs.length→ltS t s→shortX fs t=false:=fun t ht hlt=>by
      rcases Nat.eq_zero_or_pos t with rfl | h4
      · exact Bf9 fs
      · have h5:t∈setsL fs.length:=(Bm4 hn).2 ⟨h4,ht⟩
        have h6:=CQ6 fs.length;rw [h2] at h5 h6
        rcases List.mem_append.1 h5 with h7 | h7
        · simpa using h3 t h7
        · exfalso
          have h8:=(List.pairwise_append.1 h6).2.1;unfold ltS at hlt
          rcases List.mem_cons.1 h7 with rfl | h7
          · omega
          · cases h8 with
            | cons h9 _ =>
              have h10:=h9 t h7;unfold ltS at h10;omega
    refine ⟨s,11,⟨hs1,.inr ⟨hs0,rfl,h1⟩,fun i hi=>?_,fun t ht hsh=>⟨hs0,?_⟩⟩,rfl⟩
    · have h4:=CL8 (CK2 (s:=s) (i:=i)) 12
      have hi2:=Dk5 hs1 hi;have hi3:i < 12:=by omega
      simp only [hi3,hi,decide_true,Bool.and_self,if_true] at h4;exact key _ (Nat.lt_of_le_of_lt (Cv3 _ _) hs1) (.inl (by omega))
    · rcases Nat.lt_trichotomy (pc s 12) (pc t 12) with h4 | h4 | h4
      · exact .inl h4
      · refine .inr ⟨h4,?_⟩
        rcases Nat.lt_or_ge t s with h5 | h5
        · rw [key t ht (.inr ⟨h4.symm,h5⟩)] at hsh;cases hsh
        · exact h5
      · rw [key t ht (.inl h4)] at hsh;cases hsh
theorem Da8 {m:MxA} (hX:mixedX m.pl=true):∃ s e,WhyIs (fsX m.pl) s e∧WhyX m.pl=((s:Int),(e:Int)):=by
  obtain ⟨h4,h8,h12⟩:=Ar1 hX;obtain ⟨s,e,h1,h2⟩:=CP2 (fs:=fsX m.pl) (by rw [AF6];exact h8);exact ⟨s,e,h1,by unfold WhyX;rw [if_pos hX];exact h2⟩
end Go.Hp
namespace Go.Hp
open Go Go.Eng Go.Pw1 Go.Proofs.YtnmkdiagbkkmaabGreatDoor
structure PW (ne:Nat) (fs own:List Nat) (other:Nat):Prop where
  le:own.length≤fs.length
  fit:∀ k (h:k < own.length),own[k] < ne∧(fs.getD k 0).testBit own[k]=true
  nd:own.Nodup
  ot:∀ x,other.testBit x=decide (x∈own)
  lt:other < 2 ^ 12
theorem PW.nil (ne:Nat) (fs:List Nat):PW ne fs [] 0:=⟨Nat.zero_le _,fun k h=>absurd h (by simp),List.nodup_nil,fun x=>by simp,by decide⟩
theorem CT0 {fs:List Nat} {k f:Nat} (hk:k < fs.length) (hf:fs[k]=f):fs.getD k 0=f:=by
  rw [← hf];simp [List.getD_eq_getElem?_getD,hk]
theorem PW.snoc {ne:Nat} {fs own:List Nat} {other j f:Nat} (h:PW ne fs own other) (hk:own.length < fs.length) (hf:fs[own.length]=f) (hj:j < ne) (hn:ne≤12) (hb:f.testBit j=true) (ho:other.testBit j=false):PW ne fs (own++[j]) (other ||| 2 ^ j):=by
  refine ⟨by simp;omega,fun k hk2=>?_,?_,fun x=>?_,Nat.or_lt_two_pow h.lt (Nat.pow_lt_pow_right (by decide) (by omega))⟩
  · rw [List.getElem_append]
    split
    · rename_i h1
      exact h.fit k h1
    · rename_i h1
      have:k=own.length:=by simp at hk2;omega
      subst this;simp only [Nat.sub_self,List.getElem_cons_zero];exact ⟨hj,by rw [CT0 hk hf];exact hb⟩
  · rw [List.nodup_append]
    refine ⟨h.nd,by simp,fun a ha b hb2 e=>?_⟩
    rw [List.mem_singleton] at hb2;subst hb2;subst e;rw [h.ot,decide_eq_false_iff_not] at ho;exact ho ha
  · rw [Bb9,h.ot]
    by_cases e:j=x
    · subst e;simp
    · have e2:¬ x=j:=fun h=>e h.symm
      simp [e,e2]
theorem CP3 {ne:Nat} {fs l:List Nat} (h:Way ne fs 0 l):0 < cntL ne fs 0:=by
  rw [AV5];exact List.length_pos_of_mem (BM6.2 h)
theorem CR3 {ne:Nat} {fs:List Nat} (h:0 < cntL ne fs 0):∃ l,Way ne fs 0 l:=⟨_,Cp4 h⟩
/-! ## There is a way just if no set is short -/
theorem Bs5 (s:Nat):∀ (l:List Nat) (i x:Nat),(unionL s i l).testBit x=(List.range l.length).any fun c=>s.testBit (i + c) && (l.getD c 0).testBit x
  | [],i,x=>by simp [unionL]
  | f::l,i,x=>by
    unfold unionL;rw [Nat.testBit_or,Bs5 s l (i + 1) x,List.length_cons,List.range_succ_eq_map,List.any_cons,List.any_map]
    congr 1
    · cases h:s.testBit i <;> simp [h]
    · refine congrArg (fun p=>(List.range l.length).any p) ?_
      funext c
      simp only [Function.comp,List.getD_cons_succ];rw [show i + 1 + c=i + (c + 1) by omega]
theorem BO4 (s:Nat):∀ k,pc s k=(List.range k).countP s.testBit
  | 0=>rfl
  | k + 1=>by
    show pc s k + s / 2 ^ k % 2=_
    rw [List.range_succ,List.countP_append,BO4 s k,BK5];simp [List.countP_cons]
theorem BO3 {s n:Nat} (hn:n≤12) (h:s < 2 ^ n):pc s 12=(List.range n).countP s.testBit:=by rw [Dn3 hn h,BO4]
theorem Bs6 {ne:Nat} (s:Nat):∀ (l:List Nat) (i:Nat),(∀ f∈l,f < 2 ^ ne)→unionL s i l < 2 ^ ne
  | [],i,_=>Nat.two_pow_pos _
  | f::l,i,h=>by
    unfold unionL;refine Nat.or_lt_two_pow ?_ (Bs6 s l (i + 1) fun g hg=>h g (List.mem_cons_of_mem _ hg))
    split
    · exact h f (List.mem_cons_self ..)
    · exact Nat.two_pow_pos _
def cardsOf (n s:Nat):List Nat:=(List.range n).filter s.testBit
theorem BP1 {ne:Nat} (hn:ne≤12) {fs:List Nat} (hf:∀ f∈fs,f < 2 ^ ne) (s:Nat):nb ne (fitN fs) (cardsOf fs.length s)=pc (unionL s 0 fs) 12:=by
  rw [BO3 hn (Bs6 s fs 0 hf)];unfold nb;refine List.countP_congr fun e _=>?_
  rw [Bs5];unfold cardsOf;rw [List.any_filter];simp [fitN,List.any_eq_true]
theorem BA2 {n s:Nat} (hn:n≤12) (h:s < 2 ^ n):(cardsOf n s).length=pc s 12:=by
  rw [BO3 hn h,List.countP_eq_length_filter];rfl
theorem Cc3 {ne:Nat} (hn:ne≤12) {fs l:List Nat} (hf:∀ f∈fs,f < 2 ^ ne) (hfl:fs.length≤8) (h:Way ne fs 0 l) {s:Nat} (hs:s < 2 ^ fs.length):shortX fs s=false:=by
  have h1:=Db0 h (S:=cardsOf fs.length s) (List.nodup_range.filter _) (fun c hc=>List.mem_range.1 (List.mem_filter.1 hc).1);rw [BP1 hn hf,BA2 (by omega) hs] at h1;unfold shortX;exact decide_eq_false (by omega)
def setL (S:List Nat):Nat:=S.foldr (fun c s=>2 ^ c ||| s) 0
theorem BN7 (x:Nat):∀ S:List Nat,(setL S).testBit x=decide (x∈S)
  | []=>by simp [setL]
  | c::S=>by
    have ih:=BN7 x S
    show (2 ^ c ||| setL S).testBit x=_
    rw [Nat.testBit_or,Nat.testBit_two_pow,ih]
    by_cases e:c=x
    · subst e;simp
    · have e2:¬ x=c:=fun h=>e h.symm
      simp [e,e2]
theorem BE6 {n:Nat}:∀ {S:List Nat},(∀ c∈S,c < n)→setL S < 2 ^ n
  | [],_=>Nat.two_pow_pos _
  | c::S,h=>Nat.or_lt_two_pow (Nat.pow_lt_pow_right (by decide) (h c (List.mem_cons_self ..))) (BE6 fun d hd=>h d (List.mem_cons_of_mem _ hd))
theorem AQ1 {n:Nat} {S:List Nat} (h:∀ c∈S,c < n) (x:Nat):x∈cardsOf n (setL S) ↔ x∈S:=by
  unfold cardsOf;rw [List.mem_filter,BN7,List.mem_range,decide_eq_true_eq];exact ⟨fun h=>h.2,fun hx=>⟨h x hx,hx⟩⟩
theorem CE3 {ne:Nat} (hn:ne≤12) {fs:List Nat} (hf:∀ f∈fs,f < 2 ^ ne) (hfl:fs.length≤8) (h:∀ s,s < 2 ^ fs.length→shortX fs s=false):∃ l,Way ne fs 0 l:=by
  refine Da9 fun S hS hb=>?_
  have h1:=h (setL S) (BE6 hb);unfold shortX at h1;rw [decide_eq_false_iff_not,← BP1 hn hf,← BA2 (by omega) (BE6 hb)] at h1;have e1:(cardsOf fs.length (setL S)).length=S.length:=De4 (List.nodup_range.filter _) hS (AQ1 hb)
  have e2:nb ne (fitN fs) (cardsOf fs.length (setL S))=nb ne (fitN fs) S:=by
    unfold nb;refine List.countP_congr fun e _=>?_
    simp only [List.any_eq_true];exact ⟨fun ⟨c,h2,h3⟩=>⟨c,(AQ1 hb c).1 h2,h3⟩,fun ⟨c,h2,h3⟩=>⟨c,(AQ1 hb c).2 h2,h3⟩⟩
  omega
theorem CP1 {m:MxA} (hX:mixedX m.pl=true) {s e:Nat} (hI:WhyIs (fsX m.pl) s e):e=0 ↔ 0 < cntX m.pl:=by
  obtain ⟨h4,h8,h12⟩:=Ar1 hX;have hfl:=AF6 m;have hlt:=Cn3 m
  constructor
  · intro he
    have h0:∀ t,t < 2 ^ (fsX m.pl).length→shortX (fsX m.pl) t=false:=fun t ht=>by
      cases hsh:shortX (fsX m.pl) t with
      | false=>rfl
      | true =>
        obtain ⟨h1,_⟩:=hI.min t ht hsh
        rcases hI.se with ⟨h2,_⟩ | ⟨_,h2,_⟩ <;> omega
    obtain ⟨l,hl⟩:=CE3 h12 hlt (by omega) h0;exact CP3 hl
  · intro hc
    obtain ⟨l,hl⟩:=CR3 (ne:=(esX m).length) (fs:=fsX m.pl) hc
    rcases hI.se with ⟨_,h2⟩ | ⟨_,_,h2⟩
    · exact h2
    · rw [Cc3 h12 hlt (by omega) hl hI.lt] at h2
      cases h2
structure UsedIs (l:List Nat) (u:Nat):Prop where
  bit:∀ x,u.testBit x=decide (x∈l)
  lt:u < 2 ^ 12
theorem UsedIs.nil:UsedIs [] 0:=⟨fun x=>by simp,by decide⟩
theorem UsedIs.snoc {l:List Nat} {u j:Nat} (h:UsedIs l u) (hj:j < 12):UsedIs (l++[j]) (u ||| 2 ^ j) :=
  ⟨fun x=>by
    rw [Bb9,h.bit]
    by_cases e:j=x
    · subst e;simp
    · have e2:¬ x=j:=fun h=>e h.symm
      simp [e,e2],Nat.or_lt_two_pow h.lt (Nat.pow_lt_pow_right (by decide) hj)⟩
end Go.Hp
namespace Go.Dk
open Go Go.Eng Go.RowKit Go.Pw1 Go.Hp Go.Proofs.YtnmkdiagbkkmaabGreatDoor
theorem Cy5 {m:MxA} (h:(WhyX m.pl).2=0):waysE m.pl=0:=by
  unfold waysE
  cases hX:mixedX m.pl with
  | false=>unfold WhyX at h;rw [hX] at h;simp at h
  | true =>
    obtain ⟨s,e,hI,he⟩:=Da8 hX;rw [he] at h;have h0:e=0:=by have h1:(e:Int)=0:=h;omega
    have:=(CP1 hX hI).1 h0
    rw [if_pos rfl,if_neg (by omega)]
end Go.Dk
namespace Go.Proofs.YtnmkdiagbkkmaabGreatDoor
open Go Go.Eng
theorem Dl0:apB Tryz.prog 174=some (20,1,16):=by kernel_rfl
theorem Ch4:placesB Tryz.prog 70=some [(0,1),(1,1),(2,1)]:=by kernel_rfl
end Go.Proofs.YtnmkdiagbkkmaabGreatDoor
namespace Go.Dk
open Go Go.Eng Go.RowKit Go.Pw1 Go.Hp
theorem Cu1 {b:Bn} {w:List Str} (h:w.length ≠ 3):cardD b w = .error 8:=by unfold cardD;rw [if_pos h]
section
variable {b:Bn} {y0 y1 y2:Str}
theorem BA4 (hn:numX y0=none):cardD b [y0,y1,y2] = .error 8:=by unfold cardD;rw [if_neg (by simp)];simp [hn]
variable {n:Int} (hn:numX y0=some n)
include hn
theorem BA3 (hb:¬ b.heap.cards.length < 8):cardD b [y0,y1,y2] = .error 9:=by unfold cardD;rw [if_neg (by simp)];simp [hn,hb]
theorem Cu0 (hb:b.heap.cards.length < 8) (hs:(SureX b.heap).2 ≠ 0):cardD b [y0,y1,y2] = .error (SureX b.heap).2:=by unfold cardD;rw [if_neg (by simp)];simp [hn,hb,hs]
theorem Ct9 (hb:b.heap.cards.length < 8) (hs:(SureX b.heap).2=0) {m:Mx} (hm:{ b.heap with cards:=b.heap.cards++[⟨n,y1,y2⟩] }=m) (he:(WhyX m).2 ≠ 0):cardD b [y0,y1,y2] = .error (WhyX m).2:=by subst hm;unfold cardD;rw [if_neg (by simp)];simp [hn,hb,hs,he]
theorem CJ2 (hb:b.heap.cards.length < 8) (hs:(SureX b.heap).2=0) {m:Mx} (hm:{ b.heap with cards:=b.heap.cards++[⟨n,y1,y2⟩] }=m) (he:(WhyX m).2=0) (hs2:(SureX m).2=0):cardD b [y0,y1,y2] = .ok ({ b with heap:=m },sayX wCard [b.heap.cards.length]++((newsX (SureX b.heap).1 (SureX m).1).map fun x=>32::sayX wIs [x.1,x.2]).flatten):=by subst hm;unfold cardD;rw [if_neg (by simp)];simp [hn,hb,hs,he,hs2]
end
/-! ### The parts of the reply -/
def oneP (old now:List Int) (i:Nat):List Prt:=if now.getD i 0 = -1∨(old++[-1]).getD i 0 ≠ -1 then [] else [.s wIs,.n i,.n (now.getD i 0)]
def partsK (n0:Int) (old now:List Int) (k:Nat):List Prt:=[.s wCard,.n n0]++((List.range k).map (oneP old now)).flatten
theorem AU9 (n0:Int) (old now:List Int) (k:Nat):partsK n0 old now (k + 1)=partsK n0 old now k++oneP old now k:=by
  unfold partsK;rw [List.range_succ,List.map_append,List.flatten_append];simp
theorem Cj0 {old now:List Int} {i:Nat} (h:now.getD i 0 = -1∨(old++[-1]).getD i 0 ≠ -1):oneP old now i=[]:=if_pos h
theorem BP0 {old now:List Int} {i:Nat} (h:¬ (now.getD i 0 = -1∨(old++[-1]).getD i 0 ≠ -1)):oneP old now i=[.s wIs,.n i,.n (now.getD i 0)]:=if_neg h
theorem Bg9 (n0:Int) (old now:List Int):∀ k,(partsK n0 old now k).length≤2 + 3 * k
  | 0=>by simp [partsK]
  | k + 1=>by
    have:=Bg9 n0 old now k
    rw [AU9,List.length_append];have h2:(oneP old now k).length≤3:=by unfold oneP;split <;> simp
    omega
theorem Bu8 {n0:Int} {old now:List Int} (h0:In64 n0) (hn:∀ e∈now,In64 e):∀ k,k≤1000→∀ p∈partsK n0 old now k,p.ok∧p.words.length=1
  | 0,_,p,hp=>by
    simp only [partsK,List.range_zero,List.map_nil,List.flatten_nil,List.append_nil,List.mem_cons,List.not_mem_nil,or_false] at hp
    rcases hp with rfl | rfl
    · exact ⟨show wCard.length≤40 by decide,rfl⟩
    · exact ⟨h0,rfl⟩
  | k + 1,hk,p,hp=>by
    rw [AU9] at hp
    rcases List.mem_append.1 hp with hp | hp
    · exact Bu8 h0 hn k (by omega) p hp
    · unfold oneP at hp
      split at hp
      · cases hp
      · simp only [List.mem_cons,List.not_mem_nil,or_false] at hp
        rcases hp with rfl | rfl | rfl
        · exact ⟨show wIs.length≤40 by decide,rfl⟩
        · exact ⟨⟨by omega,by omega⟩,rfl⟩
        · refine ⟨?_,rfl⟩
          show In64 _
          rw [List.getD_eq_getElem?_getD]
          rcases Nat.lt_or_ge k now.length with h | h
          · rw [List.getElem?_eq_getElem h];exact hn _ (List.getElem_mem h)
          · rw [List.getElem?_eq_none h];exact Ag8
theorem CK7:∀ {l:List Prt},(∀ p∈l,p.words.length=1)→(l.map Prt.words).flatten.length=l.length
  | [],_=>rfl
  | p::l,h=>by
    simp only [List.map_cons,List.flatten_cons,List.length_append,List.length_cons,h p (List.mem_cons_self ..),CK7 (l:=l) (fun q hq=>h q (List.mem_cons_of_mem _ hq))];omega
theorem BO9 (old now:List Int):∀ L:List Nat,(((((L.map (oneP old now)).flatten).map Prt.words).flatten).map fun y:Str=>(32:UInt8)::y).flatten=((L.filterMap fun i=>if now.getD i 0 = -1∨(old++[-1]).getD i 0 ≠ -1 then none else some (i,now.getD i 0)).map fun x:Nat×Int=>32::sayX wIs [x.1,x.2]).flatten
  | []=>rfl
  | i::L=>by
    have ih:=BO9 old now L;rw [List.filterMap_cons]
    by_cases h:now.getD i 0 = -1∨(old++[-1]).getD i 0 ≠ -1
    · rw [if_pos h,List.map_cons,Cj0 h]
      exact ih
    · rw [if_neg h,List.map_cons,BP0 h]
      simp only [List.flatten_cons,List.map_append,List.flatten_append,ih,List.map_cons];simp [Prt.words,sayX]
theorem CJ3 (n0:Int) (old now:List Int):Lib.join ((partsK n0 old now now.length).map Prt.words).flatten [32]=sayX wCard [n0]++((newsX old now).map fun x=>32::sayX wIs [x.1,x.2]).flatten:=by
  unfold partsK newsX;rw [← BO9];simp only [List.map_append,List.flatten_append,List.map_cons,List.map_nil,List.flatten_cons,List.flatten_nil,Prt.words,List.cons_append,List.nil_append,List.append_nil];rw [AZ4];simp [sayX]
abbrev prC (p:Prt):List Value:=[p.v]
end Go.Dk
namespace Go.Proofs.YtnmkdiagbkkmaabGreatDoor
open Go Go.Eng Go.Dk Go.RowKit Go.Pw1 Go.Hp

theorem Cs6 (xb:Nat) (d:DkX) (c:Cd) (W:World) (hD:DkA W xb d c) (h:waysE d.mx.pl=0):Calls Tryz.prog 132 #[pV xb] W (News (fun z:IO (SureX d.mx.pl).1=>ownV z.1 (SureX d.mx.pl).1.length) (fun z=>ownB 3 z.1 (intsW (SureX d.mx.pl).1).flatten++[]) W) :=
  Af3 (Bp8 xb d c W hD h) (by
    rintro e w' ⟨z,rfl,hm⟩
    exact ⟨z,by show Ending.returned _=Ending.returned (ownV z.1 _);rw [Ad9 z.2],hm⟩)
section
variable (xb:Nat) (d:DkX) (c:Cd) (rest:Blks) (W0 w:World) (hL:Lw Tryz.prog W0) (hd:DkOk d)
include hL hd
theorem BJ4 (ws:List Str) (hs:ws.length ≠ 3) (q:Option Addr) (cap:Nat) (nv:Value) (hm0:Mem W0 [] (dkM xb d c (rest++[])) w) :
    Calls Tryz.prog 82 #[pV xb,.slice q ws.length cap,nv] w (VerbT W0 xb c (cardD d.pl ws) rest):=by
  have hm1:Mem W0 [] ((xb,dkO d c)::(dkB d++(rest++[]))) w:=hm0;refine Af7 hm1 Tryz.func82 rfl rfl ?_;refine st ?_;refine RunC.scope ?_;refine su ?_;refine Ac2 (zF rfl Al7) rfl rfl rfl (fun w hm=>Ad8 _ _ w) (fun e18 he18=>?_) (fun v18 hv18=>?_)
  ·obtain ⟨er18,rfl⟩:=Ae0 he18
   refine Aa5 ?_;refine Af6 ?_;exact Ae4 ((ownV d.v d.vs.length,ownV d.b d.bs.length,ownV d.c d.cs.length),8) (Cu1 hs) rfl (.cons .here rfl (Pick.cnt fun x=>by simp only [nC];omega))
  obtain ⟨ok18,rfl⟩:=Ae7 hv18;exact absurd (of_decide_eq_true (Ae7 hv18).1) (by omega)
theorem BJ3 (hw:waysE d.mx.pl ≠ 0) (x y0 y1 y2:Str) (r:List Value) (sb cap:Nat) (nv:Value) (hcap:3≤cap) (hsh:∀ s∈[y0,y1,y2],s.length≤100000) (hm0:Mem W0 [] (dkM xb d c ((sb,sbO [x,y0,y1,y2] r)::(rest++[]))) w) :
    Calls Tryz.prog 82 #[pV xb,.slice (some ⟨sb,1,none⟩) 3 cap,nv] w (VerbT W0 xb c (cardD d.pl [y0,y1,y2]) rest):=by
  have hdc:=hd.c;have hcl:d.pl.heap.cards.length=d.cs.length:=rfl;have hyl:=hsh y0 (by simp);have hm1:Mem W0 [] ((xb,dkO d c)::(sb,sbO [x,y0,y1,y2] r)::(ownB 70 d.c (d.cs.map Tn.cells).flatten++(dkNc d++(rest++[])))) w:=hm0.pick (Pick.cnt fun x=>by simp only [dkM,dkB,dkNc,List.count_cons,List.count_append,List.count_nil];omega);have hs2:(SureX d.pl.heap).2=waysE d.mx.pl:=by rw [← DkX.mx_pl];unfold SureX;rw [if_neg hw]
  refine Af7 hm1 Tryz.func82 rfl rfl ?_;refine st ?_;refine RunC.scope ?_;refine su ?_;refine Ac2 (zF rfl Al7) rfl rfl rfl (fun w hm=>Ad8 _ _ w) (fun e18 he18=>?_) (fun v18 hv18=>?_)
  ·obtain ⟨er18,rfl⟩:=Ae0 he18
   refine Aa5 ?_;refine Af6 ?_;exact absurd (of_decide_eq_false er18) (by simp)
  obtain ⟨ok18,rfl⟩:=Ae7 hv18;refine st ?_;refine lv (Ab4 rfl rfl Au5 (by omega) (by omega)) ?_;refine lv (Ab0 rfl (fun w hm=>Sl.cellE (AO6 (q:=some ⟨sb,1,none⟩) (hm.at (.tail _ (.head _))) (fun _=>rfl)) (Mem.refl w) (by simp) AE3 (i:=0) (by simp) (x:=y0) rfl (j:=0) (by decide) (v:=.string (bs y0)) rfl (by simp))) ?_;refine Ac2 (zF rfl BQ4) rfl rfl rfl (fun w hm=>Av0 _ (by omega) w (hL.mono hm)) (fun e22 he22=>?_) (fun v22 hv22=>?_)
  ·obtain ⟨hn22,rfl⟩:=AV0 he22
   refine Aa5 ?_;refine Af6 ?_;exact Ae4 ((ownV d.v d.vs.length,ownV d.b d.bs.length,ownV d.c d.cs.length),8) (BA4 hn22) rfl (.cons .here rfl (Pick.cnt fun x=>by simp only [nC];omega))
  obtain ⟨n22,hn22,rfl⟩:=Bn1 hv22;refine su ?_;refine lv (Ag6 rfl AT1 hdc) ?_;refine Ac2 (zF rfl Al7) rfl rfl rfl (fun w hm=>Ad8 _ _ w) (fun e32 he32=>?_) (fun v32 hv32=>?_)
  ·obtain ⟨er32,rfl⟩:=Ae0 he32
   have hk8:¬ d.cs.length < 8:=by have:=of_decide_eq_false er32;omega
   refine Aa5 ?_;refine Af6 ?_;exact Ae4 ((ownV d.v d.vs.length,ownV d.b d.bs.length,ownV d.c d.cs.length),9) (BA3 hn22 hk8) rfl (.cons .here rfl (Pick.cnt fun x=>by simp only [nC];omega))
  obtain ⟨ok32,rfl⟩:=Ae7 hv32;have hk8:d.cs.length < 8:=by have:=of_decide_eq_true ok32;omega
  refine st ?_;refine Ac2 (zF rfl Ba9) rfl rfl rfl (fun w hm=>BQ6 xb d c w (An9 hd (hm.pick (news':=dkM xb d c ((sb,sbO [x,y0,y1,y2] r)::(rest++[]))) (Pick.cnt fun x=>by simp only [dkM,dkB,dkNc,nC];omega))) hw) (fun e34 he34=>?_) (fun v34 hv34=>?_)
  ·cases he34
   refine Aa5 ?_;refine Af6 ?_;exact Ae4 ((ownV d.v d.vs.length,ownV d.b d.bs.length,ownV d.c d.cs.length),waysE d.mx.pl) (hs2 ▸ Cu0 hn22 hk8 (by rw [hs2];exact hw)) rfl (.cons .here rfl (Pick.cnt fun x=>by simp only [nC];omega))
  cases hv34
set_option maxHeartbeats 1000000 in
theorem BY6 (hw:waysE d.mx.pl=0) (x y0 y1 y2:Str) (r:List Value) (sb cap:Nat) (nv:Value) (hcap:3≤cap) (hsh:∀ s∈[y0,y1,y2],s.length≤100000) (hm0:Mem W0 [] (dkM xb d c ((sb,sbO [x,y0,y1,y2] r)::(rest++[]))) w) :
    Calls Tryz.prog 82 #[pV xb,.slice (some ⟨sb,1,none⟩) 3 cap,nv] w (VerbT W0 xb c (cardD d.pl [y0,y1,y2]) rest):=by
  have hdc:=hd.c;have hcl:d.pl.heap.cards.length=d.cs.length:=rfl;have hyl:=hsh y0 (by simp);have hm1:Mem W0 [] ((xb,dkO d c)::(sb,sbO [x,y0,y1,y2] r)::(ownB 70 d.c (d.cs.map Tn.cells).flatten++(dkNc d++(rest++[])))) w:=hm0.pick (Pick.cnt fun x=>by simp only [dkM,dkB,dkNc,List.count_cons,List.count_append,List.count_nil];omega);have hs0:(SureX d.pl.heap).2=0:=by rw [← DkX.mx_pl];unfold SureX;rw [if_pos hw]
  have hsl:(SureX d.mx.pl).1.length=d.cs.length:=by unfold SureX;rw [if_pos hw];simp [DkX.mx,MxA.pl]
  refine Af7 hm1 Tryz.func82 rfl rfl ?_;refine st ?_;refine RunC.scope ?_;refine su ?_;refine Ac2 (zF rfl Al7) rfl rfl rfl (fun w hm=>Ad8 _ _ w) (fun e18 he18=>?_) (fun v18 hv18=>?_)
  ·obtain ⟨er18,rfl⟩:=Ae0 he18
   refine Aa5 ?_;refine Af6 ?_;exact absurd (of_decide_eq_false er18) (by simp)
  obtain ⟨ok18,rfl⟩:=Ae7 hv18;refine st ?_;refine lv (Ab4 rfl rfl Au5 (by omega) (by omega)) ?_;refine lv (Ab0 rfl (fun w hm=>Sl.cellE (AO6 (q:=some ⟨sb,1,none⟩) (hm.at (.tail _ (.head _))) (fun _=>rfl)) (Mem.refl w) (by simp) AE3 (i:=0) (by simp) (x:=y0) rfl (j:=0) (by decide) (v:=.string (bs y0)) rfl (by simp))) ?_;refine Ac2 (zF rfl BQ4) rfl rfl rfl (fun w hm=>Av0 _ (by omega) w (hL.mono hm)) (fun e22 he22=>?_) (fun v22 hv22=>?_)
  ·obtain ⟨hn22,rfl⟩:=AV0 he22
   refine Aa5 ?_;refine Af6 ?_;exact Ae4 ((ownV d.v d.vs.length,ownV d.b d.bs.length,ownV d.c d.cs.length),8) (BA4 hn22) rfl (.cons .here rfl (Pick.cnt fun x=>by simp only [nC];omega))
  obtain ⟨n22,hn22,rfl⟩:=Bn1 hv22;refine su ?_;refine lv (Ag6 rfl AT1 hdc) ?_;refine Ac2 (zF rfl Al7) rfl rfl rfl (fun w hm=>Ad8 _ _ w) (fun e32 he32=>?_) (fun v32 hv32=>?_)
  ·obtain ⟨er32,rfl⟩:=Ae0 he32
   have hk8:¬ d.cs.length < 8:=by have:=of_decide_eq_false er32;omega
   refine Aa5 ?_;refine Af6 ?_;exact Ae4 ((ownV d.v d.vs.length,ownV d.b d.bs.length,ownV d.c d.cs.length),9) (BA3 hn22 hk8) rfl (.cons .here rfl (Pick.cnt fun x=>by simp only [nC];omega))
  obtain ⟨ok32,rfl⟩:=Ae7 hv32;have hk8:d.cs.length < 8:=by have:=of_decide_eq_true ok32;omega
  refine st ?_;refine Aq5 [(xb,_),(sb,_)] _ rfl (zF rfl Ba9) rfl rfl rfl (fun w hm=>Cs6 xb d c w (An9 hd (hm.pick (news':=dkM xb d c ((sb,sbO [x,y0,y1,y2] r)::(rest++[]))) (Pick.cnt fun x=>by simp only [dkM,dkB,dkNc,nC];omega))) hw) (fun z34=>?_)
  obtain ⟨y34,hy34⟩:=z34;dsimp only;refine zn (New.buildSlice (parts:=[(0,.const (.int .i64 (-1)))]) rfl Ah5 Ax7 rfl rfl rfl rfl) (fun b35=>?_)
  refine RunL.append (A:=[(b35,_),(xb,_),(sb,_)]) (B:=_) (x:=y34) (ys:=[.int .i64 (-1)]) CK1 rfl rfl rfl hy34 rfl (fun h=>by cases h) (fun w hm=>An1 (hm.at (.head _))) (Ar6 rfl) (by simp only [maxLen];omega) (by omega) rfl (fun z36 hz36=>?_)
  refine vp rfl rfl rfl rfl ?_;refine nnx ?_;refine RunC.seq ?_;rw [← AZ6] at hz36 ⊢;obtain ⟨bz36,cz36,rz36,rfl,lz361,lz362,lz363⟩:=hz36.has (by omega);refine Ao6 (X:=Eng.Own) 17 (n0:=[(b35,_),(sb,_),(bz36,_)]) (fun z q=>q) (fun z=>[]) (fun z=>[(xb,.cells ([ownV d.v d.vs.length,ownV d.b d.bs.length,ownV z (d.cs.length + 1)]++(bareC c).cells none 0++[Value.bool true]).toArray 86 (0,0))]) (fun z=>ownB 70 z ((d.cs.map Tn.cells).flatten++(⟨n22,y1,y2⟩:Tn).cells)++(dkNc d++(rest++[]))) (fun z=>OwnOk 3 z (d.cs.length + 1) ((d.cs.map Tn.cells).flatten++(⟨n22,y1,y2⟩:Tn).cells)) Aj3 (.cons .here rfl (.cons .here rfl (.cons .here rfl (.cons .here rfl .nil)))) (zS 0 rfl (zS 1 rfl (zS 2 rfl (zS 7 rfl (zS 8 rfl (zS 9 rfl (Sub.nil _))))))) (.cons .here rfl (.cons (.there .here) rfl (.cons (.there .here) rfl .nil))) ?_ ?_
  ·refine zw 0 ?_
   refine zw 1 ?_;refine zw 2 ?_;refine zw 3 ?_;refine zw 4 ?_;refine zw 5 ?_;refine zw 6 ?_;refine zw 7 ?_;refine zw 8 ?_;refine zv 9 rfl (Ab4 rfl rfl Au5 (by omega) (by omega)) ?_;refine zv 10 rfl (Ab0 rfl (fun w hm=>Sl.cellE (AO6 (q:=some ⟨sb,1,none⟩) (hm.at (.tail _ (.tail _ (.head _)))) (fun _=>rfl)) (Mem.refl w) (by simp) AE3 (i:=1) (by simp) (x:=y1) rfl (j:=0) (by decide) (v:=.string (bs y1)) rfl (by simp))) ?_;refine zw 11 ?_;refine zv 12 rfl (Ab4 rfl rfl Au5 (by omega) (by omega)) ?_;refine zv 13 rfl (Ab0 rfl (fun w hm=>Sl.cellE (AO6 (q:=some ⟨sb,1,none⟩) (hm.at (.tail _ (.tail _ (.head _)))) (fun _=>rfl)) (Mem.refl w) (by simp) AE3 (i:=2) (by simp) (x:=y2) rfl (j:=0) (by decide) (v:=.string (bs y2)) rfl (by simp))) ?_;refine zv 14 rfl (Val.build (parts:=[(0,.tmp 44),(1,.tmp 47),(2,.tmp 50)]) rfl BC5 Ch4 rfl) ?_;refine zA 15 ?_;refine Ac6 rfl (New.buildSlice (parts:=[(0,.tmp 51)]) rfl AT1 BC5 rfl rfl rfl rfl) rfl rfl rfl (fun b52=>(Aa7 (.cons .here rfl (.cons .here rfl (.cons .here rfl (.cons .here rfl (.cons .here rfl .nil))))) (.cons (.there .here) rfl (.cons (.there .here) rfl (.cons (.there .here) rfl (.cons (.there .here) rfl .nil)))) rfl ?_))
   refine zA 16 ?_;refine RunI.append (A:=[(b52,_),(b35,_),(xb,_),(sb,_),(bz36,_)]) (B:=_) (x:=d.c) (ys:=(⟨n22,y1,y2⟩:Tn).cells) rfl Dk7 rfl rfl rfl hdc rfl (fun h=>by cases h) (fun w hm=>An1 (hm.at (.head _))) (Ar6 rfl) (by simp only [maxLen];omega) (by omega) rfl (fun z53 hz53=>(Aa7 (.cons .here rfl (.cons .here rfl (.cons .here rfl (.cons .here rfl (.cons .here rfl .nil))))) (.cons .here rfl (.cons .here rfl (.cons .here rfl (.cons .here rfl (.cons .here rfl .nil))))) rfl ?_))
   refine zt ?_;refine zp 17 ?_;refine zp 18 ?_;refine zp 19 ?_;refine zp 20 ?_;refine zB 21 ?_;refine Ac0 rfl (As7 rfl rfl (.there (.there .here)) Bm0 rfl rfl) rfl rfl (Ab9 ?_)
   refine zd ?_;exact Ai5 z53 hz53 rfl (zS 0 rfl (zS 1 rfl (zS 2 rfl (zS 7 rfl (zS 8 rfl (zS 9 rfl (Sub.nil _))))))) (.cons (.there (.there .here)) rfl (.cons (.there .here) rfl (.cons (.there .here) rfl (.cons (.there .here) rfl (Pick.skip (Pick.same rfl))))))
  intro z zI;have hz1:=zI;have hd2:=hd.card (t:=⟨n22,y1,y2⟩) hz1 ⟨by (have:=hsh y1 (by simp);show y1.length≤_;omega),by (have:=hsh y2 (by simp);show y2.length≤_;omega)⟩ hk8;obtain ⟨m,hme⟩:∃ m:Mx,{ d.pl.heap with cards:=d.pl.heap.cards++[⟨n22,y1,y2⟩] }=m:=⟨_,rfl⟩;have hpl2:(DkX.pl { d with c:=z,cs:=d.cs++[⟨n22,y1,y2⟩] }).heap=m:=by (rw [DkX.pl_card,← hme])
  have hmx2:(DkX.mx { d with c:=z,cs:=d.cs++[⟨n22,y1,y2⟩] }).pl=m:=by (rw [DkX.mx_pl];exact hpl2)
  refine su ?_;refine zc (zF rfl Cr5) (fun w hm=>(by have h:=Be7 (xb:=xb) (d:={ d with c:=z,cs:=d.cs++[⟨n22,y1,y2⟩] }) (c:=c) (tl:=rest++[]) d.bs.length (d.cs.length + 1) hd2 (hm.pick (Pick.cnt fun x=>by simp only [dkM,dkO,dkB,DkX.cells,dkNc,List.length_append,List.length_singleton,Av4,List.append_nil,List.append_assoc,List.cons_append,List.nil_append,nC];omega)) rfl (by simp);rw [hpl2] at h;exact h)) ?_;refine Ac2 (zF rfl At8) rfl rfl rfl (fun w hm=>Ah6 _ w) (fun e68 he68=>?_) (fun v68 hv68=>?_)
  ·obtain ⟨er68,rfl⟩:=An5 he68
   refine Aa5 ?_;refine Af6 ?_;exact Ae4 ((ownV d.v d.vs.length,ownV d.b d.bs.length,ownV z (d.cs.length + 1)),(WhyX m).2) (Ct9 hn22 hk8 hs0 hme er68) rfl (.cons .here rfl (Pick.cnt fun x=>by simp only [nC];omega))
  obtain ⟨ok68,rfl⟩:=At6 hv68;have hw2:waysE m=0:=by (have h:=Cy5 (m:=DkX.mx { d with c:=z,cs:=d.cs++[⟨n22,y1,y2⟩] }) (by rw [hmx2];exact ok68);rwa [hmx2] at h)
  have hs2:(SureX m).2=0:=by (unfold SureX;rw [if_pos hw2])
  have hsl2:(SureX m).1.length=d.cs.length + 1:=by (unfold SureX;rw [if_pos hw2,← hme];simp [DkX.pl])
  have hsb2:∀ e∈(SureX m).1,In64 e:=by (have h:=BD8 (DkX.mx { d with c:=z,cs:=d.cs++[⟨n22,y1,y2⟩] });rwa [hmx2] at h)
  refine st ?_;refine lv (Val.makeInterface rfl Ap0) ?_;refine lv (Val.makeInterface rfl Au0) ?_;refine zn (New.buildSlice (parts:=[(0,.tmp 69),(1,.tmp 71)]) rfl Ao7 Al8 rfl rfl rfl rfl) (fun b72=>?_)
  refine RunC.label ?_;refine st ?_;refine Aq5 [(b72,_),(xb,_),(b35,_),(sb,_),(bz36,_)] _ rfl (zF rfl Ba9) rfl rfl rfl (fun w hm=>(by have h:=Bp8 xb { d with c:=z,cs:=d.cs++[⟨n22,y1,y2⟩] } c w (An9 hd2 (hm.pick (news':=dkM xb { d with c:=z,cs:=d.cs++[⟨n22,y1,y2⟩] } c (rest++[])) (Pick.cnt fun x=>by simp only [dkM,dkO,dkB,DkX.cells,dkNc,List.length_append,List.length_singleton,Av4,List.append_nil,List.append_assoc,List.cons_append,List.nil_append,nC];omega))) (by rw [hmx2];exact hw2);rw [hmx2] at h;exact h)) (fun z74=>?_)
  obtain ⟨y74,hy74⟩:=z74;dsimp only;refine su ?_;refine Ah4 (X:=Eng.Own×List Prt) (n0:=[(b35,_),(bz36,_),(xb,_),(sb,_)]) (d.cs.length + 1) (fun k x q=>(76,.int .i64 (k:Int))::(12,ownV x.1 x.2.length)::q) (fun _ _=>_) (fun k x=>[]) (fun k x=>ownB 20 x.1 (x.2.map prC).flatten++(ownB 3 y74 (intsW (SureX m).1).flatten++(ownB 70 z ((d.cs.map Tn.cells).flatten++(⟨n22,y1,y2⟩:Tn).cells)++(dkNc d++(rest++[]))))) (fun k x=>OwnOk 1 x.1 x.2.length (x.2.map prC).flatten∧x.2=partsK (d.cs.length:Int) (SureX d.mx.pl).1 (SureX m).1 k) (some (b72,2,[]),partsK (d.cs.length:Int) (SureX d.mx.pl).1 (SureX m).1 0) ⟨⟨rfl,fun h=>(by cases h),fun b c r h=>(by cases h;exact ⟨Nat.le_refl 2,by simp [maxLen],rfl⟩)⟩,rfl⟩ rfl (zE 76 rfl rfl (zE 12 rfl rfl (zS 9 rfl (zS 74 rfl (zS 75 rfl (Sub.nil _)))))) (.cons (.there (.there .here)) rfl (.cons (.there (.there (.there .here))) rfl (.cons (.there .here) rfl (.cons (.there .here) rfl (Pick.same (by rfl)))))) ?_;intro k x kN kI;obtain ⟨x1,xl⟩:=x;obtain ⟨hx1,hxl⟩:=kI;dsimp only at hx1 hxl ⊢;have hxn:=Bg9 (d.cs.length:Int) (SureX d.mx.pl).1 (SureX m).1 k;rw [← hxl] at hxn;refine st ?_;refine cn rfl ?_ ?_
  ·intro c0'
   have hk:k < d.cs.length + 1:=by omega
   refine st ?_;refine lv (Aa8 rfl rfl Ah5 (by omega) (by rw [hsl2];omega) (Bm9 hy74 (by omega))) ?_;refine lv (Ab0 rfl (fun w hm=>Sl.loadM1 (Ar5 (f:=fun x:Int=>[Value.int .i64 x]) (e:=3) (fun _=>rfl) (by decide) hy74 (fun b o h=>hm.at (.tail _ (.tail _ (.tail _ (.tail _ ((by first | exact List.mem_append_right _ (List.mem_append_left _ h) | exact List.mem_append_right _ (List.mem_append_right _ (List.mem_append_left _ h)))))))))) (by decide) (Mem.refl w) (by simp) Ag4 (i:=k) (by rw [hsl2];exact hk) (v:=.int .i64 ((SureX m).1.getD k 0)) (by simp [List.getD_eq_getElem?_getD,hsl2,hk]))) ?_
   refine Ad4 (dj:=83) (dp:=89) 6 rfl (fun g83=>by
     have g83':=g83;try simp only [nH] at g83'
     refine st ?_;refine lv (Ab4 rfl rfl Ah5 (by omega) (by omega)) ?_;refine Ac7 (Ab0 rfl (fun w hm=>Sl.loadM1 (f:=fun x:Int=>[Value.int .i64 x]) (l:=(SureX d.mx.pl).1++[-1]) (Sl.rowsR (xs:=intsW ((SureX d.mx.pl).1++[-1])) (hm.at (.tail _ (.head _))) (fun x hx=>by obtain ⟨t,_,rfl⟩:=List.mem_map.1 hx;rfl)) (by decide) (Mem.refl w) (by simp) Ag4 (i:=k) (by simp only [List.length_append,List.length_singleton,hsl];exact hk) (v:=.int .i64 (((SureX d.mx.pl).1++[-1]).getD k 0)) (congrArg (fun x:Int=>some (Value.int .i64 x)) (by rw [List.getD_eq_getElem?_getD,List.getElem?_eq_getElem (by simp only [List.length_append,List.length_singleton,hsl];exact hk),Option.getD_some])))) rfl rfl rfl ?_;refine sv ?_;exact zs g83
   ) (fun g83=>by
     have g83':=g83;try simp only [nH] at g83'
     iterate 5 refine Ab8 rfl rfl rfl ?_
     refine sv ?_;exact zs g83
   ) ?_
   refine st ?_;refine cn rfl ?_ ?_
   ·intro c1'
    have hcc:(SureX m).1.getD k 0 = -1∨((SureX d.mx.pl).1++[-1]).getD k 0 ≠ -1:=by simpa using c1'
    refine RunC.exit ?_;refine Al2 ?_;refine Ab1 ?_;refine st ?_;refine lv (Val.add rfl rfl (IntWalk.i64_in _ ⟨by omega,by omega⟩)) ?_;exact Ad5 (x1,xl) (by omega) ⟨hx1,by rw [AU9,Cj0 hcc,List.append_nil];exact hxl⟩ rfl (zE 76 rfl rfl (zE 12 rfl (by first | rfl | simp) (zS 9 rfl (zS 74 rfl (zS 75 rfl (Sub.nil _)))))) (.cons .here rfl (.cons .here rfl (.cons .here rfl (.cons .here rfl (Pick.same (by first | rfl | (simp only [List.map_append,List.flatten_append];rfl) | simp))))))
   intro c1';have hcc:¬ ((SureX m).1.getD k 0 = -1∨((SureX d.mx.pl).1++[-1]).getD k 0 ≠ -1):=by simpa using c1'
   refine st ?_;refine lv (Val.makeInterface rfl Ap0) ?_;refine lv (Val.makeInterface rfl Au0) ?_;refine lv (Val.makeInterface rfl Au0) ?_;refine zn (New.buildSlice (parts:=[(0,.tmp 91),(1,.tmp 93),(2,.tmp 95)]) rfl Ao7 Al8 rfl rfl rfl rfl) (fun b96=>?_)
   refine RunL.append (A:=[(b96,_),(b35,_),(bz36,_),(xb,_),(sb,_)]) (B:=_) (x:=x1) (ys:=([Prt.s wIs,Prt.n (k:Int),Prt.n ((SureX m).1.getD k 0)].map prC).flatten) Dl0 rfl rfl rfl hx1 rfl (fun h=>by cases h) (fun w hm=>An1 (hm.at (.head _))) (Ar6 rfl) (by simp only [maxLen];omega) (by omega) rfl (fun z97 hz97=>?_)
   refine st ?_;refine lv (Val.add rfl rfl (IntWalk.i64_in _ ⟨by omega,by omega⟩)) ?_;exact Ad5 (z97,xl++[Prt.s wIs,Prt.n (k:Int),Prt.n ((SureX m).1.getD k 0)]) (by omega) ⟨by have h:=hz97;simp only [List.map_append,List.flatten_append,List.length_append,List.length_cons,List.length_nil];simpa using h,by rw [AU9,BP0 hcc,← hxl]⟩ rfl (zE 76 rfl rfl (zE 12 rfl (by first | rfl | simp) (zS 9 rfl (zS 74 rfl (zS 75 rfl (Sub.nil _)))))) (.cons (.there .here) rfl (.cons (.there .here) rfl (.cons (.there .here) rfl (.cons (.there .here) rfl (Pick.skip (Pick.same (by first | rfl | simp)))))))
  intro c0';have hkn:k=(SureX m).1.length:=by omega
  have hpok:=Bu8 (n0:=(d.cs.length:Int)) (old:=(SureX d.mx.pl).1) (now:=(SureX m).1) ⟨by omega,by omega⟩ hsb2 k (by omega);rw [← hxl] at hpok;have hsay:=CJ3 (d.cs.length:Int) (SureX d.mx.pl).1 (SureX m).1;rw [← hkn,← hxl] at hsay;refine RunC.exit ?_;refine su ?_;refine Ab1 ?_;refine st ?_;refine zc (zF rfl Au1) (fun w hm=>(by rw [Ad9 hx1];have h:=Bg3 xl (ownQ x1) (ownK x1) 0 (ownC x1) w (hL.mono hm.zero) (Ar5 (f:=prC) (e:=20) (fun _=>rfl) (by decide) hx1 (fun b o h=>hm.at (.tail _ (.tail _ (.tail _ (.tail _ ((by first | exact List.mem_append_left _ h | exact List.mem_append_right _ (List.mem_append_left _ h))))))))) (by omega) (fun p hp=>(hpok p hp).1) (by rw [CK7 (fun p hp=>(hpok p hp).2)];omega);rw [hsay] at h;exact h)) ?_;refine Ar3 ?_;exact Am8 ({ d with c:=z,cs:=d.cs++[⟨n22,y1,y2⟩] },sayX wCard [(d.cs.length:Int)]++((newsX (SureX d.mx.pl).1 (SureX m).1).map fun x=>32::sayX wIs [x.1,x.2]).flatten) ⟨hd2,by rw [CJ2 hn22 hk8 hs0 hme ok68 hs2,DkX.mx_pl];exact congrArg (fun b=>Except.ok (b,sayX wCard [(d.cs.length:Int)]++((newsX (SureX d.pl.heap).1 (SureX m).1).map fun x=>32::sayX wIs [x.1,x.2]).flatten)) (by rw [DkX.pl_card,hme])⟩ (.r1 rfl (.tmp rfl)) rfl (Pick.cnt fun x=>by simp only [dkM,dkO,dkB,DkX.cells,dkNc,List.length_append,List.length_singleton,Av4,List.append_nil,List.append_assoc,List.cons_append,List.nil_append,nC];omega)
end
end Go.Proofs.YtnmkdiagbkkmaabGreatDoor
namespace Go.Proofs.YtnmkdiagbkkmaabGreatDoor
open Go Go.Eng
theorem Cp9:Enters Tryz.prog 28:=Aa1 Tryz.func28 (by kernel_rfl) rfl
theorem Dh9:Enters Tryz.prog 62:=Aa1 Tryz.func62 (by kernel_rfl) rfl
theorem Dh7:Enters Tryz.prog 64:=Aa1 Tryz.func64 (by kernel_rfl) rfl
end Go.Proofs.YtnmkdiagbkkmaabGreatDoor
namespace Go.Eng
open Go Go.RowKit
section
variable {P:Program} {ops:Array Oper} {Q:Exit→Act→World→Prop} {n:Nat} {r:Regs} {ds:List Deferred} {W:World} {chg news:Blks} {rest:List Oper}
variable {d:Nat} {ty:TypeId} {pos:String} {after:Array Edge} {dst:Option Tmp} {gd:Option (Nat×Bool)}
theorem AJ6 {x y:Operand} {T e:TypeId} {n sz by_:Nat} {zs:List Value} {kx ky:IntKind} (hx:rev r x=some (.int kx (n:Int))) (hy:rev r y=some (.int ky (n:Int))) (hT:apB P T=some (e,sz,by_)) (hz:zeroB P e=some zs) (hn:n≤10000) (hb:by_≤1000) (hs:sz≤100) :
    New P r W chg news { dst,op:=.makeSlice T x y,type:=ty,pos,after,guard:=gd } (fun b=>.slice (some ⟨b,0,none⟩) n n) (.cells (madeCells zs.toArray (n * sz)).toList.toArray e (0,0)) :=
  ⟨fun a w ha _=>by
    obtain ⟨hu,i,zz,hi,hzi,h2,h3,_,_⟩:=Br5 hT;unfold zeroB at hz;simp only [hi,hzi,Option.bind_some,Option.map_some,Option.some.injEq] at hz
    have hz2:zz.cells=zs.toArray:=by
      apply Array.toList_inj.1
      rw [hz]
    have hb2:(i.bytes:Int) * (n:Int)≤281474976710656:=by
      have h4:i.bytes * n≤1000 * 10000:=Nat.mul_le_mul (by omega) hn;have h5:((i.bytes * n:Nat):Int)≤281474976710656:=by omega
      rwa [Int.natCast_mul] at h5
    have hc2:n * i.size≤16777216:=Nat.le_trans (Nat.mul_le_mul hn (show i.size≤100 by omega)) (by decide);have hr:=run_makeSlice (P:=P) w T e i zz hu hi hzi kx ky n n (by omega) (Int.le_refl _) (by simpa using hc2) hb2 (by omega);rw [h2,hz2,Int.toNat_natCast] at hr;simp [execOp,ha.eval hx,ha.eval hy,hr]⟩
theorem Cg8 (w:World) (dT sT ty elem g n dCap sCap sz:Nat) (q:Option Addr) (cur:Array Value) (t:TypeId) (cs:List Value)
    (hu:P.underlying dT=some (.slice elem)) (hs:(P.info? elem).map (·.size)=some sz) (hg:w.heap[g]? = some (.cells cur t (0,0))) (hn:cs.length=n * sz) (hc:cur.size=n * sz) (hq:q=none→n=0)
    (hsrc:∀ j v,cs[j]? = some v→∃ a,q=some a∧w.cell? (a.add j)=some v) (h1:∀ v∈cs,v.oneCell'=true) :
    (Builtin.copy_ #[dT,sT] ty #[.slice (some ⟨g,0,none⟩) n dCap,.slice q n sCap]).run P w = .ok (goInt n) (w.setRow g cs.toArray):=by
  have hst:=run_storeCells_at P g 0 t cs 0 cur w hg (by omega) h1
  have e1:(cur.toList.take (0 + 0)++cs++cur.toList.drop (0 + 0 + cs.length)).toArray=cs.toArray:=by
    rw [List.drop_eq_nil_of_le (by simp;omega)];simp
  rw [e1] at hst
  cases hi:P.info? elem with
  | none=>simp [hi] at hs
  | some i =>
    have hsz:i.size=sz:=by simpa [hi] using hs
    cases q with
    | some a =>
      have hl:=run_loadCells_list (P:=P) w a cs (fun j v h=>by obtain ⟨a',h2,h3⟩:=hsrc j v h;cases h2;exact h3);rw [hn] at hl;simp [Builtin.copy_,run_underlying hu,Builtin.lenOf,Builtin.firstCells,sizeOf,typeInfo,hi,hsz,hl,hst]
    | none =>
      obtain rfl:=hq rfl;have hcs:cs=[]:=List.eq_nil_of_length_eq_zero (by simpa using hn);subst hcs;simp [Builtin.copy_,run_underlying hu,Builtin.lenOf,Builtin.firstCells,sizeOf,typeInfo,hi,hst]
theorem Bk2 {x y:Operand} {T e T0:TypeId} {g l cap c sz:Nat} {q:Option Addr} {cur cs:List Value} {news':Blks} (hx:rev r x=some (.slice (some ⟨g,0,none⟩) l cap)) (hy:rev r y=some (.slice q l c)) (hT:slB P T=some (e,sz)) (hq:q=none→l=0)
    (hu:Upd news g (.cells cur.toArray T0 (0,0)) (.cells cs.toArray T0 (0,0)) news') (hl:cs.length=l * sz) (hcur:cur.length=l * sz) (hsrc:∀ w,Mem W chg news w→∀ j v,cs[j]? = some v→∃ a,q=some a∧w.cell? (a.add j)=some v) (h1:∀ v∈cs,v.oneCell'=true) (hd:Nat.ble (d + 1) n=true)
    (h:RunL P ops Q n rest ((d,.int .i64 (l:Int))::r) ds W chg news') :
    RunL P ops Q n ({ dst:=some d,op:=.call { callee:=.builtin .copy,args:=#[x,y],argTypes:=#[T,T] },type:=ty,pos,after,guard:=none }::rest) r ds W chg news:=fun ac w st =>
  wpList_plain rfl fun K hK=>by
    have hb:=(st.mem.newd _ _ hu.mem).2
    obtain ⟨hu2,j,hj,hj1⟩:P.underlying T=some (.slice e)∧∃ j,P.info? e=some j∧j.size=sz:=by
      unfold slB at hT
      split at hT
      · rename_i e2 hu
        cases hj:P.info? e2 with
        | none=>simp [hj] at hT
        | some j =>
          simp [hj] at hT
          obtain ⟨rfl,hj1⟩:=hT;exact ⟨hu,j,hj,hj1⟩
      · cases hT
    have hrun:=Cg8 (P:=P) w T T ty e g l cap c sz q cur.toArray T0 cs hu2 (by rw [hj];simp [hj1]) hb hl (by simpa using hcur) hq (hsrc w st.mem) h1;unfold Oper.wp;simp [execOp,resolve,invoke,builtin,st.agree.eval hx,st.agree.eval hy,hrun,Result.andThen]
    refine hK _ _ (h _ _ ?_)
    have e2:goInt l = .int .i64 (l:Int):=rfl;rw [e2];have st2:=st.put (Nat.le_of_ble_eq_true hd) (.int .i64 (l:Int));exact ⟨st2.size,st2.agree,st2.defers,st.mem.upd_new hu rfl rfl rfl (by simp) (fun k _ hk=>setRow_other w g k _ hk) (setRow_heap w g cur.toArray cs.toArray T0 _ hb)⟩
theorem Cj9 {A B v:List Value} {j:Nat} {x:Value} (h:v[j]? = some x):(A++(v++B))[A.length + j]? = some x:=by
  rw [List.getElem?_append_right (by omega),Nat.add_sub_cancel_left,List.getElem?_append_left (List.getElem?_eq_some_iff.1 h).1];exact h
end
end Go.Eng
namespace Go.Dk
open Go Go.Eng Go.RowKit Go.Pw1 Go.Hp
theorem Ci4 {x:Eng.Own}:ownQ x=none→ownC x=0:=fun e=>by
  match x,e with
  | none,_=>rfl
theorem BO7 {sz:Nat} {b n:Nat} {xs:List Value} (h:xs.length=n * sz) (hn:n≤maxLen):OwnOk sz (some (b,n,[])) n xs:=⟨h,fun h=>(by cases h),fun b c r h2=>(by cases h2;exact ⟨Nat.le_refl _,hn,by rw [List.append_nil];exact h⟩)⟩
def BoX.cellsS (x:BoX):List Value:=x.a.cells
theorem Bu1 {α:Type} {f:α→List Value} {x vs:List α} {k:Nat} (hk:k < vs.length) {v:α} (hv:vs[k]=v):((x++vs.drop k).map f).flatten=(x.map f).flatten++(f v++((vs.drop (k + 1)).map f).flatten):=by
  subst hv;rw [List.drop_eq_getElem_cons hk,List.map_append,List.map_cons,List.flatten_append,List.flatten_cons]
abbrev CV (vs:List VwX):={ z:Eng.Own×List VwX // OwnOk 13 z.1 vs.length (z.2.map VwX.cells).flatten∧z.2.map VwX.pl=vs.map VwX.pl∧∀ x∈z.2,OwnOk 9 x.t x.p.things.length (x.p.things.map Th.cells).flatten }
abbrev CB (vs:List BoX):={ z:Eng.Own×List BoX // OwnOk 2 z.1 vs.length (z.2.map BoX.cells).flatten∧z.2.map BoX.pl=vs.map BoX.pl∧∀ x∈z.2,OwnOk 1 x.t x.titles.length (strsC x.titles) }
end Go.Dk
namespace Go.Proofs.YtnmkdiagbkkmaabGreatDoor
open Go Go.Eng Go.Dk Go.RowKit Go.Pw1 Go.Hp

abbrev rowsVwX (l:List VwX):Obj:=.cells (l.map VwX.cellsS).flatten.toArray 62 (0,0)
theorem AT8 (vb:Nat) (A B:List Value) (v:VwX) (rest:Blks) (W0 w:World) (hT:Sl W0 (ownQ v.t) (ownK v.t) 0 9 (v.p.things.map Th.cells)) (hl:v.p.things.length≤1000) (off:Nat) (ho:off=A.length) (hm0:Mem W0 [] ((vb,.cells (A++(v.cellsS++B)).toArray 62 (0,0))::(rest++[])) w) :
    Calls Tryz.prog 62 #[.pointer (some ⟨vb,off,none⟩)] w (Grow W0 [] (fun _:OC 9 v.p.things.length (v.p.things.map Th.cells).flatten=>.tuple #[]) (fun z=>(vb,.cells (A++(VwX.cellsS { v with t:=z.1 }++B)).toArray 62 (0,0))::(ownB 66 z.1 (v.p.things.map Th.cells).flatten++(rest++[]))) (fun _=>True)):=by
  subst ho;refine Af7 hm0 Tryz.func62 rfl rfl ?_;refine su ?_;refine lv (Ab0 rfl (fun w hm=>Ai6 AB8 (by rw [Ae1 (hm.at (.head _))];exact Cj9 (j:=7) (v:=v.cellsS) (x:=.slice (ownQ v.t) v.p.things.length (ownC v.t)) rfl))) ?_;refine Aq5 [(vb,_)] _ rfl (zF rfl Cp9) rfl rfl rfl (fun w hm=>AD6 v.p.things hl (ownQ v.t) (ownK v.t) 0 (ownC v.t) w (Sl.mono hT (by decide) hm (by simp)) Ci4) (fun z8=>?_)
  obtain ⟨y8,hy8⟩:=z8;dsimp only;refine su ?_;refine Aa9 (Sto.store (cs:=A++(v.cellsS++B)) (cs':=A++(VwX.cellsS { v with t:=y8 }++B)) rfl rfl .here AB8 rfl (AX9 (o:=7) (AM0 (o:=7) rfl))) rfl rfl ?_;refine st ?_;exact AG5 ⟨y8,hy8⟩ trivial (.r0 rfl) rfl (.cons .here rfl (Pick.refl _))
theorem AT6 (vs:List VwX) (hn:vs.length≤1000) (q:Option Addr) (b o cap:Nat) (W:World) (hS:Sl W q b o 13 (vs.map VwX.cellsS)) (hT:∀ v∈vs,Sl W (ownQ v.t) (ownK v.t) 0 9 (v.p.things.map Th.cells)) (hl:∀ v∈vs,v.p.things.length≤1000) :
    Calls Tryz.prog 61 #[.slice q vs.length cap,.func (.func 62) #[] #[]] W (News (fun z:CV vs=>.slice (ownQ z.1.1) vs.length (ownC z.1.1)) (fun z=>(ownB 62 z.1.1 (z.1.2.map VwX.cells).flatten++(z.1.2.map vwB).flatten)++[]) W):=by
  have hq:q=none→vs.length=0:=fun hq=>by
    cases vs with
    | nil=>rfl
    | cons v vs=>have:=hS.at' (by simp);rw [hq] at this;cases this
  have hfl:(vs.map VwX.cellsS).flatten.length=vs.length * 13:=Ak1 (f:=VwX.cellsS) (fun _=>rfl) vs;refine Aa0 Tryz.func61 rfl rfl ?_;refine su ?_;refine zn (AJ6 rfl rfl Dk9 BC6 (by omega) (by decide) (by decide)) (fun b9=>?_)
  refine Bk2 (cs:=(vs.map VwX.cellsS).flatten) rfl rfl AE4 hq .here hfl (by rw [Array.length_toList,size_madeCells]) (fun w hm=>(hS.mono (by decide) hm (by simp)).flat (by decide)) (AH7 (fun _=>rfl) _) rfl ?_;refine su ?_;refine Ah4 (X:=List VwX) (n0:=[]) (vs.length) (fun k x q=>(15,.int .i64 (k:Int))::q) (fun _ _=>_) (fun k x=>[(b9,rowsVwX (x++vs.drop k))]) (fun k x=>(x.map vwB).flatten++[]) (fun k x=>x.length=k∧x.map VwX.pl=(vs.take k).map VwX.pl∧∀ y∈x,OwnOk 9 y.t y.p.things.length (y.p.things.map Th.cells).flatten) [] ⟨rfl,rfl,fun y hy=>by cases hy⟩ rfl (zE 15 rfl rfl (zS 1 rfl (zS 5 rfl (zS 14 rfl (Sub.nil _))))) (.cons .here rfl (Pick.same rfl)) ?_;intro k x kN kI;obtain ⟨kI1,kI2,kI3⟩:=kI;refine st ?_;refine cn rfl ?_ ?_
  ·intro c0'
   have hk:k < vs.length:=by omega
   obtain ⟨v,hv⟩:∃ v,vs[k]=v:=⟨_,rfl⟩;refine st ?_;refine lv (Ab4 rfl rfl AE4 (by omega) (by omega)) ?_;refine Av8 (Ac5 rfl rfl Dh9) rfl rfl rfl (fun w hm=>(by have hm2:Mem W [] ((b9,.cells ((x.map VwX.cellsS).flatten++(VwX.cellsS v++((vs.drop (k + 1)).map VwX.cellsS).flatten)).toArray 62 (0,0))::((x.map vwB).flatten++[])) w:=(by rw [← Bu1 hk hv];exact hm);exact AT8 b9 ((x.map VwX.cellsS).flatten) (((vs.drop (k + 1)).map VwX.cellsS).flatten) v ((x.map vwB).flatten) W w (hT v (hv ▸ List.getElem_mem hk)) (hl v (hv ▸ List.getElem_mem hk)) _ (by rw [Ak1 (f:=VwX.cellsS) (sz:=13) (fun _=>rfl),kI1];simp) hm2)) (fun z22 hz22=>?_)
   obtain ⟨z22,hzz22⟩:=z22;dsimp only;refine st ?_;refine lv (Val.add rfl rfl (IntWalk.i64_in _ ⟨by omega,by omega⟩)) ?_;exact Ad5 (x++[{ v with t:=z22 }]) (by omega) ⟨by simp [kI1],by rw [List.map_append,kI2,List.take_succ_eq_append_getElem hk,List.map_append,hv];rfl,fun y hy=>by rcases List.mem_append.1 hy with hy | hy;exact kI3 y hy;rw [List.mem_singleton.1 hy];exact hzz22⟩ rfl (zE 15 rfl rfl (zS 1 rfl (zS 5 rfl (zS 14 rfl (Sub.nil _))))) (Pick.cnt fun x=>by simp only [nC,rowsVwX,vwB,Au3,List.append_assoc,List.map_append,List.map_cons,List.map_nil,List.flatten_append,List.flatten_cons,List.flatten_nil,List.append_nil];omega)
  intro c0';have hk:k=vs.length:=by omega
  refine RunC.exit ?_;refine su ?_;refine Ab1 ?_;refine su ?_;exact (by rw [hk,List.take_length] at kI2;rw [hk,List.drop_length,List.append_nil];have hxl:x.length=vs.length:=(by omega);have hcs:x.map VwX.cellsS=x.map VwX.cells:=List.map_congr_left (fun y hy=>(VwX.cells_eq (kI3 y hy)).symm);exact RunE.ret (chg:=[]) (.r1 rfl (.tmp rfl)) (fun _ hm=>⟨⟨(some (b9,vs.length,[]),x),BO7 (by rw [Ak1 (f:=VwX.cells) (sz:=13) (fun _=>rfl),hxl]) (by simp only [maxLen];omega),kI2,kI3⟩,rfl,hm.pick (Pick.cnt fun u=>by simp only [ownB,rowsVwX,hcs,List.append_nil,nC];omega)⟩))
abbrev rowsBoX (l:List BoX):Obj:=.cells (l.map BoX.cellsS).flatten.toArray 68 (0,0)
theorem AT9 (vb:Nat) (A B:List Value) (v:BoX) (rest:Blks) (W0 w:World) (hT:Sl W0 (ownQ v.t) (ownK v.t) 0 1 (v.titles.map strC)) (hl:v.titles.length≤1000) (off:Nat) (ho:off=A.length) (hm0:Mem W0 [] ((vb,.cells (A++(v.cellsS++B)).toArray 68 (0,0))::(rest++[])) w) :
    Calls Tryz.prog 64 #[.pointer (some ⟨vb,off,none⟩)] w (Grow W0 [] (fun _:OC 1 v.titles.length (v.titles.map strC).flatten=>.tuple #[]) (fun z=>(vb,.cells (A++(BoX.cellsS { v with t:=z.1 }++B)).toArray 68 (0,0))::(ownB 9 z.1 (v.titles.map strC).flatten++(rest++[]))) (fun _=>True)):=by
  subst ho;refine Af7 hm0 Tryz.func64 rfl rfl ?_;refine su ?_;refine lv (Ab0 rfl (fun w hm=>Ai6 Cz5 (by rw [Ae1 (hm.at (.head _))];exact Cj9 (j:=1) (v:=v.cellsS) (x:=.slice (ownQ v.t) v.titles.length (ownC v.t)) rfl))) ?_;refine Aq5 [(vb,_)] _ rfl (zF rfl CM8) rfl rfl rfl (fun w hm=>AN7 v.titles hl (ownQ v.t) (ownK v.t) 0 (ownC v.t) w (Sl.mono hT (by decide) hm (by simp)) Ci4) (fun z7=>?_)
  obtain ⟨y7,hy7⟩:=z7;dsimp only;refine su ?_;refine Aa9 (Sto.store (cs:=A++(v.cellsS++B)) (cs':=A++(BoX.cellsS { v with t:=y7 }++B)) rfl rfl .here Cz5 rfl (AX9 (o:=1) (AM0 (o:=1) rfl))) rfl rfl ?_;refine st ?_;exact AG5 ⟨y7,hy7⟩ trivial (.r0 rfl) rfl (.cons .here rfl (Pick.refl _))
theorem AT7 (vs:List BoX) (hn:vs.length≤1000) (q:Option Addr) (b o cap:Nat) (W:World) (hS:Sl W q b o 2 (vs.map BoX.cellsS)) (hT:∀ v∈vs,Sl W (ownQ v.t) (ownK v.t) 0 1 (v.titles.map strC)) (hl:∀ v∈vs,v.titles.length≤1000) :
    Calls Tryz.prog 63 #[.slice q vs.length cap,.func (.func 64) #[] #[]] W (News (fun z:CB vs=>.slice (ownQ z.1.1) vs.length (ownC z.1.1)) (fun z=>(ownB 68 z.1.1 (z.1.2.map BoX.cells).flatten++(z.1.2.map boB).flatten)++[]) W):=by
  have hq:q=none→vs.length=0:=fun hq=>by
    cases vs with
    | nil=>rfl
    | cons v vs=>have:=hS.at' (by simp);rw [hq] at this;cases this
  have hfl:(vs.map BoX.cellsS).flatten.length=vs.length * 2:=Ak1 (f:=BoX.cellsS) (fun _=>rfl) vs;refine Aa0 Tryz.func63 rfl rfl ?_;refine su ?_;refine zn (AJ6 rfl rfl Dk8 Bl0 (by omega) (by decide) (by decide)) (fun b9=>?_)
  refine Bk2 (cs:=(vs.map BoX.cellsS).flatten) rfl rfl Bd6 hq .here hfl (by rw [Array.length_toList,size_madeCells]) (fun w hm=>(hS.mono (by decide) hm (by simp)).flat (by decide)) (AH7 (fun _=>rfl) _) rfl ?_;refine su ?_;refine Ah4 (X:=List BoX) (n0:=[]) (vs.length) (fun k x q=>(15,.int .i64 (k:Int))::q) (fun _ _=>_) (fun k x=>[(b9,rowsBoX (x++vs.drop k))]) (fun k x=>(x.map boB).flatten++[]) (fun k x=>x.length=k∧x.map BoX.pl=(vs.take k).map BoX.pl∧∀ y∈x,OwnOk 1 y.t y.titles.length (strsC y.titles)) [] ⟨rfl,rfl,fun y hy=>by cases hy⟩ rfl (zE 15 rfl rfl (zS 1 rfl (zS 5 rfl (zS 14 rfl (Sub.nil _))))) (.cons .here rfl (Pick.same rfl)) ?_;intro k x kN kI;obtain ⟨kI1,kI2,kI3⟩:=kI;refine st ?_;refine cn rfl ?_ ?_
  ·intro c0'
   have hk:k < vs.length:=by omega
   obtain ⟨v,hv⟩:∃ v,vs[k]=v:=⟨_,rfl⟩;refine st ?_;refine lv (Ab4 rfl rfl Bd6 (by omega) (by omega)) ?_;refine Av8 (Ac5 rfl rfl Dh7) rfl rfl rfl (fun w hm=>(by have hm2:Mem W [] ((b9,.cells ((x.map BoX.cellsS).flatten++(BoX.cellsS v++((vs.drop (k + 1)).map BoX.cellsS).flatten)).toArray 68 (0,0))::((x.map boB).flatten++[])) w:=(by rw [← Bu1 hk hv];exact hm);exact AT9 b9 ((x.map BoX.cellsS).flatten) (((vs.drop (k + 1)).map BoX.cellsS).flatten) v ((x.map boB).flatten) W w (hT v (hv ▸ List.getElem_mem hk)) (hl v (hv ▸ List.getElem_mem hk)) _ (by rw [Ak1 (f:=BoX.cellsS) (sz:=2) (fun _=>rfl),kI1];simp) hm2)) (fun z22 hz22=>?_)
   obtain ⟨z22,hzz22⟩:=z22;dsimp only;refine st ?_;refine lv (Val.add rfl rfl (IntWalk.i64_in _ ⟨by omega,by omega⟩)) ?_;exact Ad5 (x++[{ v with t:=z22 }]) (by omega) ⟨by simp [kI1],by rw [List.map_append,kI2,List.take_succ_eq_append_getElem hk,List.map_append,hv];rfl,fun y hy=>by rcases List.mem_append.1 hy with hy | hy;exact kI3 y hy;rw [List.mem_singleton.1 hy];exact (by rw [Au3];exact hzz22)⟩ rfl (zE 15 rfl rfl (zS 1 rfl (zS 5 rfl (zS 14 rfl (Sub.nil _))))) (Pick.cnt fun x=>by simp only [nC,rowsBoX,boB,Au3,List.append_assoc,List.map_append,List.map_cons,List.map_nil,List.flatten_append,List.flatten_cons,List.flatten_nil,List.append_nil];omega)
  intro c0';have hk:k=vs.length:=by omega
  refine RunC.exit ?_;refine su ?_;refine Ab1 ?_;refine su ?_;exact (by rw [hk,List.take_length] at kI2;rw [hk,List.drop_length,List.append_nil];have hxl:x.length=vs.length:=(by omega);have hcs:x.map BoX.cellsS=x.map BoX.cells:=List.map_congr_left (fun y hy=>(BoX.cells_eq (kI3 y hy)).symm);exact RunE.ret (chg:=[]) (.r1 rfl (.tmp rfl)) (fun _ hm=>⟨⟨(some (b9,vs.length,[]),x),BO7 (by rw [Ak1 (f:=BoX.cells) (sz:=2) (fun _=>rfl),hxl]) (by simp only [maxLen];omega),kI2,kI3⟩,rfl,hm.pick (Pick.cnt fun u=>by simp only [ownB,rowsBoX,hcs,List.append_nil,nC];omega)⟩))
end Go.Proofs.YtnmkdiagbkkmaabGreatDoor
namespace Go.Proofs.YtnmkdiagbkkmaabGreatDoor
open Go Go.Eng
theorem CN4:Enters Tryz.prog 29:=Aa1 Tryz.func29 (by kernel_rfl) rfl
theorem CN3:Enters Tryz.prog 30:=Aa1 Tryz.func30 (by kernel_rfl) rfl
theorem Di0:Enters Tryz.prog 61:=Aa1 Tryz.func61 (by kernel_rfl) rfl
theorem Dh8:Enters Tryz.prog 63:=Aa1 Tryz.func63 (by kernel_rfl) rfl
theorem Dh6:Enters Tryz.prog 66:=Aa1 Tryz.func66 (by kernel_rfl) rfl
theorem CH1:fieldB Tryz.prog 43 0=some 0:=by kernel_rfl
instance:Fld Tryz.prog 43 0 0:=⟨CH1⟩
theorem CH0:fieldB Tryz.prog 43 1=some 1:=by kernel_rfl
instance:Fld Tryz.prog 43 1 1:=⟨CH0⟩
theorem Ch8:placesB Tryz.prog 41=some [(0,1),(1,1)]:=by kernel_rfl
theorem Bu7:placesB Tryz.prog 43=some [(0,1),(1,2)]:=by kernel_rfl
theorem Ch3:placesB Tryz.prog 86=some [(0,3),(3,17),(20,1)]:=by kernel_rfl
theorem Bl9:tyB Tryz.prog 43=some (true,3):=by kernel_rfl
instance:Tyc Tryz.prog 43 true 3:=⟨Bl9⟩
theorem Cd1:tyB Tryz.prog 84=some (true,3):=by kernel_rfl
instance:Tyc Tryz.prog 84 true 3:=⟨Cd1⟩
theorem CO7:zeroB Tryz.prog 41=some [.slice none 0 0,.slice none 0 0]:=by kernel_rfl
theorem AJ8:zeroB Tryz.prog 43=some [.slice none 0 0,.slice none 0 0,.slice none 0 0]:=by kernel_rfl
theorem Cb3:zeroB Tryz.prog 86=some [.slice none 0 0,.slice none 0 0,.slice none 0 0,.int .i64 0,.int .i64 0,.int .i64 0,.int .i64 0,.int .i64 0,.int .i64 0,.int .i64 0,.slice none 0 0,.int .i64 0,.int .i64 0,.int .i64 0,.int .i64 0,.int .i64 0,.int .i64 0,.int .i64 0,.int .i64 0,.int .i64 0,.bool false]:=by kernel_rfl
end Go.Proofs.YtnmkdiagbkkmaabGreatDoor
namespace Go.Dk
open Go Go.Eng Go.RowKit Go.Pw1 Go.Hp
abbrev CloneOf (d:DkX):={ z:DkX // DkOk z∧z.pl=d.pl }
theorem CL5 {d z:DkX} (h:z.pl=d.pl):z.vs.length=d.vs.length∧z.bs.length=d.bs.length∧z.cs=d.cs:=by
  unfold DkX.pl at h
  injection h with h1 h2
  injection h2 with h3 h4
  refine ⟨?_,?_,h4⟩
  · have:=congrArg List.length h1;simpa using this
  · have:=congrArg List.length h3;simpa using this
theorem CJ1 {d:DkX} (hd:DkOk d) (zv:CV d.vs) (zb:CB d.bs) (zc:OC 3 d.cs.length (d.cs.map Tn.cells).flatten):DkOk ⟨zv.1.1,zv.1.2,zb.1.1,zb.1.2,zc.1,d.cs⟩∧(DkX.pl ⟨zv.1.1,zv.1.2,zb.1.1,zb.1.2,zc.1,d.cs⟩)=d.pl:=by
  obtain ⟨⟨zv1,zv2⟩,v1,v2,v3⟩:=zv;obtain ⟨⟨zb1,zb2⟩,b1,b2,b3⟩:=zb;dsimp only at *;have lv:zv2.length=d.vs.length:=by have:=congrArg List.length v2;simpa using this
  have lb:zb2.length=d.bs.length:=by have:=congrArg List.length b2;simpa using this
  refine ⟨⟨by show OwnOk 13 zv1 zv2.length _;rw [lv];exact v1,v3,by show OwnOk 2 zb1 zb2.length _;rw [lb];exact b1,b3,zc.2,by have:=hd.few;show zv2.length≤4∧zb2.length≤4∧_;rw [lv,lb];exact this,fun x hx=>?_,fun x hx=>?_,hd.tx⟩,by unfold DkX.pl;rw [v2,b2]⟩
  · obtain ⟨y,hy,he⟩:=List.mem_map.1 (v2 ▸ List.mem_map_of_mem (f:=VwX.pl) hx)
    have:x.p=y.p:=congrArg Vw.p he.symm
    rw [this];exact hd.things y hy
  · obtain ⟨y,hy,he⟩:=List.mem_map.1 (b2 ▸ List.mem_map_of_mem (f:=BoX.pl) hx)
    have:x.titles=y.titles:=congrArg Bx.titles he.symm
    rw [this];exact hd.ti y hy
theorem AC4 (a b e:Value) (ha:isOne a=true) (hb:isOne b=true) (he:isOne e=true):paste [.slice none 0 0,.slice none 0 0,.slice none 0 0] 0 (cellsL (.agg [a,b,e].toArray))=some [a,b,e]:=by
  show pasteN _ [a,b,e]=_
  simp only [pasteN,ha,hb,he]
def noDk:DkX:=⟨none,[],none,[],none,[]⟩
theorem BF5:DkOk noDk:=⟨OwnOk.start,fun x hx=>(by cases hx),OwnOk.start,fun x hx=>(by cases hx),OwnOk.start,⟨by decide,by decide,by decide⟩,fun x hx=>(by cases hx),fun x hx=>(by cases hx),fun x hx=>(by cases hx)⟩
end Go.Dk
namespace Go.Proofs.YtnmkdiagbkkmaabGreatDoor
open Go Go.Eng Go.Dk Go.RowKit Go.Pw1 Go.Hp

abbrev cvB (z:Eng.Own×List VwX):Blks:=ownB 62 z.1 (z.2.map VwX.cells).flatten++(z.2.map vwB).flatten
abbrev cbB (z:Eng.Own×List BoX):Blks:=ownB 68 z.1 (z.2.map BoX.cells).flatten++(z.2.map boB).flatten
abbrev benV (d:DkX):Value:=.agg [ownV d.v d.vs.length,ownV d.b d.bs.length,ownV d.c d.cs.length].toArray
theorem AN5 (d:DkX) (hd:DkOk d) (W:World) (hv:Sl W (ownQ d.v) (ownK d.v) 0 13 (d.vs.map VwX.cellsS)) (ht:∀ x∈d.vs,Sl W (ownQ x.t) (ownK x.t) 0 9 (x.p.things.map Th.cells)) (hm:MOk W d.mx) :
    Calls Tryz.prog 30 #[.agg [.slice (ownQ d.v) d.vs.length (ownC d.v),.slice (ownQ d.b) d.bs.length (ownC d.b),.slice (ownQ d.c) d.cs.length (ownC d.c)].toArray] W (News (fun z:CloneOf d=>benV z.1) (fun z=>dkB z.1++[]) W):=by
  have hfew:=hd.few
  have hb:Sl W (ownQ d.b) (ownK d.b) 0 2 (d.bs.map BoX.cellsS):=by
    have h:=hm.bx;unfold DkX.mx at h;dsimp only at h;rw [List.map_map] at h;exact h
  have hbt:∀ x∈d.bs,Sl W (ownQ x.t) (ownK x.t) 0 1 (x.titles.map strC):=fun x hx=>hm.ti x.a (List.mem_map_of_mem hx)
  have hc:Sl W (ownQ d.c) (ownK d.c) 0 3 (d.cs.map Tn.cells):=hm.cd;refine Aa0 Tryz.func30 rfl rfl ?_;refine st ?_;refine zn (New.box rfl) (fun b1=>?_)
  refine zn (New.alloc AJ8) (fun b2=>?_)
  refine Ao6 (X:=(CV d.vs×CB d.bs)×OC 3 d.cs.length (d.cs.map Tn.cells).flatten) 10 (n0:=[]) (fun z q=>q) (fun z=>[]) (fun z=>[(b2,.cells [.slice (ownQ z.1.1.1.1) d.vs.length (ownC z.1.1.1.1),.slice (ownQ z.1.2.1.1) d.bs.length (ownC z.1.2.1.1),.slice (ownQ z.2.1) d.cs.length (ownC z.2.1)].toArray 43 (0,0))]) (fun z=>cvB z.1.1.1++(cbB z.1.2.1++(ownB 70 z.2.1 (d.cs.map Tn.cells).flatten++[]))) (fun z=>True) Aj3 (.cons .here rfl (.cons .here rfl .nil)) (zS 2 rfl (Sub.nil _)) .nil ?_ ?_
  ·refine zw 0 ?_
   refine zw 1 ?_;refine zw 3 ?_;refine zw 4 ?_;refine zw 5 ?_;refine zw 7 ?_;refine zw 8 ?_;refine zw 9 ?_;refine zA 2 ?_;refine Ax4 [(b2,_),(b1,_)] _ rfl rfl (zF rfl Di0) rfl rfl rfl (fun w hm=>AT6 d.vs (by omega) (ownQ d.v) (ownK d.v) 0 (ownC d.v) w (hv.mono (by decide) hm (by simp)) (fun x hx=>(ht x hx).mono (by decide) hm (by simp)) (fun x hx=>Nat.le_trans (hd.things x hx) (by decide))) (fun z5=>(Aa7 (.cons .here rfl (.cons .here rfl .nil)) (.cons .here rfl (.cons .here rfl .nil)) rfl ?_))
   skip
   refine zA 6 ?_;refine Ax4 [(b2,_),(b1,_)] _ rfl rfl (zF rfl Dh8) rfl rfl rfl (fun w hm=>AT7 d.bs (by omega) (ownQ d.b) (ownK d.b) 0 (ownC d.b) w (hb.mono (by decide) hm (by simp)) (fun x hx=>(hbt x hx).mono (by decide) hm (by simp)) (fun x hx=>(hd.ti x hx).1)) (fun z9=>(Aa7 (.cons .here rfl (.cons .here rfl .nil)) (.cons .here rfl (.cons .here rfl .nil)) rfl ?_))
   skip
   refine zt ?_;refine zB 10 ?_;refine Ax4 [(b2,_),(b1,_)] _ rfl rfl (zF rfl Dh6) rfl rfl rfl (fun w hm=>Bq3 d.cs (by omega) (ownQ d.c) (ownK d.c) 0 (ownC d.c) w (hc.mono (by decide) hm (by simp)) Ci4) (fun z13=>(Ab9 ?_))
   skip
   refine zo 11 rfl (Val.build (parts:=[(0,.tmp 9),(1,.tmp 13)]) rfl CO7 Ch8 rfl) ?_;refine zo 12 rfl (Val.build (parts:=[(0,.tmp 5),(1,.tmp 14)]) rfl AJ8 Bu7 rfl) ?_;refine zB 13 ?_;refine Ac0 rfl (Sto.store rfl rfl .here Bl9 rfl rfl) rfl rfl (Ab9 ?_)
   refine zd ?_;exact Ai5 ((z5,z9),z13) trivial rfl (zS 2 rfl (Sub.nil _)) (.cons .here rfl (Pick.cnt fun x=>by simp only [nC];omega))
  intro z zI;refine su ?_;exact (by obtain ⟨hk1,hk2⟩:=CJ1 hd z.1.1 z.1.2 z.2;obtain ⟨hl1,hl2,-⟩:=CL5 hk2;exact RunE.ret (chg:=[]) (.r1 rfl (.agg rfl (.head _) Bl9 rfl)) (fun _ hm=>⟨⟨⟨z.1.1.1.1,z.1.1.1.2,z.1.2.1.1,z.1.2.1.2,z.2.1,d.cs⟩,hk1,hk2⟩,(by show Ending.returned _=Ending.returned (benV _);unfold benV;rw [Ad9 hk1.v,Ad9 hk1.b,Ad9 hk1.c,hl1,hl2]),hm.pick (Pick.cnt fun x=>by simp only [dkB,cvB,cbB,nC];omega)⟩))
theorem Bz6 (xb:Nat) (d:DkX) (c:Cd) (hd:DkOk d) (W:World) (hD:DkA W xb d c):Calls Tryz.prog 30 #[benV d] W (News (fun z:CloneOf d=>benV z.1) (fun z=>dkB z.1++[]) W):=by
  have h:=AN5 d hd W hD.v hD.t hD.m
  have e:benV d = .agg [.slice (ownQ d.v) d.vs.length (ownC d.v),.slice (ownQ d.b) d.bs.length (ownC d.b),.slice (ownQ d.c) d.cs.length (ownC d.c)].toArray:=by
    unfold benV;rw [Ad9 hd.v,Ad9 hd.b,Ad9 hd.c]
  rw [e];exact h
theorem Cw6 (W:World):Calls Tryz.prog 11 #[.pointer none] W (Pure (.agg [.slice none 0 0,.slice none 0 0,.slice none 0 0].toArray) W):=by
  have hund:Tryz.prog.underlying 33=some (.pointer 86):=by kernel_rfl
  refine Aa0 Tryz.func11 rfl rfl ?_;refine st ?_;refine zn (New.alloc AJ8) (fun b2=>?_)
  refine lv (Ak3 rfl hund) ?_;refine RunC.cond rfl ?_ (fun h=>absurd h (by simp))
  intro c0;clear c0;refine st ?_;refine lv (Val.build (parts:=[]) rfl AJ8 Bu7 rfl) ?_;refine Aa9 (Sto.store rfl rfl .here Bl9 rfl rfl) rfl rfl ?_;refine su ?_;exact Aa4 (.r1 rfl (.agg rfl (.head _) Bl9 rfl)) (by first | rfl | simp)
theorem Dl4 (c:Cd) (q:Option Addr) (b o cap:Nat) (W:World) (hS:Sl W q b o 9 (c.p.things.map Th.cells)) (hq:q=none→cap=0) (hl:c.p.things.length≤1000) (hc:cardIs c=false):Calls Tryz.prog 10 #[c.v q cap] W (Pure (.tuple #[.pointer none,.int .i64 1]) W):=by
  have hs:=(BN8 c).2 hc;refine Aa0 Tryz.func10 rfl rfl ?_;refine st ?_;refine zn (New.box rfl) (fun b1=>?_)
  refine Ah9 (zF rfl Cp9) rfl rfl rfl (fun w hm=>AD6 c.p.things hl q b o cap w (hS.mono (by decide) hm (by simp)) hq) (fun z9=>?_)
  obtain ⟨y9,hy9⟩:=z9;dsimp only;refine su ?_;refine Aa9 (Sto.store rfl rfl .here AB8 rfl rfl) rfl rfl ?_;refine su ?_;refine zc (zF rfl CN4) (fun w hm=>Bk0 c (ownQ y9) (ownK y9) 0 (ownC y9) w (Ar5 (f:=Th.cells) (e:=66) (fun _=>rfl) (by decide) hy9 (fun b o h=>hm.at (.tail _ ((by first | exact List.mem_append_left _ h | exact List.mem_append_right _ (List.mem_append_left _ h)))))) (by omega)) ?_;refine RunC.cond rfl ?_ (fun h=>absurd h (by simp [hs]))
  intro c0;clear c0;refine su ?_;exact Aa4 (.r2 rfl (.tmp rfl) (.tmp rfl)) (by first | rfl | simp)
theorem Dl3 (c:Cd) (q:Option Addr) (b o cap:Nat) (W:World) (hS:Sl W q b o 9 (c.p.things.map Th.cells)) (hq:q=none→cap=0) (hl:c.p.things.length≤1000) (hc:cardIs c=true):Calls Tryz.prog 10 #[c.v q cap] W (News (fun xb:Nat=>.tuple #[pV xb,.int .i64 0]) (fun xb=>dkM xb noDk c []++[]) W):=by
  have hs:¬ (seenX c).2=1:=fun h=>by rw [(BN8 c).1 h] at hc;cases hc
  refine Aa0 Tryz.func10 rfl rfl ?_;refine st ?_;refine zn (New.box rfl) (fun b1=>?_)
  refine Ah9 (zF rfl Cp9) rfl rfl rfl (fun w hm=>AD6 c.p.things hl q b o cap w (hS.mono (by decide) hm (by simp)) hq) (fun z9=>?_)
  obtain ⟨y9,hy9⟩:=z9;dsimp only;refine su ?_;refine Aa9 (Sto.store rfl rfl .here AB8 rfl rfl) rfl rfl ?_;refine su ?_;refine zc (zF rfl CN4) (fun w hm=>Bk0 c (ownQ y9) (ownK y9) 0 (ownC y9) w (Ar5 (f:=Th.cells) (e:=66) (fun _=>rfl) (by decide) hy9 (fun b o h=>hm.at (.tail _ ((by first | exact List.mem_append_left _ h | exact List.mem_append_right _ (List.mem_append_left _ h)))))) (by omega)) ?_;refine RunC.cond rfl (fun h=>absurd h (by simpa using hs)) ?_;intro c0;clear c0;refine su ?_;refine Aa9 (Sto.store rfl rfl .here AB8 rfl rfl) rfl rfl ?_;refine su ?_;refine lv (Val.build (parts:=[(1,.tmp 21),(2,.const (.bool true))]) rfl Cb3 Ch3 rfl) ?_;refine zn (New.box rfl) (fun b23=>?_)
  exact RunE.ret (chg:=[]) (.r2 rfl (.tmp rfl) (.tmp rfl)) (fun _ hm=>⟨b23,rfl,hm.pick (.cons .here rfl .nil)⟩)
end Go.Proofs.YtnmkdiagbkkmaabGreatDoor
namespace Go.Proofs.YtnmkdiagbkkmaabGreatDoor
open Go Go.Eng
theorem Dg9:Enters Tryz.prog 72:=Aa1 Tryz.func72 (by kernel_rfl) rfl
theorem Dg8:Enters Tryz.prog 73:=Aa1 Tryz.func73 (by kernel_rfl) rfl
theorem Dg7:Enters Tryz.prog 74:=Aa1 Tryz.func74 (by kernel_rfl) rfl
theorem Dg6:Enters Tryz.prog 75:=Aa1 Tryz.func75 (by kernel_rfl) rfl
theorem Dg5:Enters Tryz.prog 76:=Aa1 Tryz.func76 (by kernel_rfl) rfl
theorem Dg4:Enters Tryz.prog 77:=Aa1 Tryz.func77 (by kernel_rfl) rfl
theorem Dg3:Enters Tryz.prog 78:=Aa1 Tryz.func78 (by kernel_rfl) rfl
theorem Dg2:Enters Tryz.prog 79:=Aa1 Tryz.func79 (by kernel_rfl) rfl
theorem Dg1:Enters Tryz.prog 80:=Aa1 Tryz.func80 (by kernel_rfl) rfl
theorem Dg0:Enters Tryz.prog 81:=Aa1 Tryz.func81 (by kernel_rfl) rfl
theorem Df9:Enters Tryz.prog 82:=Aa1 Tryz.func82 (by kernel_rfl) rfl
theorem Df8:Enters Tryz.prog 83:=Aa1 Tryz.func83 (by kernel_rfl) rfl
theorem Df7:Enters Tryz.prog 84:=Aa1 Tryz.func84 (by kernel_rfl) rfl
theorem Ai1:mapSB Tryz.prog 107=some 105:=by kernel_rfl
theorem Ai4:placesB Tryz.prog 105=some [(0,1),(1,1),(2,1)]:=by kernel_rfl
theorem Aj4:zeroB Tryz.prog 105=some [.int .i64 0,.bool false,.nilFunc]:=by kernel_rfl
end Go.Proofs.YtnmkdiagbkkmaabGreatDoor
namespace Go.Dk
open Go Go.Eng Go.RowKit Go.Pw1 Go.Hp
theorem CI1 {b b':Bn} {r:Str} {i k:Nat} (h:farD b i k = .ok (b',r)):b'=b:=by
  unfold farD at h;dsimp only at h;split at h
  · cases h
  · split at h
    · cases h;rfl
    · cases h
theorem BW4 {b b':Bn} {r:Str} {i:Nat} (h:movedD b i = .ok (b',r)):b'=b:=by
  unfold movedD at h;dsimp only at h;split at h
  · cases h;rfl
  · cases h
theorem Bh9 {c:Cd} {b b':Bn} {r:Str} {i:Nat} {t:Tr} (h:hurtsD c b i t = .ok (b',r)):b'=b:=by
  unfold hurtsD at h;dsimp only at h;split at h
  · cases h;rfl
  · split at h
    · cases h;rfl
    · cases h
theorem Cs9 {c:Cd} {b b':Bn} {r:Str} {i:Nat} (h:deepD c b i = .ok (b',r)):b'=b:=by
  unfold deepD at h;dsimp only at h;split at h
  · cases h
  · split at h
    · cases h;rfl
    · cases h
theorem Cb9 {b b':Bn} {r:Str} (h:waysD b = .ok (b',r)):b'=b:=by
  unfold waysD at h;split at h
  · cases h;rfl
  · cases h
theorem BS6 {b b':Bn} {r:Str} {k:Nat} (h:whichD b k = .ok (b',r)):b'=b:=by
  unfold whichD at h;split at h
  · cases h
  · split at h
    · cases h
    · cases h;rfl
theorem AF4 {l:List Int} (h:∀ n∈l,0≤n∧n≤9223372036854775807) {a:Int} (ha:a∈l):∃ i:Nat,a=(i:Int):=Int.eq_ofNat_of_zero_le (h a ha).1
end Go.Dk
namespace Go.Proofs.YtnmkdiagbkkmaabGreatDoor
open Go Go.Eng Go.Dk Go.RowKit Go.Pw1 Go.Hp

theorem Al0 {f:FuncId} {args:Array Value} {W0 w:World} {xb:Nat} {c:Cd} {ans:Ans} {A rest:Blks} (h:Calls Tryz.prog f args w (VerbT W0 xb c ans (A++rest))):Calls Tryz.prog f args w (VerbT W0 xb c ans rest) :=
  AP4 h (fun b=>Pick.cnt fun x=>by simp only [dkM,List.count_cons,List.count_append,List.count_nil];omega) (fun b=>Pick.cnt fun x=>by simp only [List.count_cons,List.count_append,List.count_nil];omega)
def NumSpec (gf:FuncId) (vb:Vb):Prop:=∀ (xb:Nat) (d:DkX) (c:Cd) (z:Eng.Own) (ns:List Int) (rest:Blks) (W0 w:World),Lw Tryz.prog W0→DkOk d→OwnOk 1 z ns.length (ns.map intC).flatten→ns.length=vb.many→(∀ n∈ns,0≤n∧n≤9223372036854775807) →
  (vb.about=true→N ns 0 < d.vs.length)→Mem W0 [] (dkM xb d c (nuB (z,ns)++(rest++[]))) w→Calls Tryz.prog gf #[pV xb,.slice none 0 0,.slice (ownQ z) ns.length (ownC z)] w (VerbT W0 xb c (vb.does (bareC c) d.pl ns) rest)
theorem Cj8 {W0 w:World} {xb:Nat} {d:DkX} {c:Cd} {z:Eng.Own} {ns:List Int} {rest:Blks} (hz:OwnOk 1 z ns.length (ns.map intC).flatten) (hm:Mem W0 [] (dkM xb d c (nuB (z,ns)++(rest++[]))) w):Sl w (ownQ z) (ownK z) 0 1 (ns.map intC) :=
  Ar5 (f:=intC) (e:=3) (fun _=>rfl) (by decide) hz (fun b o h=>(hm.newd b o (.tail _ (List.mem_append_right _ (List.mem_append_left _ h)))).2)
theorem AY7 {W0 w:World} {xb:Nat} {d:DkX} {c:Cd} {z:Eng.Own} {ns:List Int} {rest:Blks} (hm:Mem W0 [] (dkM xb d c (nuB (z,ns)++(rest++[]))) w):Mem W0 [] (dkM xb d c ((nuB (z,ns)++rest)++[])) w:=by rw [List.append_assoc];exact hm
theorem CQ2:NumSpec 75 ⟨2,true,fun _ b n=>farD b (N n 0) (N n 1)⟩:=by
  intro xb d c z ns rest W0 w hL hd hz hl hp hab hm
  match ns,hl with
  | [a0,a1],_ =>
    obtain ⟨i,rfl⟩:=AF4 hp (a:=a0) (by simp);obtain ⟨k,rfl⟩:=AF4 hp (a:=a1) (by simp);exact Al0 (Ap8 hd (AY7 hm) (BY9 xb d c w (hL.mono hm.zero) (An9 hd hm) i k (hab rfl) _ (ownQ z) (ownK z) 0 (ownC z) (Cj8 hz hm)) (fun b r h=>CI1 h))
theorem Cf3:NumSpec 76 ⟨1,true,fun _ b n=>movedD b (N n 0)⟩:=by
  intro xb d c z ns rest W0 w hL hd hz hl hp hab hm
  match ns,hl with
  | [a0],_ =>
    obtain ⟨i,rfl⟩:=AF4 hp (a:=a0) (by simp);exact Al0 (Ap8 hd (AY7 hm) (Bz4 xb d c w (hL.mono hm.zero) (An9 hd hm) i (hab rfl) _ (ownQ z) (ownK z) 0 (ownC z) (Cj8 hz hm)) (fun b r h=>BW4 h))
theorem Cf4:NumSpec 77 ⟨5,true,fun c b n=>hurtsD c b (N n 0) ⟨n.getD 1 0,n.getD 2 0,n.getD 3 0,n.getD 4 0⟩⟩:=by
  intro xb d c z ns rest W0 w hL hd hz hl hp hab hm
  match ns,hl with
  | [a0,a1,a2,a3,a4],_ =>
    obtain ⟨i,rfl⟩:=AF4 hp (a:=a0) (by simp);exact Al0 (Ap8 hd (AY7 hm) (Bz5 xb d c w (hL.mono hm.zero) (An9 hd hm) i a1 a2 a3 a4 (hab rfl) _ (ownQ z) (ownK z) 0 (ownC z) (Cj8 hz hm)) (fun b r h=>Bh9 h))
theorem CB3:NumSpec 79 ⟨1,true,fun c b n=>deepD c b (N n 0)⟩:=by
  intro xb d c z ns rest W0 w hL hd hz hl hp hab hm
  match ns,hl with
  | [a0],_ =>
    obtain ⟨i,rfl⟩:=AF4 hp (a:=a0) (by simp);exact Al0 (Ap8 hd (AY7 hm) (BJ8 xb d c w (hL.mono hm.zero) (An9 hd hm) i (hab rfl) _ (ownQ z) (ownK z) 0 (ownC z) (Cj8 hz hm)) (fun b r h=>Cs9 h))
theorem CA8:NumSpec 83 ⟨0,false,fun _ b _=>waysD b⟩:=by
  intro xb d c z ns rest W0 w hL hd hz hl hp hab hm;exact Al0 (Ap8 hd (AY7 hm) (BJ1 xb d c w (hL.mono hm.zero) (An9 hd hm) _ _) (fun b r h=>Cb9 h))
theorem Cf1:NumSpec 84 ⟨1,false,fun _ b n=>whichD b (N n 0)⟩:=by
  intro xb d c z ns rest W0 w hL hd hz hl hp hab hm
  match ns,hl with
  | [a0],_ =>
    obtain ⟨i,rfl⟩:=AF4 hp (a:=a0) (by simp);exact Al0 (Ap8 hd (AY7 hm) (Bz1 xb d c w (hL.mono hm.zero) (An9 hd hm) i _ (ownQ z) (ownK z) 0 (ownC z) (Cj8 hz hm)) (fun b r h=>BS6 h))
theorem CA9:NumSpec 72 ⟨0,false,fun c b _=>viewD c b⟩:=by
  intro xb d c z ns rest W0 w hL hd hz hl hp hab hm;exact Al0 (BY4 xb d c (nuB (z,ns)++rest) W0 w hL hd _ _ (AY7 hm))
theorem CB0:NumSpec 78 ⟨1,true,fun c b n=>trimD c b (N n 0)⟩:=by
  intro xb d c z ns rest W0 w hL hd hz hl hp hab hm
  match ns,hl with
  | [a0],_ =>
    obtain ⟨i,rfl⟩:=AF4 hp (a:=a0) (by simp);have hi:=hab rfl;obtain ⟨dv,vs,db,bs0,dc,cs⟩:=d;obtain ⟨vb,vc,vr,e1,-⟩:=hd.v.has (Nat.lt_of_le_of_lt (Nat.zero_le _) hi);dsimp only at e1;subst e1;obtain ⟨nb,nc,nr,rfl,-⟩:=hz.has (by simp);exact BY5 xb vb vc vr vs db bs0 dc cs c nb nc nr _ rest W0 w hL hd i hi hm
theorem CQ1:NumSpec 80 ⟨1,true,fun _ b n=>offD b (N n 0)⟩:=by
  intro xb d c z ns rest W0 w hL hd hz hl hp hab hm
  match ns,hl with
  | [a0],_ =>
    obtain ⟨i,rfl⟩:=AF4 hp (a:=a0) (by simp);have hi:=hab rfl;obtain ⟨dv,vs,db,bs0,dc,cs⟩:=d;obtain ⟨vb,vc,vr,e1,-⟩:=hd.v.has (Nat.lt_of_le_of_lt (Nat.zero_le _) hi);dsimp only at e1;subst e1;obtain ⟨nb,nc,nr,rfl,-⟩:=hz.has (by simp);exact Cs7 xb vb vc vr vs db bs0 dc cs c nb nc nr _ rest W0 w hL hd i hi hm
theorem CB2:NumSpec 74 ⟨3,true,fun _ b n=>markD b (N n 0) (N n 1) (n.getD 2 0)⟩:=by
  intro xb d c z ns rest W0 w hL hd hz hl hp hab hm
  match ns,hl with
  | [a0,a1,a2],_ =>
    obtain ⟨i,rfl⟩:=AF4 hp (a:=a0) (by simp);obtain ⟨k,rfl⟩:=AF4 hp (a:=a1) (by simp);have hi:=hab rfl;obtain ⟨dv,vs,db,bs0,dc,cs⟩:=d;obtain ⟨vb,vc,vr,e1,-⟩:=hd.v.has (Nat.lt_of_le_of_lt (Nat.zero_le _) hi);dsimp only at e1;subst e1;obtain ⟨nb,nc,nr,rfl,-⟩:=hz.has (by simp);exact BY7 xb vb vc vr vs db bs0 dc cs c nb nc nr _ rest W0 w hL hd i k a2 hi hm
theorem Cf2:NumSpec 73 ⟨5,true,fun _ b n=>thingD b (N n 0) (n.getD 1 0) (n.getD 2 0) (n.getD 3 0) (n.getD 4 0)⟩:=by
  intro xb d c z ns rest W0 w hL hd hz hl hp hab hm
  match ns,hl with
  | [a0,a1,a2,a3,a4],_ =>
    obtain ⟨i,rfl⟩:=AF4 hp (a:=a0) (by simp);have hi:=hab rfl;obtain ⟨dv,vs,db,bs0,dc,cs⟩:=d;obtain ⟨vb,vc,vr,e1,-⟩:=hd.v.has (Nat.lt_of_le_of_lt (Nat.zero_le _) hi);dsimp only at e1;subst e1;obtain ⟨nb,nc,nr,rfl,-⟩:=hz.has (by simp);exact BJ2 xb vb vc vr vs db bs0 dc cs c nb nc nr _ rest W0 w hL hd i a1 a2 a3 a4 hi hm
def WordSpec (gf:FuncId) (does:Bn→List Str→Ans):Prop:=∀ (xb:Nat) (d:DkX) (c:Cd) (x:Str) (ws:List Str) (r:List Value) (sb cap:Nat) (q:Option Addr) (rest:Blks) (W0 w:World),Lw Tryz.prog W0→DkOk d→ws.length≤cap→ws.length≤1000→(∀ s∈ws,s.length≤100000) →
  (ws ≠ []→q=some ⟨sb,1,none⟩)→Mem W0 [] (dkM xb d c ((sb,sbO (x::ws) r)::(rest++[]))) w→Calls Tryz.prog gf #[pV xb,.slice q ws.length cap,.slice none 0 0] w (VerbT W0 xb c (does d.pl ws) rest)
theorem CQ3:WordSpec 81 boxD:=by
  intro xb d c x ws r sb cap q rest W0 w hL hd hcap hl hs hq hm
  match ws,hcap,hl,hs,hq,hm with
  | [],_,_,_,_,hm=>exact Al0 (A:=[(sb,_)]) (Bi9 xb d c ((sb,_)::rest) W0 w hL hd [] (by simp) q cap _ hm)
  | [y],_,_,_,_,hm=>exact Al0 (A:=[(sb,_)]) (Bi9 xb d c ((sb,_)::rest) W0 w hL hd [y] (by simp) q cap _ hm)
  | y::t0::ts,hcap,hl,hs,hq,hm =>
    obtain rfl:=hq (by simp);exact Ct3 xb d c rest W0 w hL hd x y t0 ts r sb cap _ hcap hl hs hm
theorem CB1:WordSpec 82 cardD:=by
  intro xb d c x ws r sb cap q rest W0 w hL hd hcap hl hs hq hm
  by_cases h3:ws.length=3
  · match ws,h3,hcap,hs,hq,hm with
    | [y0,y1,y2],_,hcap,hs,hq,hm =>
      obtain rfl:=hq (by simp)
      by_cases hw:waysE d.mx.pl=0
      · exact BY6 xb d c rest W0 w hL hd hw x y0 y1 y2 r sb cap _ hcap hs hm
      · exact BJ3 xb d c rest W0 w hL hd hw x y0 y1 y2 r sb cap _ hcap hs hm
  · exact Al0 (A:=[(sb,_)]) (BJ4 xb d c ((sb,_)::rest) W0 w hL hd ws h3 q cap _ hm)
abbrev fnV (f:FuncId):Value:=.func (.func f) #[] #[]
abbrev vbV (m:Int) (ab:Bool) (f:Value):Value:=.agg #[.int .i64 m,.bool ab,f]
def verbsL:List (Str×Value):=[(wView,vbV 0 false (fnV 72)),(wThing,vbV 5 true (fnV 73)),(wMark,vbV 3 true (fnV 74)),(wFar,vbV 2 true (fnV 75)),(wMoved,vbV 1 true (fnV 76)),(wHurts,vbV 5 true (fnV 77)),
  (wTrim,vbV 1 true (fnV 78)),(wDeep,vbV 1 true (fnV 79)),(wOff,vbV 1 true (fnV 80)),(wBox,vbV (-1) false (fnV 81)),(wCard,vbV (-1) false (fnV 82)),(wWays,vbV 0 false (fnV 83)),(wWhich,vbV 1 false (fnV 84))]
theorem AW3 (W:World):Calls Tryz.prog 35 #[] W (News (fun b:Nat=>.map (some b)) (fun b=>[(b,mapS verbsL)]) W):=by
  refine Aa0 Tryz.func35 rfl rfl ?_;refine st ?_;refine zn BC4 (fun b1=>?_)
  refine lv (Val.build (parts:=[(0,.const (.int .i64 0)),(1,.const (.bool false)),(2,.func 72)]) rfl Aj4 Ai4 rfl) ?_;refine Aa9 (Am6 rfl rfl rfl .here Ai1 (by decide)) rfl rfl ?_;refine lv (Val.build (parts:=[(0,.const (.int .i64 5)),(1,.const (.bool true)),(2,.func 73)]) rfl Aj4 Ai4 rfl) ?_;refine Aa9 (Am6 rfl rfl rfl .here Ai1 (by decide)) rfl rfl ?_;refine lv (Val.build (parts:=[(0,.const (.int .i64 3)),(1,.const (.bool true)),(2,.func 74)]) rfl Aj4 Ai4 rfl) ?_;refine Aa9 (Am6 rfl rfl rfl .here Ai1 (by decide)) rfl rfl ?_;refine lv (Val.build (parts:=[(0,.const (.int .i64 2)),(1,.const (.bool true)),(2,.func 75)]) rfl Aj4 Ai4 rfl) ?_;refine Aa9 (Am6 rfl rfl rfl .here Ai1 (by decide)) rfl rfl ?_;refine lv (Val.build (parts:=[(0,.const (.int .i64 1)),(1,.const (.bool true)),(2,.func 76)]) rfl Aj4 Ai4 rfl) ?_;refine Aa9 (Am6 rfl rfl rfl .here Ai1 (by decide)) rfl rfl ?_;refine lv (Val.build (parts:=[(0,.const (.int .i64 5)),(1,.const (.bool true)),(2,.func 77)]) rfl Aj4 Ai4 rfl) ?_;refine Aa9 (Am6 rfl rfl rfl .here Ai1 (by decide)) rfl rfl ?_;refine lv (Val.build (parts:=[(0,.const (.int .i64 1)),(1,.const (.bool true)),(2,.func 78)]) rfl Aj4 Ai4 rfl) ?_;refine Aa9 (Am6 rfl rfl rfl .here Ai1 (by decide)) rfl rfl ?_;refine lv (Val.build (parts:=[(0,.const (.int .i64 1)),(1,.const (.bool true)),(2,.func 79)]) rfl Aj4 Ai4 rfl) ?_;refine Aa9 (Am6 rfl rfl rfl .here Ai1 (by decide)) rfl rfl ?_;refine lv (Val.build (parts:=[(0,.const (.int .i64 1)),(1,.const (.bool true)),(2,.func 80)]) rfl Aj4 Ai4 rfl) ?_;refine Aa9 (Am6 rfl rfl rfl .here Ai1 (by decide)) rfl rfl ?_;refine lv (Val.build (parts:=[(0,.const (.int .i64 (-1))),(1,.const (.bool false)),(2,.func 81)]) rfl Aj4 Ai4 rfl) ?_;refine Aa9 (Am6 rfl rfl rfl .here Ai1 (by decide)) rfl rfl ?_;refine lv (Val.build (parts:=[(0,.const (.int .i64 (-1))),(1,.const (.bool false)),(2,.func 82)]) rfl Aj4 Ai4 rfl) ?_;refine Aa9 (Am6 rfl rfl rfl .here Ai1 (by decide)) rfl rfl ?_;refine lv (Val.build (parts:=[(0,.const (.int .i64 0)),(1,.const (.bool false)),(2,.func 83)]) rfl Aj4 Ai4 rfl) ?_;refine Aa9 (Am6 rfl rfl rfl .here Ai1 (by decide)) rfl rfl ?_;refine lv (Val.build (parts:=[(0,.const (.int .i64 1)),(1,.const (.bool false)),(2,.func 84)]) rfl Aj4 Ai4 rfl) ?_;refine Aa9 (Am6 rfl rfl rfl .here Ai1 (by decide)) rfl rfl ?_;refine su ?_;exact RunE.ret (chg:=[]) (.r1 rfl (.tmp rfl)) (fun _ hm=>⟨b1,rfl,hm.pick (.cons .here rfl .nil)⟩)
def VerbAt (s:Str) (m:Int) (ab:Bool) (fv:Value) (is:Bool):Prop :=
  (is=false∧fv = .nilFunc∧s ≠ wBox∧s ≠ wCard∧verbX s=none) ∨
  (is=true∧∃ gf,fv=fnV gf∧Enters Tryz.prog gf∧((m = -1∧s=wBox∧WordSpec gf boxD)∨(m = -1∧s=wCard∧WordSpec gf cardD)∨(∃ vb:Vb,s ≠ wBox∧s ≠ wCard∧verbX s=some vb∧m=vb.many∧ab=vb.about∧(vb.about=true→0 < vb.many)∧NumSpec gf vb)))
theorem CP4 (s:Str):∃ m ab fv is,Value.tuple #[(sFind verbsL s).getD (vbV 0 false .nilFunc),.bool (sFind verbsL s).isSome] = .tuple #[vbV m ab fv,.bool is]∧VerbAt s m ab fv is:=by
  by_cases h1:s=wView
  · subst h1;exact ⟨_,_,_,_,rfl,.inr ⟨rfl,_,rfl,Dg9,.inr (.inr ⟨_,by decide,by decide,rfl,rfl,rfl,by decide,CA9⟩)⟩⟩
  by_cases h2:s=wThing
  · subst h2;exact ⟨_,_,_,_,rfl,.inr ⟨rfl,_,rfl,Dg8,.inr (.inr ⟨_,by decide,by decide,rfl,rfl,rfl,by decide,Cf2⟩)⟩⟩
  by_cases h3:s=wMark
  · subst h3;exact ⟨_,_,_,_,rfl,.inr ⟨rfl,_,rfl,Dg7,.inr (.inr ⟨_,by decide,by decide,rfl,rfl,rfl,by decide,CB2⟩)⟩⟩
  by_cases h4:s=wFar
  · subst h4;exact ⟨_,_,_,_,rfl,.inr ⟨rfl,_,rfl,Dg6,.inr (.inr ⟨_,by decide,by decide,rfl,rfl,rfl,by decide,CQ2⟩)⟩⟩
  by_cases h5:s=wMoved
  · subst h5;exact ⟨_,_,_,_,rfl,.inr ⟨rfl,_,rfl,Dg5,.inr (.inr ⟨_,by decide,by decide,rfl,rfl,rfl,by decide,Cf3⟩)⟩⟩
  by_cases h6:s=wHurts
  · subst h6;exact ⟨_,_,_,_,rfl,.inr ⟨rfl,_,rfl,Dg4,.inr (.inr ⟨_,by decide,by decide,rfl,rfl,rfl,by decide,Cf4⟩)⟩⟩
  by_cases h7:s=wTrim
  · subst h7;exact ⟨_,_,_,_,rfl,.inr ⟨rfl,_,rfl,Dg3,.inr (.inr ⟨_,by decide,by decide,rfl,rfl,rfl,by decide,CB0⟩)⟩⟩
  by_cases h8:s=wDeep
  · subst h8;exact ⟨_,_,_,_,rfl,.inr ⟨rfl,_,rfl,Dg2,.inr (.inr ⟨_,by decide,by decide,rfl,rfl,rfl,by decide,CB3⟩)⟩⟩
  by_cases h9:s=wOff
  · subst h9;exact ⟨_,_,_,_,rfl,.inr ⟨rfl,_,rfl,Dg1,.inr (.inr ⟨_,by decide,by decide,rfl,rfl,rfl,by decide,CQ1⟩)⟩⟩
  by_cases h10:s=wBox
  · subst h10;exact ⟨_,_,_,_,rfl,.inr ⟨rfl,_,rfl,Dg0,.inl ⟨rfl,rfl,CQ3⟩⟩⟩
  by_cases h11:s=wCard
  · subst h11;exact ⟨_,_,_,_,rfl,.inr ⟨rfl,_,rfl,Df9,.inr (.inl ⟨rfl,rfl,CB1⟩)⟩⟩
  by_cases h12:s=wWays
  · subst h12;exact ⟨_,_,_,_,rfl,.inr ⟨rfl,_,rfl,Df8,.inr (.inr ⟨_,by decide,by decide,rfl,rfl,rfl,by decide,CA8⟩)⟩⟩
  by_cases h13:s=wWhich
  · subst h13;exact ⟨_,_,_,_,rfl,.inr ⟨rfl,_,rfl,Df7,.inr (.inr ⟨_,by decide,by decide,rfl,rfl,rfl,by decide,Cf1⟩)⟩⟩
  have e:sFind verbsL s=none:=by
    unfold sFind verbsL;simp only [sIdx,Ne.symm h1,Ne.symm h2,Ne.symm h3,Ne.symm h4,Ne.symm h5,Ne.symm h6,Ne.symm h7,Ne.symm h8,Ne.symm h9,Ne.symm h10,Ne.symm h11,Ne.symm h12,Ne.symm h13,if_false,Option.map_none]
  rw [e];refine ⟨_,_,_,_,rfl,.inl ⟨rfl,rfl,h10,h11,?_⟩⟩
  unfold verbX verbsX;simp [List.find?,Ne.symm h1,Ne.symm h2,Ne.symm h3,Ne.symm h4,Ne.symm h5,Ne.symm h6,Ne.symm h7,Ne.symm h8,Ne.symm h9,Ne.symm h12,Ne.symm h13]
end Go.Proofs.YtnmkdiagbkkmaabGreatDoor
namespace Go.Proofs.YtnmkdiagbkkmaabGreatDoor
open Go Go.Eng
theorem BP5:fieldB Tryz.prog 96 0=some 0:=by kernel_rfl
instance:Fld Tryz.prog 96 0 0:=⟨BP5⟩
theorem BT2:tyB Tryz.prog 33=some (false,1):=by kernel_rfl
instance:Tyc Tryz.prog 33 false 1:=⟨BT2⟩
theorem Db5:tyB Tryz.prog 96=some (true,1):=by kernel_rfl
instance:Tyc Tryz.prog 96 true 1:=⟨Db5⟩
end Go.Proofs.YtnmkdiagbkkmaabGreatDoor
namespace Go.Eng
open Go Go.RowKit
section
variable {P:Program} {n:Nat} {r:Regs} {W:World} {news:Blks}
theorem Be6 {P:Program} {Q:Exit→Act→World→Prop} {n:Nat} {c:Code} {r:Regs} {ds:List Deferred} {W:World} {chg news:Blks} {a:Act} {w:World} (h:RunC P Q n c r ds W chg news) (s:St n r ds W chg news a w):c.wp P Q a w:=h a w s
theorem Mem.hold {w:World} {l:Blks} (h:∀ b o,(b,o)∈l→w.heap[b]? = some o) (hn:(l.map (·.1)).Nodup):Mem w l [] w :=
  ⟨rfl,rfl,rfl,Nat.le_refl _,fun _ _ _=>rfl,fun b o hb=>⟨lt_of_block (h b o hb),h b o hb⟩,fun _ _ h=>(by cases h),by simpa using hn⟩
structure Catches4 (P:Program) (f:FuncId) (T6 Td Tr Te Tx:TypeId) (x:Nat→List Value→List Value) (mis:Int→Value):Prop where
  calm:∀ (b6 bd br be:Nat) (w:World),CallsDIn Fence.wide 8 P f #[.pointer (some ⟨b6,0,none⟩),.pointer (some ⟨bd,0,none⟩),.pointer (some ⟨br,0,none⟩),.pointer (some ⟨be,0,none⟩)] .returning w fun e u w'=>(∃ v,e = .returned v)∧u = .returning∧Mem w [] [] w'
  wild:∀ (b6 bd br be xb:Nat) (k:Int) (a1 a2 a3 p1 p2 p3:Value) (cs:List Value) (w:World),isOne a1=true→isOne a2=true→isOne a3=true→[b6,bd,br,be,xb].Nodup →
    w.heap[b6]? = some (.cells [a1,a2,a3].toArray T6 (0,0))→w.heap[bd]? = some (.cells [.pointer (some ⟨xb,0,none⟩)].toArray Td (0,0))→w.heap[br]? = some (.cells [.string (bs [])].toArray Tr (0,0))→w.heap[be]? = some (.cells [.int .i64 0].toArray Te (0,0))→w.heap[xb]? = some (.cells ([p1,p2,p3]++cs).toArray Tx (0,0)) →
    CallsDIn Fence.wide 8 P f #[.pointer (some ⟨b6,0,none⟩),.pointer (some ⟨bd,0,none⟩),.pointer (some ⟨br,0,none⟩),.pointer (some ⟨be,0,none⟩)] (.panicking [{ v:=mis k,recovered:=false }]) w fun e u w' =>
    (∃ v,e = .returned v)∧u = .panicking [{ v:=mis k,recovered:=true }]∧Mem w [(xb,.cells ([a1,a2,a3]++cs).toArray Tx (0,0)),(br,.cells [.string (bs [])].toArray Tr (0,0)),(be,.cells [.int .i64 k].toArray Te (0,0))] [] w'
variable {fn:Func} {f:FuncId} {T6 Td Tr Te Tx:TypeId} {x:Nat→List Value→List Value} {mis:Int→Value} {R:Ending→World→Prop} {v:Value} {b6 bd br be xb:Nat}
abbrev clo4 (f:FuncId) (b6 bd br be:Nat):Deferred:={ target:=.fn (.func f) #[.pointer (some ⟨b6,0,none⟩),.pointer (some ⟨bd,0,none⟩),.pointer (some ⟨br,0,none⟩),.pointer (some ⟨be,0,none⟩)],args:=#[] }
theorem Bw0 {news2:Blks} {a:Act} (hc:Catches4 P f T6 Td Tr Te Tx x mis) (he:Enters P f) (hag:Agree a r) (hv:ResVs P r ([]++news2) fn v) (hR:∀ w,Mem W [] news2 w→R (.returned v) w) :
    ∀ w,Mem W [] news2 w→LeavesInM Fence.wide 9 P fn a.tmps R [clo4 f b6 bd br be] .returning w:=fun w hm=>by
  refine ⟨by simp,.inr ⟨fun h=>(by cases h),_,_,f,#[.pointer (some ⟨b6,0,none⟩),.pointer (some ⟨bd,0,none⟩),.pointer (some ⟨br,0,none⟩),.pointer (some ⟨be,0,none⟩)],rfl,by simp [invoke];exact he _ _,fun _ _=>trivial,(hc.calm b6 bd br be w).mono ?_⟩⟩
  rintro e u w' ⟨⟨x,rfl⟩,rfl,hm'⟩
  have hm2:=hm.pass hm';exact ⟨v,hv.run hag (fun _ _ h=>hm2.at h),hR _ hm2⟩
theorem AQ6 {news2:Blks} (hc:Catches4 P f T6 Td Tr Te Tx x mis) (he:Enters P f) (hp:Pick news2 news) (hv:ResVs P r ([]++news2) fn v) (hR:∀ w,Mem W [] news2 w→R (.returned v) w) :
    RunE (bodyPostM Fence.wide 9 P fn R) n .ret r [clo4 f b6 bd br be] W [] news:=fun a w s=>by
  show LeavesInM _ _ _ _ _ _ a.defers _ w
  rw [s.defers];exact Ar2 (Ds:=[]) (by simp) (Bw0 hc he s.agree hv hR) w (s.mem.pick hp)
theorem Am9 {k:Int} {a1 a2 a3 p1 p2 p3:Value} {cs:List Value} {rest:Blks} (hc:Catches4 P f T6 Td Tr Te Tx x mis) (he:Enters P f) (h1:isOne a1=true) (h2:isOne a2=true) (h3:isOne a3=true)
    (hp:Pick ((b6,.cells [a1,a2,a3].toArray T6 (0,0))::(bd,.cells [.pointer (some ⟨xb,0,none⟩)].toArray Td (0,0))::(br,.cells [.string (bs [])].toArray Tr (0,0))::(be,.cells [.int .i64 0].toArray Te (0,0))::(xb,.cells ([p1,p2,p3]++cs).toArray Tx (0,0))::rest) news)
    (hv:ResVs P r ([]++((xb,.cells ([a1,a2,a3]++cs).toArray Tx (0,0))::(br,.cells [.string (bs [])].toArray Tr (0,0))::(be,.cells [.int .i64 k].toArray Te (0,0))::rest)) fn v)
    (hR:∀ w,Mem W [] ((xb,.cells ([a1,a2,a3]++cs).toArray Tx (0,0))::(br,.cells [.string (bs [])].toArray Tr (0,0))::(be,.cells [.int .i64 k].toArray Te (0,0))::rest) w→R (.returned v) w) :
    RunE (bodyPostM Fence.wide 9 P fn R) n (.panic [{ v:=mis k,recovered:=false }]) r [clo4 f b6 bd br be] W [] news:=fun a w s=>by
  show LeavesInM _ _ _ _ _ _ a.defers _ w
  rw [s.defers];refine Ar2 (Ds:=[]) (news2:=(b6,.cells [a1,a2,a3].toArray T6 (0,0))::(bd,.cells [.pointer (some ⟨xb,0,none⟩)].toArray Td (0,0))::(br,.cells [.string (bs [])].toArray Tr (0,0))::(be,.cells [.int .i64 0].toArray Te (0,0))::(xb,.cells ([p1,p2,p3]++cs).toArray Tx (0,0))::rest) (by simp) (fun w hm=>?_) w (s.mem.pick hp)
  have hn:[b6,bd,br,be,xb].Nodup:=by
    have h:=hm.once;simp only [List.nil_append,List.map_cons] at h;exact h.sublist (.cons_cons _ (.cons_cons _ (.cons_cons _ (.cons_cons _ (.cons_cons _ (List.nil_sublist _))))))
  have ha6:=hm.newd b6 _ (.head _);have had:=hm.newd bd _ (.tail _ (.head _));have har:=hm.newd br _ (.tail _ (.tail _ (.head _)));have hae:=hm.newd be _ (.tail _ (.tail _ (.tail _ (.head _))));have hax:=hm.newd xb _ (.tail _ (.tail _ (.tail _ (.tail _ (.head _)))));refine ⟨by simp,.inr ⟨fun h=>(by cases h),_,_,f,#[.pointer (some ⟨b6,0,none⟩),.pointer (some ⟨bd,0,none⟩),.pointer (some ⟨br,0,none⟩),.pointer (some ⟨be,0,none⟩)],rfl,by simp [invoke];exact he _ _,fun _ _=>trivial,(hc.wild b6 bd br be xb k a1 a2 a3 p1 p2 p3 cs w h1 h2 h3 hn ha6.2 had.2 har.2 hae.2 hax.2).mono ?_⟩⟩
  rintro e u w' ⟨⟨y,rfl⟩,rfl,hm'⟩
  have hm0:Mem W [] ([(xb,.cells ([p1,p2,p3]++cs).toArray Tx (0,0)),(br,.cells [Value.string (bs [])].toArray Tr (0,0)),(be,.cells [Value.int .i64 0].toArray Te (0,0))]++rest) w:=hm.pick (Pick.cnt fun x=>by simp only [List.count_cons,List.cons_append,List.nil_append];omega)
  have hm2:Mem W [] ((xb,.cells ([a1,a2,a3]++cs).toArray Tx (0,0))::(br,.cells [Value.string (bs [])].toArray Tr (0,0))::(be,.cells [Value.int .i64 k].toArray Te (0,0))::rest) w' :=
    Mem.round (V:=[(xb,.cells ([p1,p2,p3]++cs).toArray Tx (0,0)),(br,.cells [Value.string (bs [])].toArray Tr (0,0)),(be,.cells [Value.int .i64 0].toArray Te (0,0))]) (V':=[(xb,.cells ([a1,a2,a3]++cs).toArray Tx (0,0)),(br,.cells [Value.string (bs [])].toArray Tr (0,0)),(be,.cells [Value.int .i64 k].toArray Te (0,0))]) hm0 hm' rfl
  exact ⟨v,hv.run s.agree (fun _ _ h=>hm2.at h),hR _ hm2⟩
theorem CO4 (a b c d v:Value) (arr:Array Value) (ds:List Deferred) (h:0 < arr.size):Agree { tmps:=#[a,b,c,d]++arr.setIfInBounds 0 v,defers:=ds } [(0,a),(1,b),(2,c),(3,d),(4,v)]:=fun t u ht=>by
  rcases t with _ | _ | _ | _ | _ | t
  · have h2:some a=some u:=ht
    cases h2
    show (#[a,b,c,d]++arr.setIfInBounds 0 v)[0]? = some a
    rw [Array.getElem?_append_left (by simp)];rfl
  · have h2:some b=some u:=ht
    cases h2
    show (#[a,b,c,d]++arr.setIfInBounds 0 v)[1]? = some b
    rw [Array.getElem?_append_left (by simp)];rfl
  · have h2:some c=some u:=ht
    cases h2
    show (#[a,b,c,d]++arr.setIfInBounds 0 v)[2]? = some c
    rw [Array.getElem?_append_left (by simp)];rfl
  · have h2:some d=some u:=ht
    cases h2
    show (#[a,b,c,d]++arr.setIfInBounds 0 v)[3]? = some d
    rw [Array.getElem?_append_left (by simp)];rfl
  · have h2:some v=some u:=ht
    cases h2
    simp [Array.getElem?_append,h]
  · have h2:none=some u:=ht
    cases h2
theorem BW0 {a1 a2 a3 p1 p2 p3:Value} {cs:List Value} (h1:isOne a1=true) (h2:isOne a2=true) (h3:isOne a3=true):paste ([p1,p2,p3]++cs) 0 (cellsL (.agg [a1,a2,a3].toArray))=some ([a1,a2,a3]++cs):=by
  show pasteN (p1::p2::p3::cs) [a1,a2,a3]=_
  have e:pasteN cs []=some cs:=by cases cs <;> rfl
  simp only [pasteN,h1,h2,h3,e];rfl
end
end Go.Eng
namespace Go.Proofs.YtnmkdiagbkkmaabGreatDoor
open Go Go.Eng Go.Dk Go.RowKit Go.Pw1 Go.Hp

theorem BX2 (b6 bd br be:Nat) (w:World):CallsDIn Fence.wide 8 Tryz.prog 31 #[pV b6,pV bd,pV br,pV be] .returning w fun e u w'=>(∃ v,e = .returned v)∧u = .returning∧Mem w [] [] w':=by
  refine Au2 Tryz.func31 rfl fun c₀ cs0 hu=>?_
  refine wpS_seq (wpS_region ?_)
  simp only [List.range,List.range.loop,Array.size,List.size_toArray,List.length_cons,List.length_nil];simp [wpOpsS,go_sem,recoverD,hu,Tryz.ntmps31,Exit.thenS]
  refine wpS_of_wp ?_;refine Be6 (n:=Tryz.f31.ntmps) (r:=[(0,pV b6),(1,pV bd),(2,pV br),(3,pV be),(4,.nilIface)]) (ds:=[]) (W:=w) (chg:=[]) (news:=[]) ?_ ⟨by simp [Tryz.ntmps31],CO4 _ _ _ _ _ _ _ (by simp),rfl,Mem.refl w⟩
  refine st ?_;refine lv (Ax1 rfl Bf0) ?_;refine RunC.cond rfl (fun h=>absurd h (by simp)) ?_;intro c0;clear c0;refine st ?_;exact fun _ _ s=>⟨s.defers,.returning,by rw [← hu],_,results_none rfl _ _ _,⟨_,rfl⟩,rfl,s.mem.drop⟩
theorem BX1 (b6 bd br be xb:Nat) (k:Int) (a1 a2 a3 p1 p2 p3:Value) (cs:List Value) (w:World) (h1:isOne a1=true) (h2:isOne a2=true) (h3:isOne a3=true) (hn:[b6,bd,br,be,xb].Nodup)
    (h6:w.heap[b6]? = some (.cells [a1,a2,a3].toArray 84 (0,0))) (hd:w.heap[bd]? = some (.cells [.pointer (some ⟨xb,0,none⟩)].toArray 33 (0,0))) (hr:w.heap[br]? = some (.cells [.string (bs [])].toArray 9 (0,0))) (he:w.heap[be]? = some (.cells [.int .i64 0].toArray 34 (0,0))) (hx:w.heap[xb]? = some (.cells ([p1,p2,p3]++cs).toArray 86 (0,0))) :
    CallsDIn Fence.wide 8 Tryz.prog 31 #[pV b6,pV bd,pV br,pV be] (.panicking [{ v:=dmis k,recovered:=false }]) w fun e u w' =>
    (∃ v,e = .returned v)∧u = .panicking [{ v:=dmis k,recovered:=true }]∧Mem w [(xb,.cells ([a1,a2,a3]++cs).toArray 86 (0,0)),(br,.cells [.string (bs [])].toArray 9 (0,0)),(be,.cells [.int .i64 k].toArray 34 (0,0))] [] w':=by
  simp only [List.nodup_cons,List.mem_cons,List.not_mem_nil,or_false,not_or,List.nodup_nil,and_true,not_false_eq_true] at hn;obtain ⟨⟨n1,n2,n3,n4⟩,⟨n5,n6,n7⟩,⟨n8,n9⟩,n10⟩:=hn;refine Au2 Tryz.func31 rfl fun c₀ cs0 hu=>?_
  refine wpS_seq (wpS_region ?_)
  simp only [List.range,List.range.loop,Array.size,List.size_toArray,List.length_cons,List.length_nil];simp [wpOpsS,go_sem,recoverD,hu,Tryz.ntmps31,Exit.thenS]
  refine wpS_of_wp ?_
  refine Be6 (n:=Tryz.f31.ntmps) (r:=[(0,pV b6),(1,pV bd),(2,pV br),(3,pV be),(4,dmis k)]) (ds:=[]) (W:=w) (chg:=[(xb,.cells ([p1,p2,p3]++cs).toArray 86 (0,0)),(br,.cells [.string (bs [])].toArray 9 (0,0)),(be,.cells [.int .i64 0].toArray 34 (0,0))]) (news:=[]) ?_ ⟨by simp [Tryz.ntmps31],CO4 _ _ _ _ _ _ _ (by simp),rfl,Mem.hold (by
    intro b o hb;simp only [List.mem_cons,List.not_mem_nil,or_false,Prod.mk.injEq] at hb
    rcases hb with ⟨rfl,rfl⟩ | ⟨rfl,rfl⟩ | ⟨rfl,rfl⟩
    · exact hx
    · exact hr
    · exact he) (by simp [Ne.symm n9,Ne.symm n10,n8])⟩
  refine st ?_;refine lv (Aq3 rfl Bf0) ?_;refine RunC.cond rfl ?_ (fun h=>absurd h (by simp))
  intro c0;clear c0;refine st ?_;refine lv (Av2 rfl Ck0) ?_;refine zn (New.alloc Cb2) (fun b5=>?_)
  refine Aa9 (Sto.store rfl rfl .here Db5 rfl rfl) rfl rfl ?_;refine st ?_;refine RunC.cond rfl (fun h=>absurd h (by simp)) ?_;intro c1;clear c1;refine st ?_;refine lv (Aa2 rfl hd (by simp [n1,n2,n3,n4,n5,n6,n7]) BT2 rfl) ?_;refine lu (Ag9 rfl h6 (by simp [n1,n2,n3,n4,n5,n6,n7]) Cd1 rfl) ?_;refine Aa9 (Ad1 (cs:=[p1,p2,p3]++cs) (cs':=[a1,a2,a3]++cs) rfl rfl .here Cd1 rfl (BW0 h1 h2 h3)) rfl rfl ?_;refine st ?_;refine Bk7 3 Aj3 (.cons .here rfl .nil) ?_;refine Ak8 (i:=0) rfl (by kernel_rfl) (by kernel_rfl) (fun c hck=>(Val.fieldAddr rfl BP5)) rfl rfl rfl (fun _ _ _ h=>h) (.cons .here rfl .nil) rfl ?_;refine Ak8 (i:=1) rfl (by kernel_rfl) (by kernel_rfl) (fun c hck=>(Ab6 rfl (List.mem_append_right c (.head _)) Ag0 rfl)) rfl rfl rfl (fun _ _ _ h=>h) (.cons .here rfl .nil) rfl ?_;refine zA 2 ?_;refine Ac0 rfl (Ad1 rfl rfl (.there .here) AE3 rfl rfl) rfl rfl (Aa7 (.cons .here rfl .nil) (.cons .here rfl .nil) rfl ?_)
  refine zt ?_;refine zB 3 ?_;refine Ac0 rfl (Ad1 rfl rfl (.there (.there .here)) Ag0 rfl rfl) rfl rfl (Ab9 ?_)
  refine zd ?_;exact fun _ _ s=>⟨s.defers,.panicking [{ v:=dmis k,recovered:=true }],rfl,_,results_none rfl _ _ _,⟨_,rfl⟩,rfl,s.mem.drop⟩
theorem Ag1:Catches4 Tryz.prog 31 84 33 9 34 86 (fun _ l=>l) dmis:=⟨BX2,BX1⟩
end Go.Proofs.YtnmkdiagbkkmaabGreatDoor
namespace Go.Proofs.YtnmkdiagbkkmaabGreatDoor
open Go Go.Eng
theorem AE2:Enters Tryz.prog 31:=Aa1 Tryz.func31 (by kernel_rfl) rfl
theorem Dj1:Enters Tryz.prog 33:=Aa1 Tryz.func33 (by kernel_rfl) rfl
theorem Dj0:Enters Tryz.prog 34:=Aa1 Tryz.func34 (by kernel_rfl) rfl
theorem CN2:Enters Tryz.prog 35:=Aa1 Tryz.func35 (by kernel_rfl) rfl
theorem Di9:Enters Tryz.prog 36:=Aa1 Tryz.func36 (by kernel_rfl) rfl
theorem Cp2:fieldB Tryz.prog 105 0=some 0:=by kernel_rfl
instance:Fld Tryz.prog 105 0 0:=⟨Cp2⟩
theorem By2:fieldB Tryz.prog 105 1=some 1:=by kernel_rfl
instance:Fld Tryz.prog 105 1 1:=⟨By2⟩
theorem By1:fieldB Tryz.prog 105 2=some 2:=by kernel_rfl
instance:Fld Tryz.prog 105 2 2:=⟨By1⟩
theorem CF3:fieldB Tryz.prog 86 2=some 20:=by kernel_rfl
instance:Fld Tryz.prog 86 2 20:=⟨CF3⟩
theorem CL2:tyB Tryz.prog 103=some (false,1):=by kernel_rfl
instance:Tyc Tryz.prog 103 false 1:=⟨CL2⟩
theorem BN2:tyB Tryz.prog 105=some (true,3):=by kernel_rfl
instance:Tyc Tryz.prog 105 true 3:=⟨BN2⟩
theorem AW0:zeroV Tryz.prog 105=some (.agg #[.int .i64 0,.bool false,.nilFunc]):=by kernel_rfl
theorem CO5:zeroB Tryz.prog 84=some [.slice none 0 0,.slice none 0 0,.slice none 0 0]:=by kernel_rfl
end Go.Proofs.YtnmkdiagbkkmaabGreatDoor
namespace Go.Eng
open Go Go.RowKit
theorem AO0 {P:Program} {r:Regs} {W:World} {chg news:Blks} {dst:Option Tmp} {gd:Option (Nat×Bool)} {ty:TypeId} {pos:String} {after:Array Edge} {x:Operand} {T e:TypeId} {b o n cap:Nat} {v:Value} (hx:rev r x=some (.slice (some ⟨b,o,none⟩) n cap)) (hT:slB P T=some (e,1)) (hn:0 < n) (hc:n≤cap) (hv:Value.slice (some ⟨b,if cap=1 then o else o + 1,none⟩) (n - 1) (cap - 1)=v) :
    Val P r W chg news { dst,op:=.slice T x (some (.const (.int .i64 1))) none none,type:=ty,pos,after,guard:=gd } v :=
  ⟨fun a w ha _=>by
    subst hv;unfold slB at hT
    split at hT
    · rename_i e2 hu
      cases hj:P.info? e2 with
      | none=>simp [hj] at hT
      | some j =>
        simp [hj] at hT
        obtain ⟨rfl,hj1⟩:=hT;have h4:(1:Int)≤(n:Int):=by omega
        by_cases h1:cap=1
        · have h5:n=1:=by omega
          simp [execOp,ha.eval hx,BigFrame.eval_const,Instr.sliceAt,Instr.sureAddr,Instr.slice,Instr.sliceBounds,Instr.sliceBound,asIntOf,run_underlying hu,sizeOf,typeInfo,hj,h1,h5,add_plain]
        · simp [execOp,ha.eval hx,BigFrame.eval_const,Instr.sliceAt,Instr.sureAddr,Instr.slice,Instr.sliceBounds,Instr.sliceBound,asIntOf,run_underlying hu,sizeOf,typeInfo,hj,h4,h1,hj1,add_plain]
    · cases hT⟩
section
variable {P:Program} {Q:Exit→Act→World→Prop} {n d:Nat} {r:Regs} {ds:List Deferred} {W:World} {chg news:Blks}
def PanU (Q:Exit→Act→World→Prop) (n:Nat) (r:Regs) (ds:List Deferred) (W:World) (chg:Blks):Exit→Act→World→Prop
  | .panic c,a,w=>∃ news,St n r ds W chg news a w∧RunE Q n (.panic c) r ds W chg news
  | e,a,w=>Q e a w
theorem PanU.imp:∀ (e:Exit) (a:Act) (w:World),PanU Q n r ds W chg e a w→Q e a w:=fun e a w h=>by
  cases e <;> first | exact h | exact (let ⟨_,h1,h2⟩:=(h:∃ _,_∧_);h2 a w h1)
theorem PanU.back {v:Value} (hd:rget r d=none):∀ (c:List PanicEntry) (a:Act) (w:World),PanU Q n r ds W chg (.panic c) (a.put (some d) v) w→PanU Q n r ds W chg (.panic c) a w:=fun c a w h=>by
  obtain ⟨news,s,h2⟩:=(h:∃ _,_∧_);refine ⟨news,⟨by have:=s.size;simpa [Act.put] using this,fun t u ht=>?_,s.defers,s.mem⟩,h2⟩
  have hne:d ≠ t:=by rintro rfl;rw [hd] at ht;cases ht
  have:=s.agree t u ht
  simpa [Act.put,Array.getElem?_setIfInBounds_ne hne] using this
theorem Bk6 {id:Nat} {l:List Oper} {news0:Blks} (k:Nat) (hm:P.follows .mixedOrders=true) (_hp:Pick news0 news) (h:RunA P l.toArray (PanU Q n r ds W chg) k (fun c=>c=chg) news0 n l.toArray.size (Array.replicate l.toArray.size false) r ds W chg news):RunC P Q n (.region id l.toArray true) r ds W chg news:=fun a _ s =>
  Code.wp_mono PanU.imp (wp_region_any hm (Ak9 _ _ _ _ (h a _ s.drew Closed.start)))
theorem At9 {r0:Regs} (h:RunE Q n .normal r ds W chg news):RunE (PanU Q n r0 ds W chg) n .normal r ds W chg news:=h
theorem Ax5 {r0:Regs} {c:List PanicEntry} (hs:Sub r0 r) (h:RunE Q n (.panic c) r0 ds W chg news):RunE (PanU Q n r0 ds W chg) n (.panic c) r ds W chg news:=fun _ _ s=>⟨news,s.pick hs (Pick.refl _),h⟩
end
end Go.Eng
namespace Go.Dk
open Go Go.Eng Go.RowKit Go.Pw1 Go.Hp
theorem BE0 {c:Cd} {b b':Bn} {s r:Str} (h:lineX c b s = .ok (b',r)):(b',r,(0:Int))=stepX c b s:=by unfold stepX;rw [h]
theorem Au4 {c:Cd} {b z:Bn} {s:Str} {k:Int} (h:lineX c b s = .error k) (hz:z=b):(z,([]:Str),k)=stepX c b s:=by unfold stepX;rw [h,hz]
section
variable {c:Cd} {b:Bn} {s:Str}
theorem Cl9 (h:¬ s.length≤200):lineX c b s = .error 3:=by unfold lineX;rw [if_pos (by omega)]
variable (hl:s.length≤200)
include hl
theorem Cm0 (h:wordsX s=none):lineX c b s = .error 8:=by unfold lineX;rw [if_neg (by omega),h]
variable {x:Str} {ws:List Str} (h:wordsX s=some (x::ws))
include h
theorem CF0 (hx:x=wBox):lineX c b s=boxD b ws:=by unfold lineX;rw [if_neg (by omega),h];dsimp only;rw [if_pos (by exact hx)];rfl
theorem Cm2 (hx:x=wCard):lineX c b s=cardD b ws:=by unfold lineX;rw [if_neg (by omega),h];dsimp only;rw [if_neg (by rw [show (x::ws).getD 0 []=x from rfl,hx];decide),if_pos (by exact hx)];rfl
variable (h1:x ≠ wBox) (h2:x ≠ wCard)
include h1 h2
theorem Cl7 (hv:verbX x=none):lineX c b s = .error 8:=by unfold lineX;rw [if_neg (by omega),h];dsimp only;rw [if_neg (by exact h1),if_neg (by exact h2),show (x::ws).getD 0 []=x from rfl,hv]
variable {v:Vb} (hv:verbX x=some v)
include hv
theorem Cl6 (hn:numsX ws=none):lineX c b s = .error 8:=by unfold lineX;rw [if_neg (by omega),h];dsimp only;rw [if_neg (by exact h1),if_neg (by exact h2),show (x::ws).getD 0 []=x from rfl,hv];dsimp only;rw [show (x::ws).drop 1=ws from rfl,hn]
variable {n:List Int} (hn:numsX ws=some n)
include hn
theorem Cl8 (hm:n.length ≠ v.many):lineX c b s = .error 8:=by unfold lineX;rw [if_neg (by omega),h];dsimp only;rw [if_neg (by exact h1),if_neg (by exact h2),show (x::ws).getD 0 []=x from rfl,hv];dsimp only;rw [show (x::ws).drop 1=ws from rfl,hn];dsimp only;rw [if_pos hm]
variable (hm:n.length=v.many)
include hm
theorem BX0 (ha:v.about=true) (hr:¬ N n 0 < b.views.length):lineX c b s = .error 2:=by unfold lineX;rw [if_neg (by omega),h];dsimp only;rw [if_neg (by exact h1),if_neg (by exact h2),show (x::ws).getD 0 []=x from rfl,hv];dsimp only;rw [show (x::ws).drop 1=ws from rfl,hn];dsimp only;rw [if_neg (fun h=>h hm),if_pos ⟨ha,hr⟩]
theorem AF5 (hr:v.about=true→N n 0 < b.views.length):lineX c b s=v.does c b n:=by unfold lineX;rw [if_neg (by omega),h];dsimp only;rw [if_neg (by exact h1),if_neg (by exact h2),show (x::ws).getD 0 []=x from rfl,hv];dsimp only;rw [show (x::ws).drop 1=ws from rfl,hn];dsimp only;rw [if_neg (fun h=>h hm),if_neg (fun h=>h.2 (hr h.1))]
end
theorem CR5 {β γ:Type} {P:Program} {f:FuncId} {args:Array Value} {W0 w:World} {chg:Blks} {v v':β→Value} {nw:β→Blks} {I:β→Prop} {mis:Int→Value} {kk:γ→Int} {np:γ→Blks} {J:γ→Prop} (h:Calls P f args w (GrowT W0 chg v nw I mis kk np J)) (hv:∀ b,I b→v b=v' b):Calls P f args w (GrowT W0 chg v' nw I mis kk np J) :=
  Af3 h (by
    rintro e w' (⟨b,h1,h2,h3⟩ | h)
    · exact .inl ⟨b,h1,by rw [h2,hv b h1],h3⟩
    · exact .inr h)
theorem AP3 (m:Int) (b:Bool) (e:Value) (he:isOne e=true):paste [.int .i64 0,.bool false,.nilFunc] 0 (cellsL (.agg #[.int .i64 m,.bool b,e]))=some [.int .i64 m,.bool b,e]:=by
  show pasteN _ [.int .i64 m,.bool b,e]=_
  simp only [pasteN,he,show isOne (.int .i64 m)=true from rfl,show isOne (.bool b)=true from rfl]
end Go.Dk
namespace Go.Proofs.YtnmkdiagbkkmaabGreatDoor
open Go Go.Eng Go.Dk Go.RowKit Go.Pw1 Go.Hp

abbrev b6O (z:DkX):Obj:=.cells [ownV z.v z.vs.length,ownV z.b z.bs.length,ownV z.c z.cs.length].toArray 84 (0,0)
abbrev lnT (b6 b5 b4 b2:Nat) (xb:Nat) (z:DkX) (tl:Blks):Blks:=(b6,b6O z)::(b5,.cells [Value.int .i64 0].toArray 34 (0,0))::(b4,.cells #[Value.string ⟨#[]⟩] 9 (0,0))::(b2,.cells (cellsL (pV xb)).toArray 33 (0,0))::tl
theorem Be1 (x:Str) (ws:List Str) (r:List Value) (q:Option Addr) (sb cap:Nat) (rest:Blks) (W0 w:World) (hL:Lw Tryz.prog W0) (hm0:Mem W0 [] ((sb,sbO (x::ws) r)::(rest++[])) w) (hq:ws ≠ []→q=some ⟨sb,1,none⟩) (hl:ws.length≤100000) (hs:∀ s∈ws,s.length≤100000) :
    Calls Tryz.prog 36 #[.slice q ws.length cap] w (GrowT W0 [] (fun z:Eng.Own×List Int=>.slice (ownQ z.1) z.2.length (ownC z.1)) (fun z=>nuB z++(rest++[])) (fun z=>OwnOk 1 z.1 z.2.length (z.2.map intC).flatten∧numsX ws=some z.2) dmis (fun _:Unit=>8) (fun _=>rest++[]) (fun _=>numsX ws=none)) :=
  CR5 (Bn0 x ws r q sb cap rest W0 w hL hm0 hq hl hs) (fun z hz=>Ad9 hz.1)
set_option maxHeartbeats 2000000 in
theorem Cb0 (s:Str) (hsl:s.length≤100000) (xb:Nat) (d:DkX) (c:Cd) (rest:Blks) (W0 w:World) (hL:Lw Tryz.prog W0) (hd:DkOk d) (hm0:Mem W0 [] (dkM xb d c (rest++[])) w) :
    Calls Tryz.prog 12 #[pV xb,.string (bs s)] w (Grow W0 [] (fun z:DkX×Str×Int=>.tuple #[.string (bs z.2.1),.int .i64 z.2.2]) (fun z=>dkM xb z.1 c (rest++[])) (fun z=>DkOk z.1∧(z.1.pl,z.2.1,z.2.2)=stepX (bareC c) d.pl s)):=by
  have hund:Tryz.prog.underlying 33=some (.pointer 86):=by kernel_rfl
  have hdv:=hd.v;have hvl:d.pl.views.length=d.vs.length:=List.length_map ..;refine AD7 hm0 Tryz.func12 rfl rfl ?_;refine Ak4 ?_;refine st ?_;refine zn (New.box rfl) (fun b2=>?_)
  refine zn (New.alloc AL1) (fun b4=>?_)
  refine zn (New.alloc At0) (fun b5=>?_)
  refine lv (Ak3 rfl hund) ?_;refine Af9 (dj:=13) false rfl rfl ?_;refine su ?_;refine RunC.cond rfl (fun h=>absurd h (by simp)) ?_;intro c0;clear c0;refine su ?_;refine Aq5 [(b5,_),(b4,_),(b2,_),(xb,_)] _ rfl (zF rfl CN3) rfl rfl rfl (fun w hm=>Bz6 xb d c hd w (An9 hd (hm.pick (news':=dkM xb d c (rest++[])) (Pick.cnt fun u=>by simp only [dkM,nC];omega)))) (fun z24=>?_)
  skip
  refine zn (New.alloc CO5) (fun b6=>?_)
  refine Aa9 (Sto.store (cs:=[.slice none 0 0,.slice none 0 0,.slice none 0 0]) (cs':=[ownV z24.1.v z24.1.vs.length,ownV z24.1.b z24.1.bs.length,ownV z24.1.c z24.1.cs.length]) rfl rfl .here Cd1 rfl (AC4 (ownV z24.1.v z24.1.vs.length) (ownV z24.1.b z24.1.bs.length) (ownV z24.1.c z24.1.cs.length) (Ae3 _ _) (Ae3 _ _) (Ae3 _ _))) rfl rfl ?_;refine st ?_;refine BL5 rfl ?_;refine st ?_;refine lv (Ah0 rfl An7) ?_;refine Ac2 (zF rfl Al7) rfl rfl rfl (fun w hm=>Ad8 _ _ w) (fun e29 he29=>?_) (fun v29 hv29=>?_)
  ·obtain ⟨er29,rfl⟩:=Ae0 he29
   refine Aa5 ?_;exact Am9 (k:=3) (cs:=(bareC c).cells none 0++[Value.bool true]) (rest:=dkB z24.1++(rest++[])) Ag1 AE2 (Ae3 _ _) (Ae3 _ _) (Ae3 _ _) (.cons .here rfl (.cons (.there (.there .here)) rfl (.cons (.there .here) rfl (.cons .here rfl (.cons .here rfl (Pick.cnt fun x=>by simp only [nC,lnT,b6O];omega)))))) (.r2 rfl (.one rfl (.tail _ (.head _)) AE3 rfl) (.one rfl (.tail _ (.tail _ (.head _))) Ag0 rfl)) (fun w hm=>⟨(z24.1,[],3),⟨z24.2.1,Au4 (Cl9 (by have:=of_decide_eq_false er29;omega)) z24.2.2⟩,rfl,hm.pick (.cons .here rfl (Pick.cnt fun x=>by simp only [nC,lnT,b6O];omega))⟩)
  obtain ⟨ok29,rfl⟩:=Ae7 hv29;have hl200:s.length≤200:=by have:=of_decide_eq_true ok29;omega
  refine st ?_;refine Ag3 (zF rfl Dj0) rfl rfl rfl (fun w hm=>Bz0 s w) (fun b31=>?_)
  refine Ax3 (zF rfl Dj1) rfl rfl rfl (fun w hm=>(AP4 (nw':=fun z=>lnT b6 b5 b4 b2 xb z24.1 ((xb,dkO d c)::(stB z++(dkB z24.1++(dkB d++(rest++[])))))) (np':=fun _=>lnT b6 b5 b4 b2 xb z24.1 ((xb,dkO d c)::(dkB z24.1++(dkB d++(rest++[]))))) (Bq2 s b31 (lnT b6 b5 b4 b2 xb z24.1 ((xb,dkO d c)::(dkB z24.1++(dkB d++rest)))) W0 w hL hsl (hm.pick (Pick.cnt fun u=>by simp only [lnT,b6O,sbO,nC];omega))) (fun _=>(Pick.cnt fun u=>by simp only [lnT,b6O,sbO,nC];omega)) (fun _=>(Pick.cnt fun u=>by simp only [lnT,b6O,sbO,nC];omega)))) (fun p32 hp32=>?_) (fun z32 hz32=>?_)
  ·refine Aa5 ?_
   exact Am9 (k:=8) (cs:=(bareC c).cells none 0++[Value.bool true]) (rest:=dkB z24.1++(rest++[])) Ag1 AE2 (Ae3 _ _) (Ae3 _ _) (Ae3 _ _) (.cons .here rfl (.cons (.there (.there .here)) rfl (.cons (.there .here) rfl (.cons .here rfl (.cons .here rfl (Pick.cnt fun x=>by simp only [nC,lnT,b6O];omega)))))) (.r2 rfl (.one rfl (.tail _ (.head _)) AE3 rfl) (.one rfl (.tail _ (.tail _ (.head _))) Ag0 rfl)) (fun w hm=>⟨(z24.1,[],8),⟨z24.2.1,Au4 (Cm0 hl200 hp32) z24.2.2⟩,rfl,hm.pick (.cons .here rfl (Pick.cnt fun x=>by simp only [nC,lnT,b6O];omega))⟩)
  obtain ⟨zo32,zl32⟩:=z32;obtain ⟨ho32,hw32⟩:=hz32;dsimp only at ho32 hw32 ⊢;obtain ⟨hwe,-⟩:=BC9 hw32;have hbo:=AG1 s [];rw [← hwe] at hbo;obtain ⟨x,ws,rfl⟩:∃ x ws,zl32=x::ws:=by (cases zl32 with | nil=>exact absurd hbo.2.1 (by simp) | cons x ws=>exact ⟨x,ws,rfl⟩)
  have hwl:ws.length≤200:=by (have:=hbo.1;simp only [List.length_cons] at this;omega)
  have hsh:∀ u∈ws,u.length≤100000:=fun u hu=>by (have:=hbo.2.2 u (List.mem_cons_of_mem _ hu);simp only [List.length_nil] at this;omega)
  refine vp rfl rfl rfl rfl ?_;refine nnx ?_;refine RunC.seq ?_;obtain ⟨vm,vab,vfv,vis,hval,hvat⟩:=CP4 x;have hone:isOne vfv=true:=by (rcases hvat with ⟨-,h,-⟩ | ⟨-,gf,h,-⟩;rw [h];rfl;rw [h];rfl)
  obtain ⟨bzo32,czo32,rzo32,rfl,lzo321,lzo322,lzo323⟩:=ho32.has (by simp)
  apply Aq8 (J:=J2 _ _ _ _ _ _) 10 Aj3 (.cons .here rfl (.cons .here rfl (.cons .here rfl (.cons .here rfl (.cons .here rfl (.cons .here rfl .nil))))))
  ·refine zw 1 ?_
   refine zv 2 rfl (Ab4 rfl rfl Au5 (by omega) (by omega)) ?_;refine zw 3 ?_;refine Ag7 (rs:=[0,8]) (by kernel_rfl) (by simp) (by kernel_rfl) (fun m hm=>?_)
   simp only [List.mem_cons,List.not_mem_nil,or_false] at hm
   rcases hm with rfl | rfl
   ·refine AI8 rfl (zF rfl CN2) rfl rfl rfl (fun w hm=>AW3 w) (fun b34=>(Aa7 (.cons .here rfl (.cons .here rfl (.cons .here rfl (.cons .here rfl (.cons .here rfl (.cons .here rfl (.cons .here rfl .nil))))))) (.cons (.there .here) rfl (.cons (.there .here) rfl (.cons (.there .here) rfl (.cons (.there .here) rfl (.cons (.there .here) rfl (.cons (.there .here) rfl .nil)))))) rfl ?_))
    refine Ag7 (rs:=[4,8]) (by kernel_rfl) (by simp) (by kernel_rfl) (fun m hm=>?_)
    simp only [List.mem_cons,List.not_mem_nil,or_false] at hm
    rcases hm with rfl | rfl
    ·refine Ai8 rfl (Az8 rfl rfl (fun w hm=>hm.at (.head _)) Ai1 AW0 hval) rfl rfl rfl (Aa7 (.cons .here rfl (.cons .here rfl (.cons .here rfl (.cons .here rfl (.cons .here rfl (.cons .here rfl (.cons .here rfl .nil))))))) (.cons .here rfl (.cons .here rfl (.cons .here rfl (.cons .here rfl (.cons .here rfl (.cons .here rfl (.cons .here rfl .nil))))))) rfl ?_)
     refine zw 5 ?_;refine zw 6 ?_;refine zw 7 ?_;refine zA 8 ?_;refine Ac6 rfl (New.alloc Aj4) rfl rfl rfl (fun b8=>(Aa7 (.cons (.there .here) rfl (.cons (.there .here) rfl (.cons (.there .here) rfl (.cons (.there .here) rfl (.cons (.there .here) rfl (.cons (.there .here) rfl (.cons (.there .here) rfl .nil))))))) (.cons .here rfl (.cons .here rfl (.cons .here rfl (.cons .here rfl (.cons .here rfl (.cons .here rfl (.cons .here rfl .nil))))))) rfl ?_))
     refine zA 9 ?_;refine Ac0 rfl (Sto.store (cs:=[.int .i64 0,.bool false,.nilFunc]) (cs':=[.int .i64 vm,.bool vab,vfv]) rfl rfl .here BN2 rfl (AP3 vm vab vfv hone)) rfl rfl (Aa7 (.cons (.there .here) rfl (.cons (.there .here) rfl (.cons (.there .here) rfl (.cons (.there .here) rfl (.cons (.there .here) rfl (.cons (.there .here) rfl (.cons (.there .here) rfl .nil))))))) (.cons .here rfl (.cons .here rfl (.cons .here rfl (.cons .here rfl (.cons .here rfl (.cons .here rfl (.cons .here rfl .nil))))))) rfl ?_)
     refine zt ?_;refine zp 10 ?_;refine zd ?_;refine Ae6 ?_;exact Ai9 b34 b8 (Ac1 _) (Pick.refl _)
    refine Ac6 rfl (New.alloc Aj4) rfl rfl rfl (fun b8=>(Aa7 (.cons (.there .here) rfl (.cons (.there .here) rfl (.cons (.there .here) rfl (.cons (.there .here) rfl (.cons (.there .here) rfl (.cons (.there .here) rfl (.cons (.there .here) rfl .nil))))))) (.cons .here rfl (.cons .here rfl (.cons .here rfl (.cons .here rfl (.cons .here rfl (.cons .here rfl (.cons .here rfl .nil))))))) rfl ?_))
    refine zA 4 ?_;refine Ai8 rfl (Az8 rfl rfl (fun w hm=>hm.at (.tail _ (.head _))) Ai1 AW0 hval) rfl rfl rfl (Aa7 (.cons (.there .here) rfl (.cons (.there .here) rfl (.cons (.there .here) rfl (.cons (.there .here) rfl (.cons (.there .here) rfl (.cons (.there .here) rfl (.cons (.there .here) rfl .nil))))))) (.cons .here rfl (.cons .here rfl (.cons .here rfl (.cons .here rfl (.cons .here rfl (.cons .here rfl (.cons .here rfl .nil))))))) rfl ?_)
    refine zw 5 ?_;refine zw 6 ?_;refine zw 7 ?_;refine zA 9 ?_;refine Ac0 rfl (Sto.store (cs:=[.int .i64 0,.bool false,.nilFunc]) (cs':=[.int .i64 vm,.bool vab,vfv]) rfl rfl .here BN2 rfl (AP3 vm vab vfv hone)) rfl rfl (Aa7 (.cons (.there .here) rfl (.cons (.there .here) rfl (.cons (.there .here) rfl (.cons (.there .here) rfl (.cons (.there .here) rfl (.cons (.there .here) rfl (.cons (.there .here) rfl .nil))))))) (.cons .here rfl (.cons .here rfl (.cons .here rfl (.cons .here rfl (.cons .here rfl (.cons .here rfl (.cons .here rfl .nil))))))) rfl ?_)
    refine zt ?_;refine zp 10 ?_;refine zd ?_;refine Ae6 ?_;exact Ai9 b34 b8 (zS 9 rfl (zS 8 rfl (zS 40 rfl (zS 39 rfl (zS 33 rfl (zS 38 rfl (zS 34 rfl (zS 37 rfl (zS 36 rfl (zS 35 rfl (Sub.skip rfl (Sub.skip rfl (Sub.skip rfl (Sub.skip rfl (Sub.skip rfl (Sub.skip rfl (Sub.skip rfl (Sub.skip rfl (Sub.skip rfl (Sub.skip rfl (Ac1 _))))))))))))))))))))) (.cons .here rfl (.cons .here rfl (.cons .here rfl (.cons .here rfl (.cons .here rfl (.cons .here rfl (.cons .here rfl (.cons .here rfl (Pick.refl _)))))))))
   refine Ac6 rfl (New.alloc Aj4) rfl rfl rfl (fun b8=>(Aa7 (.cons (.there .here) rfl (.cons (.there .here) rfl (.cons (.there .here) rfl (.cons (.there .here) rfl (.cons (.there .here) rfl (.cons (.there .here) rfl .nil)))))) (.cons .here rfl (.cons .here rfl (.cons .here rfl (.cons .here rfl (.cons .here rfl (.cons .here rfl .nil)))))) rfl ?_))
   refine zA 0 ?_;refine AI8 rfl (zF rfl CN2) rfl rfl rfl (fun w hm=>AW3 w) (fun b34=>(Aa7 (.cons .here rfl (.cons (.there .here) rfl (.cons (.there .here) rfl (.cons (.there .here) rfl (.cons (.there .here) rfl (.cons (.there .here) rfl (.cons (.there .here) rfl .nil))))))) (.cons (.there .here) rfl (.cons (.there .here) rfl (.cons (.there .here) rfl (.cons (.there .here) rfl (.cons (.there .here) rfl (.cons (.there .here) rfl .nil)))))) rfl ?_))
   refine zA 4 ?_;refine Ai8 rfl (Az8 rfl rfl (fun w hm=>hm.at (.head _)) Ai1 AW0 hval) rfl rfl rfl (Aa7 (.cons .here rfl (.cons (.there .here) rfl (.cons (.there .here) rfl (.cons (.there .here) rfl (.cons (.there .here) rfl (.cons (.there .here) rfl (.cons (.there .here) rfl .nil))))))) (.cons .here rfl (.cons .here rfl (.cons .here rfl (.cons .here rfl (.cons .here rfl (.cons .here rfl (.cons .here rfl .nil))))))) rfl ?_)
   refine zw 5 ?_;refine zw 6 ?_;refine zw 7 ?_;refine zA 9 ?_;refine Ac0 rfl (Sto.store (cs:=[.int .i64 0,.bool false,.nilFunc]) (cs':=[.int .i64 vm,.bool vab,vfv]) rfl rfl (.there .here) BN2 rfl (AP3 vm vab vfv hone)) rfl rfl (Aa7 (.cons .here rfl (.cons (.there .here) rfl (.cons (.there .here) rfl (.cons (.there .here) rfl (.cons (.there .here) rfl (.cons (.there .here) rfl (.cons (.there .here) rfl .nil))))))) (.cons .here rfl (.cons .here rfl (.cons .here rfl (.cons .here rfl (.cons .here rfl (.cons .here rfl (.cons .here rfl .nil))))))) rfl ?_)
   refine zt ?_;refine zp 10 ?_;refine zd ?_;refine Ae6 ?_;exact Ai9 b34 b8 (zS 9 rfl (zS 8 rfl (zS 40 rfl (zS 39 rfl (zS 33 rfl (zS 38 rfl (zS 34 rfl (zS 37 rfl (zS 36 rfl (zS 35 rfl (Sub.skip rfl (Sub.skip rfl (Sub.skip rfl (Sub.skip rfl (Sub.skip rfl (Sub.skip rfl (Sub.skip rfl (Sub.skip rfl (Sub.skip rfl (Sub.skip rfl (Ac1 _))))))))))))))))))))) (.cons (.there .here) rfl (.cons .here rfl (.cons .here rfl (.cons .here rfl (.cons .here rfl (.cons .here rfl (.cons .here rfl (.cons .here rfl (Pick.refl _)))))))))
  refine J2.out (fun b34 b8=>?_)
  refine st ?_;refine Ac2 (zF rfl Al7) rfl rfl rfl (fun w hm=>Ad8 _ _ w) (fun e42 he42=>?_) (fun v42 hv42=>?_)
  ·obtain ⟨er42,rfl⟩:=Ae0 he42
   obtain ⟨-,-,hnb,hnc,hvn⟩:=hvat.resolve_right (fun h=>by rw [er42] at h;exact absurd h.1 (by decide));refine Aa5 ?_;exact Am9 (k:=8) (cs:=(bareC c).cells none 0++[Value.bool true]) (rest:=dkB z24.1++(rest++[])) Ag1 AE2 (Ae3 _ _) (Ae3 _ _) (Ae3 _ _) (.cons (.there (.there .here)) rfl (.cons (.there (.there (.there (.there .here)))) rfl (.cons (.there (.there (.there .here))) rfl (.cons (.there (.there .here)) rfl (.cons (.there (.there .here)) rfl (Pick.cnt fun x=>by simp only [nC,lnT,b6O];omega)))))) (.r2 rfl (.one rfl (.tail _ (.head _)) AE3 rfl) (.one rfl (.tail _ (.tail _ (.head _))) Ag0 rfl)) (fun w hm=>⟨(z24.1,[],8),⟨z24.2.1,Au4 (Cl7 hl200 hw32 hnb hnc hvn) z24.2.2⟩,rfl,hm.pick (.cons .here rfl (Pick.cnt fun x=>by simp only [nC,lnT,b6O];omega))⟩)
  obtain ⟨ok42,rfl⟩:=Ae7 hv42;obtain ⟨-,gf,rfl,hent,hcase⟩:=hvat.resolve_left (fun h=>by rw [ok42] at h;exact absurd h.1 (by decide));refine su ?_;refine cn rfl ?_ ?_
  ·intro c1'
   simp only [List.length_cons] at lzo321;have hword:∃ does:Bn→List Str→Ans,WordSpec gf does∧lineX (bareC c) d.pl s=does d.pl ws:=by (rcases hcase with ⟨-,hx,hs⟩ | ⟨-,hx,hs⟩ | ⟨vb,-,-,-,hm,-⟩;exact ⟨_,hs,CF0 hl200 hw32 hx⟩;exact ⟨_,hs,Cm2 hl200 hw32 hx⟩;exact absurd c1' (by omega))
   obtain ⟨does,hword,hline⟩:=hword;refine st ?_;refine Bk6 5 Aj3 (.cons .here rfl (.cons .here rfl (.cons .here rfl (.cons .here rfl (.cons .here rfl (.cons .here rfl (.cons .here rfl (.cons .here rfl .nil)))))))) ?_;refine Af0 (i:=0) rfl (by kernel_rfl) (by kernel_rfl) (Val.fieldAddr rfl By1) rfl rfl rfl (PanU.back rfl) (.cons .here rfl (.cons .here rfl (.cons .here rfl (.cons .here rfl (.cons .here rfl (.cons .here rfl (.cons .here rfl (.cons .here rfl .nil)))))))) rfl ?_;refine Af0 (i:=1) rfl (by kernel_rfl) (by kernel_rfl) (Ab6 rfl (.head _) CL2 rfl) rfl rfl rfl (PanU.back rfl) (.cons .here rfl (.cons .here rfl (.cons .here rfl (.cons .here rfl (.cons .here rfl (.cons .here rfl (.cons .here rfl (.cons .here rfl .nil)))))))) rfl ?_;refine Af0 (i:=2) rfl (by kernel_rfl) (by kernel_rfl) (Ab6 rfl (.tail _ (.tail _ (.tail _ (.tail _ (.tail _ (.head _)))))) BT2 rfl) rfl rfl rfl (PanU.back rfl) (.cons .here rfl (.cons .here rfl (.cons .here rfl (.cons .here rfl (.cons .here rfl (.cons .here rfl (.cons .here rfl (.cons .here rfl .nil)))))))) rfl ?_;refine Af0 (i:=3) rfl (by kernel_rfl) (by kernel_rfl) (Aa3 rfl) rfl rfl rfl (PanU.back rfl) (.cons .here rfl (.cons .here rfl (.cons .here rfl (.cons .here rfl (.cons .here rfl (.cons .here rfl (.cons .here rfl (.cons .here rfl .nil)))))))) rfl ?_;refine Af0 (i:=4) rfl (by kernel_rfl) (by kernel_rfl) (AO0 (n:=ws.length + 1) (v:=.slice (some ⟨bzo32,if czo32=1 then 0 else 0 + 1,none⟩) ws.length (czo32 - 1)) rfl Au5 (by omega) (by omega) rfl) rfl rfl rfl (PanU.back rfl) (.cons .here rfl (.cons .here rfl (.cons .here rfl (.cons .here rfl (.cons .here rfl (.cons .here rfl (.cons .here rfl (.cons .here rfl .nil)))))))) rfl ?_;refine zt ?_;refine zB 5 ?_;refine BL6 rfl (Ac5 rfl rfl hent) rfl rfl rfl (fun w hm=>(AP4 (nw':=fun z:DkX×Str=>(b5,.cells [Value.int .i64 0].toArray 34 (0,0))::(b4,.cells #[Value.string ⟨#[]⟩] 9 (0,0))::(xb,dkO z.1 c)::(dkB z.1++(rest++[]))) (np':=fun z:(Value×Value×Value)×Int=>(b6,b6O z24.1)::(b5,.cells [Value.int .i64 0].toArray 34 (0,0))::(b4,.cells #[Value.string ⟨#[]⟩] 9 (0,0))::(b2,.cells (cellsL (pV xb)).toArray 33 (0,0))::(xb,dkG z.1.1 z.1.2.1 z.1.2.2 c)::(dkB z24.1++(rest++[]))) (hword xb d c x ws rzo32 bzo32 (czo32 - 1) (some ⟨bzo32,if czo32=1 then 0 else 0 + 1,none⟩) (lnT b6 b5 b4 b2 xb z24.1 (dkB z24.1++rest)) W0 w hL hd (by omega) (by omega) hsh (fun hne=>by have:=List.length_pos_iff.2 hne;rw [if_neg (by omega)]) (hm.pick (Pick.cnt fun u=>by simp only [dkM,lnT,b6O,sbO,nC];omega))) (fun _=>(Pick.cnt fun u=>by simp only [dkM,lnT,b6O,sbO,nC];omega)) (fun _=>(Pick.cnt fun u=>by simp only [dkM,lnT,b6O,sbO,nC];omega)))) (fun p51 hp51=>?_) (fun z51 hz51=>(Ab9 ?_))
   ·refine Ax5 (Sub.skip rfl (Sub.skip rfl (Sub.skip rfl (Sub.skip rfl (Sub.skip rfl (Ac1 _)))))) ?_
    refine Aa5 ?_;refine Aa5 ?_;exact Am9 (k:=p51.2) (cs:=(bareC c).cells none 0++[Value.bool true]) (rest:=dkB z24.1++(rest++[])) Ag1 AE2 (Ae3 _ _) (Ae3 _ _) (Ae3 _ _) (.cons .here rfl (.cons (.there (.there .here)) rfl (.cons (.there .here) rfl (.cons .here rfl (.cons .here rfl (Pick.refl _)))))) (.r2 rfl (.one rfl (.tail _ (.head _)) AE3 rfl) (.one rfl (.tail _ (.tail _ (.head _))) Ag0 rfl)) (fun w hm=>⟨(z24.1,[],p51.2),⟨z24.2.1,Au4 (hline.trans hp51) z24.2.2⟩,rfl,hm.pick (.cons .here rfl (Pick.cnt fun x=>by simp only [nC,lnT,b6O];omega))⟩)
   refine zB 6 ?_;refine Ac0 rfl (Sto.store rfl rfl (.there .here) AE3 rfl rfl) rfl rfl (Ab9 ?_)
   refine zB 7 ?_;refine Ac0 rfl (Sto.store rfl rfl .here Ag0 rfl rfl) rfl rfl (Ab9 ?_)
   refine zd ?_;refine At9 ?_;refine su ?_;exact AQ6 (news2:=(b5,.cells [Value.int .i64 0].toArray 34 (0,0))::(b4,.cells [Value.string (bs z51.2)].toArray 9 (0,0))::(xb,dkO z51.1 c)::(dkB z51.1++(rest++[]))) Ag1 AE2 (Pick.cnt fun x=>by simp only [nC,lnT,b6O];omega) (.r2 rfl (.one rfl (.tail _ (.head _)) AE3 rfl) (.one rfl (.head _) Ag0 rfl)) (fun w hm=>⟨(z51.1,z51.2,0),⟨hz51.1,BE0 (hline.trans hz51.2)⟩,rfl,hm.pick (Pick.cnt fun u=>by simp only [dkM,nC];omega)⟩)
  intro c1';simp only [List.length_cons] at lzo321;obtain ⟨vb,hnb,hnc,hvx,rfl,rfl,hab1,hspec⟩:=(hcase.resolve_left (fun h=>absurd h.1 (by omega))).resolve_left (fun h=>absurd h.1 (by omega));refine st ?_;refine lv (AO0 (n:=ws.length + 1) (v:=.slice (some ⟨bzo32,if czo32=1 then 0 else 0 + 1,none⟩) ws.length (czo32 - 1)) rfl Au5 (by omega) (by omega) rfl) ?_;refine Ax3 (zF rfl Di9) rfl rfl rfl (fun w hm=>(AP4 (nw':=fun z=>(b8,.cells [Value.int .i64 (vb.many:Int),Value.bool vb.about,fnV gf].toArray 105 (0,0))::lnT b6 b5 b4 b2 xb z24.1 ((xb,dkO d c)::(nuB z++(dkB z24.1++(dkB d++(rest++[])))))) (np':=fun _=>lnT b6 b5 b4 b2 xb z24.1 ((xb,dkO d c)::(dkB z24.1++(dkB d++(rest++[]))))) (Be1 x ws rzo32 (some ⟨bzo32,if czo32=1 then 0 else 0 + 1,none⟩) bzo32 (czo32 - 1) ((b8,.cells [Value.int .i64 (vb.many:Int),Value.bool vb.about,fnV gf].toArray 105 (0,0))::lnT b6 b5 b4 b2 xb z24.1 ((xb,dkO d c)::(dkB z24.1++(dkB d++rest)))) W0 w hL (hm.pick (Pick.cnt fun u=>by simp only [lnT,b6O,sbO,nC];omega)) (fun hne=>by have:=List.length_pos_iff.2 hne;rw [if_neg (by omega)]) (by omega) hsh) (fun _=>(Pick.cnt fun u=>by simp only [lnT,b6O,sbO,nC];omega)) (fun _=>(Pick.cnt fun u=>by simp only [lnT,b6O,sbO,nC];omega)))) (fun p54 hp54=>?_) (fun z54 hz54=>?_)
  ·refine Aa5 ?_
   exact Am9 (k:=8) (cs:=(bareC c).cells none 0++[Value.bool true]) (rest:=dkB z24.1++(rest++[])) Ag1 AE2 (Ae3 _ _) (Ae3 _ _) (Ae3 _ _) (.cons .here rfl (.cons (.there (.there .here)) rfl (.cons (.there .here) rfl (.cons .here rfl (.cons .here rfl (Pick.cnt fun x=>by simp only [nC,lnT,b6O];omega)))))) (.r2 rfl (.one rfl (.tail _ (.head _)) AE3 rfl) (.one rfl (.tail _ (.tail _ (.head _))) Ag0 rfl)) (fun w hm=>⟨(z24.1,[],8),⟨z24.2.1,Au4 (Cl6 hl200 hw32 hnb hnc hvx hp54) z24.2.2⟩,rfl,hm.pick (.cons .here rfl (Pick.cnt fun x=>by simp only [nC,lnT,b6O];omega))⟩)
  obtain ⟨zo54,zl54⟩:=z54;obtain ⟨ho54,hn54⟩:=hz54;dsimp only at ho54 hn54 ⊢;refine su ?_;refine Ac2 (zF rfl Al7) rfl rfl rfl (fun w hm=>Ad8 _ _ w) (fun e60 he60=>?_) (fun v60 hv60=>?_)
  ·obtain ⟨er60,rfl⟩:=Ae0 he60
   refine Aa5 ?_;exact Am9 (k:=8) (cs:=(bareC c).cells none 0++[Value.bool true]) (rest:=dkB z24.1++(rest++[])) Ag1 AE2 (Ae3 _ _) (Ae3 _ _) (Ae3 _ _) (.cons (.there .here) rfl (.cons (.there (.there (.there .here))) rfl (.cons (.there (.there .here)) rfl (.cons (.there .here) rfl (.cons (.there .here) rfl (Pick.cnt fun x=>by simp only [nC,lnT,b6O];omega)))))) (.r2 rfl (.one rfl (.tail _ (.head _)) AE3 rfl) (.one rfl (.tail _ (.tail _ (.head _))) Ag0 rfl)) (fun w hm=>⟨(z24.1,[],8),⟨z24.2.1,Au4 (Cl8 hl200 hw32 hnb hnc hvx hn54 (by have:=of_decide_eq_false er60;omega)) z24.2.2⟩,rfl,hm.pick (.cons .here rfl (Pick.cnt fun x=>by simp only [nC,lnT,b6O];omega))⟩)
  obtain ⟨ok60,rfl⟩:=Ae7 hv60;have hlen:zl54.length=vb.many:=by have:=of_decide_eq_true ok60;omega
  refine st ?_;refine Bk6 13 Aj3 (.cons .here rfl (.cons .here rfl (.cons .here rfl (.cons .here rfl (.cons .here rfl (.cons .here rfl (Pick.refl _))))))) ?_;refine Af0 (i:=0) rfl (by kernel_rfl) (by kernel_rfl) (Val.fieldAddr rfl By2) rfl rfl rfl (PanU.back rfl) (.cons .here rfl (.cons .here rfl (.cons .here rfl (.cons .here rfl (.cons .here rfl (.cons .here rfl (Pick.refl _))))))) rfl ?_;refine Af0 (i:=1) rfl (by kernel_rfl) (by kernel_rfl) (Ab6 rfl (.head _) BT1 rfl) rfl rfl rfl (PanU.back rfl) (.cons .here rfl (.cons .here rfl (.cons .here rfl (.cons .here rfl (.cons .here rfl (.cons .here rfl (Pick.refl _))))))) rfl ?_;refine Af0 (i:=2) rfl (by kernel_rfl) (by kernel_rfl) (Aa3 rfl) rfl rfl rfl (PanU.back rfl) (.cons .here rfl (.cons .here rfl (.cons .here rfl (.cons .here rfl (.cons .here rfl (.cons .here rfl (Pick.refl _))))))) rfl ?_;refine Af0 (i:=3) rfl (by kernel_rfl) (by kernel_rfl) (Aa3 rfl) rfl rfl rfl (PanU.back rfl) (.cons .here rfl (.cons .here rfl (.cons .here rfl (.cons .here rfl (.cons .here rfl (.cons .here rfl (Pick.refl _))))))) rfl ?_;refine Ap5 (dj:=64) rfl ?_ ?_
  ·intro g64
   have g64':=g64;clear g64;try simp only [nH] at g64'
   have hab:vb.about=false:=by simpa using g64'
   refine An3 (i:=4) rfl (by kernel_rfl) (by kernel_rfl) rfl rfl rfl (PanU.back rfl) (.cons .here rfl (.cons .here rfl (.cons .here rfl (.cons .here rfl (.cons .here rfl (.cons .here rfl (Pick.refl _))))))) rfl ?_;refine An3 (i:=5) rfl (by kernel_rfl) (by kernel_rfl) rfl rfl rfl (PanU.back rfl) (.cons .here rfl (.cons .here rfl (.cons .here rfl (.cons .here rfl (.cons .here rfl (.cons .here rfl (Pick.refl _))))))) rfl ?_;refine An3 (i:=6) rfl (by kernel_rfl) (by kernel_rfl) rfl rfl rfl (PanU.back rfl) (.cons .here rfl (.cons .here rfl (.cons .here rfl (.cons .here rfl (.cons .here rfl (.cons .here rfl (Pick.refl _))))))) rfl ?_;refine An3 (i:=7) rfl (by kernel_rfl) (by kernel_rfl) rfl rfl rfl (PanU.back rfl) (.cons .here rfl (.cons .here rfl (.cons .here rfl (.cons .here rfl (.cons .here rfl (.cons .here rfl (Pick.refl _))))))) rfl ?_;refine An3 (i:=8) rfl (by kernel_rfl) (by kernel_rfl) rfl rfl rfl (PanU.back rfl) (.cons .here rfl (.cons .here rfl (.cons .here rfl (.cons .here rfl (.cons .here rfl (.cons .here rfl (Pick.refl _))))))) rfl ?_;refine An3 (i:=9) rfl (by kernel_rfl) (by kernel_rfl) rfl rfl rfl (PanU.back rfl) (.cons .here rfl (.cons .here rfl (.cons .here rfl (.cons .here rfl (.cons .here rfl (.cons .here rfl (Pick.refl _))))))) rfl ?_;refine An3 (i:=10) rfl (by kernel_rfl) (by kernel_rfl) rfl rfl rfl (PanU.back rfl) (.cons .here rfl (.cons .here rfl (.cons .here rfl (.cons .here rfl (.cons .here rfl (.cons .here rfl (Pick.refl _))))))) rfl ?_;refine An3 (i:=11) rfl (by kernel_rfl) (by kernel_rfl) rfl rfl rfl (PanU.back rfl) (.cons .here rfl (.cons .here rfl (.cons .here rfl (.cons .here rfl (.cons .here rfl (.cons .here rfl (Pick.refl _))))))) rfl ?_;refine An3 (i:=12) rfl (by kernel_rfl) (by kernel_rfl) rfl rfl rfl (PanU.back rfl) (.cons .here rfl (.cons .here rfl (.cons .here rfl (.cons .here rfl (.cons .here rfl (.cons .here rfl (Pick.refl _))))))) rfl ?_;refine zt ?_;refine zB 13 ?_;refine Ao3 rfl rfl rfl rfl (Ab9 ?_)
   refine zp 14 ?_;refine zB 15 ?_;refine Am7 rfl (zF rfl Al7) rfl rfl rfl (fun w hm=>Ad8 _ _ w) (fun e76 he76=>?_) (fun v76 hv76=>(Ab9 ?_))
   ·obtain ⟨er76,rfl⟩:=Ae0 he76
    refine Ax5 (Sub.skip rfl (Sub.skip rfl (Sub.skip rfl (Sub.skip rfl (Sub.skip rfl (Sub.skip rfl (Sub.skip rfl (Sub.skip rfl (Sub.skip rfl (Sub.skip rfl (Sub.skip rfl (Sub.skip rfl (Sub.skip rfl (Sub.skip rfl (Sub.skip rfl (Sub.skip rfl (Ac1 _))))))))))))))))) ?_;refine Aa5 ?_;exact absurd er76 (by decide)
   obtain ⟨ok76,rfl⟩:=Ae7 hv76;have hrng:vb.about=true→N zl54 0 < d.vs.length:=by (first | (have h9:=of_decide_eq_true ok76;have h8:=(AH8 hn54 (zl54.getD 0 0) (by rw [List.getD_eq_getElem?_getD,List.getElem?_eq_getElem (by omega)];exact List.getElem_mem _)).1;intro _;unfold N;omega) | (intro h;rw [hab] at h;cases h))
   refine zd ?_;refine At9 ?_;refine su ?_;refine Ax3 (Ac5 rfl rfl hent) rfl rfl rfl (fun w hm=>(AP4 (nw':=fun z:DkX×Str=>(b5,.cells [Value.int .i64 0].toArray 34 (0,0))::(b4,.cells #[Value.string ⟨#[]⟩] 9 (0,0))::(xb,dkO z.1 c)::(dkB z.1++(rest++[]))) (np':=fun z:(Value×Value×Value)×Int=>(b6,b6O z24.1)::(b5,.cells [Value.int .i64 0].toArray 34 (0,0))::(b4,.cells #[Value.string ⟨#[]⟩] 9 (0,0))::(b2,.cells (cellsL (pV xb)).toArray 33 (0,0))::(xb,dkG z.1.1 z.1.2.1 z.1.2.2 c)::(dkB z24.1++(rest++[]))) (hspec xb d c zo54 zl54 (lnT b6 b5 b4 b2 xb z24.1 (dkB z24.1++rest)) W0 w hL hd ho54 hlen (AH8 hn54) hrng (hm.pick (Pick.cnt fun u=>by simp only [dkM,lnT,b6O,sbO,nC];omega))) (fun _=>(Pick.cnt fun u=>by simp only [dkM,lnT,b6O,sbO,nC];omega)) (fun _=>(Pick.cnt fun u=>by simp only [dkM,lnT,b6O,sbO,nC];omega)))) (fun p81 hp81=>?_) (fun z81 hz81=>?_)
   ·refine Aa5 ?_
    exact Am9 (k:=p81.2) (cs:=(bareC c).cells none 0++[Value.bool true]) (rest:=dkB z24.1++(rest++[])) Ag1 AE2 (Ae3 _ _) (Ae3 _ _) (Ae3 _ _) (.cons .here rfl (.cons (.there (.there .here)) rfl (.cons (.there .here) rfl (.cons .here rfl (.cons .here rfl (Pick.refl _)))))) (.r2 rfl (.one rfl (.tail _ (.head _)) AE3 rfl) (.one rfl (.tail _ (.tail _ (.head _))) Ag0 rfl)) (fun w hm=>⟨(z24.1,[],p81.2),⟨z24.2.1,Au4 ((AF5 hl200 hw32 hnb hnc hvx hn54 hlen (by rw [hvl];exact hrng)).trans hp81) z24.2.2⟩,rfl,hm.pick (.cons .here rfl (Pick.cnt fun x=>by simp only [nC,lnT,b6O];omega))⟩)
   refine Aa9 (Sto.store rfl rfl (.there .here) AE3 rfl rfl) rfl rfl ?_;refine Aa9 (Sto.store rfl rfl .here Ag0 rfl rfl) rfl rfl ?_;refine su ?_;exact AQ6 (news2:=(b5,.cells [Value.int .i64 0].toArray 34 (0,0))::(b4,.cells [Value.string (bs z81.2)].toArray 9 (0,0))::(xb,dkO z81.1 c)::(dkB z81.1++(rest++[]))) Ag1 AE2 (Pick.cnt fun x=>by simp only [nC,lnT,b6O];omega) (.r2 rfl (.one rfl (.tail _ (.head _)) AE3 rfl) (.one rfl (.head _) Ag0 rfl)) (fun w hm=>⟨(z81.1,z81.2,0),⟨hz81.1,BE0 ((AF5 hl200 hw32 hnb hnc hvx hn54 hlen (by rw [hvl];exact hrng)).trans hz81.2)⟩,rfl,hm.pick (Pick.cnt fun u=>by simp only [dkM,nC];omega)⟩)
  intro g64;have g64':=g64;clear g64;try simp only [nH] at g64'
  have hab:vb.about=true:=by simpa using g64'
  have hl0:=hab1 hab;refine Af0 (i:=4) rfl (by kernel_rfl) (by kernel_rfl) (Aa3 rfl) rfl rfl rfl (PanU.back rfl) (.cons .here rfl (.cons .here rfl (.cons .here rfl (.cons .here rfl (.cons .here rfl (.cons .here rfl (Pick.refl _))))))) rfl ?_;refine Af0 (i:=5) rfl (by kernel_rfl) (by kernel_rfl) (Aa8 rfl rfl Ah5 (by decide) (by omega) (Bm9 ho54 (by omega))) rfl rfl rfl (PanU.back rfl) (.cons .here rfl (.cons .here rfl (.cons .here rfl (.cons .here rfl (.cons .here rfl (.cons .here rfl (Pick.refl _))))))) rfl ?_;refine Af0 (i:=6) rfl (by kernel_rfl) (by kernel_rfl) (Ab0 rfl (fun w hm=>Sl.cellE (Ar5 (f:=intC) (e:=3) (fun _=>rfl) (by decide) ho54 (fun b o h=>hm.at (.tail _ (.tail _ (.tail _ (.tail _ (.tail _ (.tail _ ((by first | exact List.mem_append_left _ h | exact List.mem_append_right _ (List.mem_append_left _ h))))))))))) (Mem.refl w) (by simp) Ag4 (i:=0) (by omega) (x:=zl54.getD 0 0) (by rw [List.getD_eq_getElem?_getD,List.getElem?_eq_getElem (by omega)];rfl) (j:=0) (by decide) (v:=.int .i64 (zl54.getD 0 0)) rfl (by simp))) rfl rfl rfl (PanU.back rfl) (.cons .here rfl (.cons .here rfl (.cons .here rfl (.cons .here rfl (.cons .here rfl (.cons .here rfl (Pick.refl _))))))) rfl ?_;refine Af0 (i:=7) rfl (by kernel_rfl) (by kernel_rfl) (Ab6 rfl (.tail _ (.tail _ (.tail _ (.tail _ (.head _))))) BT2 rfl) rfl rfl rfl (PanU.back rfl) (.cons .here rfl (.cons .here rfl (.cons .here rfl (.cons .here rfl (.cons .here rfl (.cons .here rfl (Pick.refl _))))))) rfl ?_;refine Af0 (i:=8) rfl (by kernel_rfl) (by kernel_rfl) (Aa3 rfl) rfl rfl rfl (PanU.back rfl) (.cons .here rfl (.cons .here rfl (.cons .here rfl (.cons .here rfl (.cons .here rfl (.cons .here rfl (Pick.refl _))))))) rfl ?_;refine Af0 (i:=9) rfl (by kernel_rfl) (by kernel_rfl) (Val.fieldAddr rfl AD1) rfl rfl rfl (PanU.back rfl) (.cons .here rfl (.cons .here rfl (.cons .here rfl (.cons .here rfl (.cons .here rfl (.cons .here rfl (Pick.refl _))))))) rfl ?_;refine Af0 (i:=10) rfl (by kernel_rfl) (by kernel_rfl) (Val.fieldAddr rfl AN2) rfl rfl rfl (PanU.back rfl) (.cons .here rfl (.cons .here rfl (.cons .here rfl (.cons .here rfl (.cons .here rfl (.cons .here rfl (Pick.refl _))))))) rfl ?_;refine Af0 (i:=11) rfl (by kernel_rfl) (by kernel_rfl) (Ab6 rfl (.tail _ (.tail _ (.tail _ (.tail _ (.tail _ (.head _)))))) Bs7 rfl) rfl rfl rfl (PanU.back rfl) (.cons .here rfl (.cons .here rfl (.cons .here rfl (.cons .here rfl (.cons .here rfl (.cons .here rfl (Pick.refl _))))))) rfl ?_;refine Af0 (i:=12) rfl (by kernel_rfl) (by kernel_rfl) (Ag6 rfl AE4 hdv) rfl rfl rfl (PanU.back rfl) (.cons .here rfl (.cons .here rfl (.cons .here rfl (.cons .here rfl (.cons .here rfl (.cons .here rfl (Pick.refl _))))))) rfl ?_;refine zt ?_;refine zp 13 ?_;refine zp 14 ?_;refine zB 15 ?_;refine Am7 rfl (zF rfl Al7) rfl rfl rfl (fun w hm=>Ad8 _ _ w) (fun e76 he76=>?_) (fun v76 hv76=>(Ab9 ?_))
  ·obtain ⟨er76,rfl⟩:=Ae0 he76
   refine Ax5 (Sub.skip rfl (Sub.skip rfl (Sub.skip rfl (Sub.skip rfl (Sub.skip rfl (Sub.skip rfl (Sub.skip rfl (Sub.skip rfl (Sub.skip rfl (Sub.skip rfl (Sub.skip rfl (Sub.skip rfl (Sub.skip rfl (Sub.skip rfl (Sub.skip rfl (Sub.skip rfl (Ac1 _))))))))))))))))) ?_;refine Aa5 ?_;exact Am9 (k:=2) (cs:=(bareC c).cells none 0++[Value.bool true]) (rest:=dkB z24.1++(rest++[])) Ag1 AE2 (Ae3 _ _) (Ae3 _ _) (Ae3 _ _) (.cons (.there .here) rfl (.cons (.there (.there (.there .here))) rfl (.cons (.there (.there .here)) rfl (.cons (.there .here) rfl (.cons (.there .here) rfl (Pick.cnt fun x=>by simp only [nC,lnT,b6O];omega)))))) (.r2 rfl (.one rfl (.tail _ (.head _)) AE3 rfl) (.one rfl (.tail _ (.tail _ (.head _))) Ag0 rfl)) (fun w hm=>⟨(z24.1,[],2),⟨z24.2.1,Au4 (BX0 hl200 hw32 hnb hnc hvx hn54 hlen hab (by have:=of_decide_eq_false er76;rw [hvl];unfold N;omega)) z24.2.2⟩,rfl,hm.pick (.cons .here rfl (Pick.cnt fun x=>by simp only [nC,lnT,b6O];omega))⟩)
  obtain ⟨ok76,rfl⟩:=Ae7 hv76;have hrng:vb.about=true→N zl54 0 < d.vs.length:=by (first | (have h9:=of_decide_eq_true ok76;have h8:=(AH8 hn54 (zl54.getD 0 0) (by rw [List.getD_eq_getElem?_getD,List.getElem?_eq_getElem (by omega)];exact List.getElem_mem _)).1;intro _;unfold N;omega) | (intro h;rw [hab] at h;cases h))
  refine zd ?_;refine At9 ?_;refine su ?_;refine Ax3 (Ac5 rfl rfl hent) rfl rfl rfl (fun w hm=>(AP4 (nw':=fun z:DkX×Str=>(b5,.cells [Value.int .i64 0].toArray 34 (0,0))::(b4,.cells #[Value.string ⟨#[]⟩] 9 (0,0))::(xb,dkO z.1 c)::(dkB z.1++(rest++[]))) (np':=fun z:(Value×Value×Value)×Int=>(b6,b6O z24.1)::(b5,.cells [Value.int .i64 0].toArray 34 (0,0))::(b4,.cells #[Value.string ⟨#[]⟩] 9 (0,0))::(b2,.cells (cellsL (pV xb)).toArray 33 (0,0))::(xb,dkG z.1.1 z.1.2.1 z.1.2.2 c)::(dkB z24.1++(rest++[]))) (hspec xb d c zo54 zl54 (lnT b6 b5 b4 b2 xb z24.1 (dkB z24.1++rest)) W0 w hL hd ho54 hlen (AH8 hn54) hrng (hm.pick (Pick.cnt fun u=>by simp only [dkM,lnT,b6O,sbO,nC];omega))) (fun _=>(Pick.cnt fun u=>by simp only [dkM,lnT,b6O,sbO,nC];omega)) (fun _=>(Pick.cnt fun u=>by simp only [dkM,lnT,b6O,sbO,nC];omega)))) (fun p81 hp81=>?_) (fun z81 hz81=>?_)
  ·refine Aa5 ?_
   exact Am9 (k:=p81.2) (cs:=(bareC c).cells none 0++[Value.bool true]) (rest:=dkB z24.1++(rest++[])) Ag1 AE2 (Ae3 _ _) (Ae3 _ _) (Ae3 _ _) (.cons .here rfl (.cons (.there (.there .here)) rfl (.cons (.there .here) rfl (.cons .here rfl (.cons .here rfl (Pick.refl _)))))) (.r2 rfl (.one rfl (.tail _ (.head _)) AE3 rfl) (.one rfl (.tail _ (.tail _ (.head _))) Ag0 rfl)) (fun w hm=>⟨(z24.1,[],p81.2),⟨z24.2.1,Au4 ((AF5 hl200 hw32 hnb hnc hvx hn54 hlen (by rw [hvl];exact hrng)).trans hp81) z24.2.2⟩,rfl,hm.pick (.cons .here rfl (Pick.cnt fun x=>by simp only [nC,lnT,b6O];omega))⟩)
  refine Aa9 (Sto.store rfl rfl (.there .here) AE3 rfl rfl) rfl rfl ?_;refine Aa9 (Sto.store rfl rfl .here Ag0 rfl rfl) rfl rfl ?_;refine su ?_;exact AQ6 (news2:=(b5,.cells [Value.int .i64 0].toArray 34 (0,0))::(b4,.cells [Value.string (bs z81.2)].toArray 9 (0,0))::(xb,dkO z81.1 c)::(dkB z81.1++(rest++[]))) Ag1 AE2 (Pick.cnt fun x=>by simp only [nC,lnT,b6O];omega) (.r2 rfl (.one rfl (.tail _ (.head _)) AE3 rfl) (.one rfl (.head _) Ag0 rfl)) (fun w hm=>⟨(z81.1,z81.2,0),⟨hz81.1,BE0 ((AF5 hl200 hw32 hnb hnc hvx hn54 hlen (by rw [hvl];exact hrng)).trans hz81.2)⟩,rfl,hm.pick (Pick.cnt fun u=>by simp only [dkM,nC];omega)⟩)
end Go.Proofs.YtnmkdiagbkkmaabGreatDoor
namespace Go.Dk
open Go Go.Eng Go.Pw1 Go.Hp
def Cod (k:Int):Prop:=0≤k∧k≤20
theorem Dk3:Cod 11:=⟨by decide,by decide⟩
theorem Dn4:Cod 1:=⟨by decide,by decide⟩
theorem Cb1:Cod 0:=⟨by decide,by decide⟩
theorem Cod.in64 {k:Int} (h:Cod k):In64 k:=by unfold Cod at h;unfold In64;omega
theorem CD0 {p:Pr} {l:List Int} {k:Int} (h:openX p l = .error k):Cod k:=by
  unfold openX at h
  split at h
  · split at h
    · cases h;exact ⟨by decide,by decide⟩
    · cases h
  · cases h;exact ⟨by decide,by decide⟩
theorem AH2 {p:Pr} {l:List Int} {k:Int} (h:truthsX p l = .error k):Cod k:=by
  unfold truthsX at h
  split at h
  · rename_i hk;cases h;exact CD0 hk
  · unfold lookX at h
    split at h
    · cases h
    · cases h;exact ⟨by decide,by decide⟩
theorem CP0 (p:Pr) (n:Int):Cod (whyX p n).2:=by
  unfold whyX
  split
  · rename_i hk;exact AH2 hk
  · exact Cb1
theorem Bu4 (p:Pr):Cod (powerX p).2:=by
  unfold powerX
  split
  · rename_i hk;exact AH2 hk
  · exact Cb1
theorem CI8 (p:Pr) (n:Int):Cod (distX p n).2:=by
  unfold distX
  split
  · rename_i hk;exact AH2 hk
  · dsimp only
    split
    · split <;> exact Cb1
    · exact ⟨by decide,by decide⟩
theorem BY1 (p:Pr):Cod (fewestX p).2.2:=by
  unfold fewestX
  split
  · rename_i hk;exact AH2 hk
  · exact Cb1
theorem AY1 (c:Cd) (l:List Tr):Cod (openM c l):=by
  unfold openM
  split
  · split
    · exact Bu4 _
    · exact ⟨by decide,by decide⟩
  · exact ⟨by decide,by decide⟩
theorem Cm7 (c:Cd) (t:Tr):Cod (hurtsX c t).2.2:=by
  unfold hurtsX
  split
  · split
    · exact Cb1
    · exact Dk3
  · exact AY1 _ _
theorem Cz8 (c:Cd):Cod (trimX c).2:=by
  unfold trimX
  split
  · split
    · exact Cb1
    · exact ⟨by decide,by decide⟩
  · exact AY1 _ _
theorem CC6 (c:Cd) (t:Tr):Cod (roomX c t).2:=by
  unfold roomX
  split
  · split
    · exact ⟨by decide,by decide⟩
    · exact Cb1
  · exact AY1 _ _
theorem BZ0 (c:Cd) (t:Tr):Cod (depthsX c t).2:=by
  unfold depthsX
  split
  · split
    · exact ⟨by decide,by decide⟩
    · exact Cb1
  · exact CC6 _ _
theorem Cc2 (m:Mx):Cod (waysE m):=by
  unfold waysE
  repeat' split
  all_goals exact ⟨by decide,by decide⟩
theorem Cv5 (m:Mx):Cod (WhyX m).2:=by
  unfold WhyX
  repeat' split
  all_goals first | exact Dk3 | exact Cb1 | exact Dn4
theorem Bs1 (m:Mx):Cod (SureX m).2:=by
  unfold SureX
  split
  · exact Cb1
  · exact Cc2 m
theorem Cw5 (m:Mx):Cod (CountX m).2:=by
  unfold CountX
  split <;> first | exact Cb1 | exact Dn4
def anyM (m:Mx):MxA:=⟨m.boxes.map fun x=>⟨x,none,0,0,0⟩,none,0,0,0,m.cards,none,0,0,0⟩
theorem Cv2 (m:Mx):(anyM m).pl=m:=by
  show (⟨(m.boxes.map fun x=>(⟨x,none,0,0,0⟩:BxA)).map BxA.bx,m.cards⟩:Mx)=m
  rw [List.map_map];exact congrArg (fun l=>(⟨l,m.cards⟩:Mx)) (List.map_id m.boxes)
theorem Ce9 (m:Mx) (k:Nat):In64 ((SureX m).1.getD k 0):=by
  rw [List.getD_eq_getElem?_getD]
  cases h:(SureX m).1[k]? with
  | none=>exact Ag8
  | some e=>exact BD8 (anyM m) e (by rw [Cv2];exact List.mem_of_getElem? h)
theorem CJ0 (m:Mx):In64 (CountX m).1:=by have h:=BR0 (anyM m);rw [Cv2] at h;exact h
theorem CA3 (m:Mx):(SureX m).1.length≤m.cards.length:=by
  unfold SureX
  split
  · simp
  · simp
theorem Bm5 {w:Str} {l:List Int} (hw:w.length≤10) (hl:l.length≤5) (h:∀ n∈l,In64 n):(sayX w l).length≤200:=by
  have key:∀ l:List Int,(∀ n∈l,In64 n)→((l.map fun n=>32::Lib.itoa n).flatten).length≤21 * l.length:=by
    intro l
    induction l with
    | nil=>intro _;simp
    | cons n l ih =>
      intro h;have h1:=AI1 (h n (by simp));have h2:=ih (fun x hx=>h x (by simp [hx]));simp only [List.map_cons,List.flatten_cons,List.length_append,List.length_cons];omega
  have:=key l h
  unfold sayX;rw [List.length_append];omega
def Good (a:Ans):Prop:=(∀ b r,a = .ok (b,r)→r.length≤4000)∧∀ k,a = .error k→Cod k
theorem Bo0 {b:Bn} {r:Str} (h:r.length≤4000):Good (.ok (b,r)):=⟨fun _ _ e=>by cases e;exact h,fun _ e=>by cases e⟩
theorem Al6 {k:Int} (h:Cod k):Good (.error k):=⟨fun _ _ e=>(by cases e),fun _ e=>by cases e;exact h⟩
theorem An0 {k:Int} (h0:0≤k) (h:k≤20):Good (.error k):=Al6 ⟨h0,h⟩
theorem An4 {b:Bn} {w:Str} {l:List Int} (hw:w.length≤10) (hl:l.length≤5) (h:∀ n∈l,In64 n):Good (.ok (b,sayX w l)):=Bo0 (Nat.le_trans (Bm5 hw hl h) (by decide))
theorem AR6 {n:Int} (h:In64 n):∀ m∈[n],In64 m:=fun m hm=>by rw [List.mem_singleton] at hm;subst hm;exact h
theorem Bh8 {n k:Int} (h:In64 n) (h2:In64 k):∀ m∈[n,k],In64 m:=fun m hm=>by
  simp only [List.mem_cons,List.not_mem_nil,or_false] at hm
  rcases hm with rfl | rfl
  · exact h
  · exact h2
theorem Bw9 {n:Nat} (h:n≤1000000):In64 (n:Int):=by unfold In64;omega
structure BnSm (b:Bn):Prop where
  v:b.views.length≤4
  t:∀ v∈b.views,v.p.things.length≤12
  bx:b.heap.boxes.length≤4
  c:b.heap.cards.length≤8
theorem DkOk.sm {d:DkX} (h:DkOk d):BnSm d.pl :=
  ⟨by show (d.vs.map _).length ≤ 4; rw [List.length_map]; exact h.few.1, fun v hv => by
      obtain ⟨x,hx,rfl⟩:=List.mem_map.1 hv;exact h.things x hx,
   by show (d.bs.map _).length≤4;rw [List.length_map];exact h.few.2.1,h.few.2.2⟩
variable {b:Bn}
theorem BnSm.at (h:BnSm b) (i:Nat):(b.views.getD i noVw).p.things.length≤12:=by
  rw [List.getD_eq_getElem?_getD]
  cases e:b.views[i]? with
  | none=>exact (by decide:(0:Nat)≤12)
  | some v=>exact h.t v (List.mem_of_getElem? e)
theorem Cc5 (h:BnSm b) (c:Cd):Good (viewD c b):=by
  unfold viewD
  split
  · exact An4 (by decide) (by simp) (AR6 (Bw9 (by have:=h.v;omega)))
  · exact An0 (by decide) (by decide)
theorem BT5 (h:BnSm b) (i:Nat) (x1 x2 y1 y2:Int):Good (thingD b i x1 x2 y1 y2):=by
  have ht:=h.at i;unfold thingD;dsimp only
  split
  · exact An0 (by decide) (by decide)
  · split
    · exact An0 (by decide) (by decide)
    · split
      · exact An4 (by decide) (by simp) (Bh8 (Bw9 (by omega)) (CK8 _ _))
      · exact Al6 (CP0 _ _)
theorem Ck5 (i k:Nat) (far:Int):Good (markD b i k far):=by
  unfold markD;dsimp only
  split
  · exact An0 (by decide) (by decide)
  · split
    · exact An0 (by decide) (by decide)
    · split
      · exact An4 (by decide) (by simp) (Bh8 (Bm7 _).1 (Bm7 _).2)
      · exact Al6 (Bu4 _)
theorem CI2 (i k:Nat):Good (farD b i k):=by
  unfold farD;dsimp only
  split
  · exact An0 (by decide) (by decide)
  · split
    · exact An4 (by decide) (by simp) (Bh8 (BJ5 _ _).1 (BJ5 _ _).2)
    · exact Al6 (CI8 _ _)
theorem BW5 (i:Nat):Good (movedD b i):=by
  unfold movedD;dsimp only
  split
  · exact An4 (by decide) (by simp) (AR6 (By5 _))
  · exact Al6 (BY1 _)
theorem BX6 (h:BnSm b) (c:Cd) (i:Nat) (t:Tr):Good (hurtsD c b i t):=by
  have ht:=h.at i;have hb:=BP4 (cardV c (b.views.getD i noVw)) t (by show (b.views.getD i noVw).p.things.length≤1000;omega);unfold hurtsD;dsimp only
  split
  · exact An4 (by decide) (by simp) (Bh8 hb.1 hb.2)
  · split
    · exact Bo0 (by decide)
    · exact Al6 (Cm7 _ _)
theorem Ce1 (c:Cd) (i:Nat):Good (trimD c b i):=by
  unfold trimD;dsimp only
  split
  · exact An0 (by decide) (by decide)
  · split
    · refine An4 (by decide) (by simp) (fun m hm=>?_)
      have hb:=Ce5 (cardV c (b.views.getD i noVw));simp only [List.mem_cons,List.not_mem_nil,or_false] at hm
      rcases hm with rfl | rfl | rfl | rfl
      · exact hb.1
      · exact hb.2.1
      · exact hb.2.2.1
      · exact hb.2.2.2
    · exact Al6 (Cz8 _)
theorem Ct0 (c:Cd) (i:Nat):Good (deepD c b i):=by
  unfold deepD;dsimp only
  split
  · exact An0 (by decide) (by decide)
  · split
    · exact An4 (by decide) (by simp) (Bh8 (Bb2 _ _).1 (Bb2 _ _).2)
    · exact Al6 (BZ0 _ _)
theorem CD1 (i:Nat) (hi:In64 (i:Int)):Good (offD b i):=by
  unfold offD;dsimp only
  split
  · exact An0 (by decide) (by decide)
  · exact An4 (by decide) (by simp) (AR6 hi)
theorem CJ5 (h:BnSm b) (w:List Str):Good (boxD b w):=by
  have hb:=h.bx;unfold boxD
  split
  · exact An0 (by decide) (by decide)
  · split
    · exact An0 (by decide) (by decide)
    · split
      · exact An0 (by decide) (by decide)
      · dsimp only
        split
        · exact An4 (by decide) (by simp) (AR6 (Bw9 (by omega)))
        · exact Al6 (Cv5 _)
theorem CS5 (m:Mx) (old:List Int) (hl:m.cards.length≤100):(newsX old (SureX m).1).length≤m.cards.length∧∀ x∈newsX old (SureX m).1,In64 (x.1:Int)∧In64 x.2:=by
  have hs:=CA3 m
  constructor
  · unfold newsX
    refine Nat.le_trans (List.length_filterMap_le _ _) ?_;rw [List.length_range];exact hs
  · intro x hx
    unfold newsX at hx;obtain ⟨i,hi,he⟩:=List.mem_filterMap.1 hx;have h1:=List.mem_range.1 hi
    split at he
    · cases he
    · cases he
      exact ⟨Bw9 (by omega),Ce9 m i⟩
theorem BN4:∀ {l:List (Nat×Int)},(∀ x∈l,In64 (x.1:Int)∧In64 x.2)→((l.map fun x=>32::sayX wIs [(x.1:Int),x.2]).flatten).length≤201 * l.length
  | [],_=>by simp
  | x::l,h=>by
    have h1:=h x (by simp);have h2:=Bm5 (w:=wIs) (l:=[(x.1:Int),x.2]) (by decide) (by simp) (Bh8 h1.1 h1.2);have h3:=BN4 (l:=l) (fun y hy=>h y (by simp [hy]));simp only [List.map_cons,List.flatten_cons,List.length_append,List.length_cons];omega
theorem Ct8 (h:BnSm b) (w:List Str):Good (cardD b w):=by
  have hb:=h.c;unfold cardD
  split
  · exact An0 (by decide) (by decide)
  · split
    · exact An0 (by decide) (by decide)
    · split
      · exact An0 (by decide) (by decide)
      · split
        · exact Al6 (Bs1 _)
        · dsimp only
          split
          · exact Al6 (Cv5 _)
          · split
            · exact Al6 (Bs1 _)
            · rename_i n _ _ _ _ _
              have hn:=CS5 ⟨b.heap.boxes,b.heap.cards++[⟨n,w.getD 1 [],w.getD 2 []⟩]⟩ (SureX b.heap).1 (by simp;omega);have h1:=BN4 hn.2;have h2:=hn.1;have h3:=Bm5 (w:=wCard) (l:=[(b.heap.cards.length:Int)]) (by decide) (by simp) (AR6 (Bw9 (by omega)));simp only [List.length_append,List.length_singleton] at h2;refine Bo0 ?_;rw [List.length_append];refine Nat.le_trans (Nat.add_le_add h3 h1) ?_;omega
theorem Cc1:Good (waysD b):=by
  unfold waysD
  split
  · exact An4 (by decide) (by simp) (AR6 (CJ0 _))
  · exact Al6 (Cw5 _)
theorem BS7 (k:Nat):Good (whichD b k):=by
  unfold whichD
  split
  · exact An0 (by decide) (by decide)
  · split
    · exact Al6 (Bs1 _)
    · dsimp only
      split
      · exact Bo0 (by decide)
      · exact An4 (by decide) (by simp) (AR6 (Ce9 _ _))
theorem Cc6 {x:Str} {v:Vb} (h:verbX x=some v):∃ k,(k,v)∈verbsX:=by
  unfold verbX at h;obtain ⟨y,hy,rfl⟩:=Option.map_eq_some_iff.1 h;exact ⟨y.1,List.mem_of_find?_eq_some hy⟩
theorem Do4 {ns:List Int} (h:∀ n∈ns,0≤n∧n≤9223372036854775807) (k:Nat):In64 (N ns k:Int):=by
  have h1:0≤ns.getD k 0∧ns.getD k 0≤9223372036854775807:=by
    rw [List.getD_eq_getElem?_getD]
    cases e:ns[k]? with
    | none=>exact ⟨by decide,by decide⟩
    | some v=>exact h v (List.mem_of_getElem? e)
  unfold N In64;omega
theorem Cs8 (h:BnSm b) (c:Cd) {x:Str} {v:Vb} (hv:verbX x=some v) {n:List Int} (hn:∀ m∈n,0≤m∧m≤9223372036854775807):Good (v.does c b n):=by
  obtain ⟨k,hk⟩:=Cc6 hv;simp only [verbsX,List.mem_cons,Prod.mk.injEq,List.not_mem_nil,or_false] at hk
  rcases hk with ⟨-,rfl⟩ | ⟨-,rfl⟩ | ⟨-,rfl⟩ | ⟨-,rfl⟩ | ⟨-,rfl⟩ | ⟨-,rfl⟩ | ⟨-,rfl⟩ | ⟨-,rfl⟩ | ⟨-,rfl⟩ | ⟨-,rfl⟩ | ⟨-,rfl⟩
  · exact Cc5 h c
  · exact BT5 h _ _ _ _ _
  · exact Ck5 _ _ _
  · exact CI2 _ _
  · exact BW5 _
  · exact BX6 h c _ _
  · exact Ce1 c _
  · exact Ct0 c _
  · exact CD1 _ (Do4 hn 0)
  · exact Cc1
  · exact BS7 _
theorem Bv9 (h:BnSm b) (c:Cd) (s:Str):Good (lineX c b s):=by
  unfold lineX
  split
  · exact An0 (by decide) (by decide)
  · split
    · exact An0 (by decide) (by decide)
    · split
      · exact CJ5 h _
      · split
        · exact Ct8 h _
        · split
          · exact An0 (by decide) (by decide)
          · rename_i hv
            split
            · exact An0 (by decide) (by decide)
            · rename_i hn
              split
              · exact An0 (by decide) (by decide)
              · split
                · exact An0 (by decide) (by decide)
                · exact Cs8 h c hv (AH8 hn)
theorem CA7 (h:BnSm b) (c:Cd) (s:Str):Cod (stepX c b s).2.2:=by
  unfold stepX
  cases e:lineX c b s with
  | ok y=>exact Cb1
  | error k=>exact (Bv9 h c s).2 k e
theorem CA6 (h:BnSm b) (c:Cd) (s:Str):(stepX c b s).2.1.length≤4000:=by
  unfold stepX
  cases e:lineX c b s with
  | ok y=>exact (Bv9 h c s).1 y.1 y.2 e
  | error k=>simp
theorem CI5 {r:Str} {e:Int} (hr:r.length≤4000) (he:Cod e):(echoX r e).length≤4000:=by
  unfold echoX
  split
  · exact hr
  · exact Nat.le_trans (Bm5 (by decide) (by simp) (AR6 he.in64)) (by decide)
end Go.Dk
namespace Go.Eng
open Go Go.RowKit
section
variable {P:Program} {ops:Array Oper} {Q:Exit→Act→World→Prop} {n:Nat} {r:Regs} {ds:List Deferred} {W:World} {chg news:Blks} {rest:List Oper} {d:Nat}
theorem Br7 {x:Operand} {T ty:TypeId} {dst:Option Tmp} {gd:Option (Nat×Bool)} {pos:String} {after:Array Edge} {q:Option Addr} {m c:Nat} (hx:rev r x=some (.slice q m c)) (hc:q=none∨c ≠ 0) :
    Val P r W chg news { dst,op:=.call { callee:=.builtin .unsafeSliceData,args:=#[x],argTypes:=#[T] },type:=ty,pos,after,guard:=gd } (.pointer q) :=
  ⟨fun a w ha _=>by
    have hrun:(Builtin.unsafeSliceData_ #[T] ty #[.slice q m c]).run P w = .ok (.pointer q) w:=by
      cases q with
      | none=>exact Lib.run_unsafeSliceData_nil _ _ _ _ _
      | some b=>exact Lib.run_unsafeSliceData_row _ _ _ _ _ _ (hc.resolve_left (by simp))
    simp [execOp,resolve,invoke,builtin,ha.eval hx,hrun,Result.andThen]⟩
theorem Be4 {i:Nat} {K:Act→World→Prop} {x y:Operand} {pt it ty:TypeId} {pos:String} {after:Array Edge} {q:Option Addr} {m:Nat} {v:Value} {news':Blks}
    (ho:ops[i]? = some { dst:=some d,op:=.call { callee:=.builtin .unsafeString,args:=#[x,y],argTypes:=#[pt,it] },type:=ty,pos,after,guard:=none }) (hx:rev r x=some (.pointer q)) (hy:rev r y=some (.int .i64 (m:Int))) (hd:Nat.ble (d + 1) n=true)
    (hrun:∀ w,Mem W chg news w→∃ w',(Builtin.unsafeString_ #[pt,it] ty #[.pointer q,.int .i64 (m:Int)]).run P w = .ok v w'∧Mem W chg news' w') (h:RunK n K ((d,v)::r) ds W chg news'):RunI P ops Q n i K r ds W chg news:=fun a w st=>by
  obtain ⟨w',hr,hm⟩:=hrun w st.mem;have st2:=st.put (Nat.le_of_ble_eq_true hd) v;have hK:=h _ w' ⟨st2.size,st2.agree,st2.defers,hm⟩;unfold wpOp;simp only [ho];refine .inl ?_;unfold Oper.wp;simp [execOp,resolve,invoke,builtin,st.agree.eval hx,st.agree.eval hy,hr,Result.andThen]
  exact hK
theorem BT0 {pt it ty e:TypeId} (hp:P.underlying pt=some (.pointer e)) (hc:P.cellsOf e=1) {x:Own} {l:List UInt8} {tl:Blks} (hx:OwnOk 1 x l.length (byc l)) {w:World} (hm:Mem W [] (ownB e x (byc l)++tl) w) :
    ∃ w',(Builtin.unsafeString_ #[pt,it] ty #[.pointer (ownQ x),.int .i64 (l.length:Int)]).run P w = .ok (.string ⟨l.toArray⟩) w'∧Mem W [] tl w':=by
  by_cases h0:l=[]
  · subst h0
    exact ⟨w,Lib.run_unsafeString_none w _ _ _ _,hm.fewer (List.sublist_append_right _ _)⟩
  · obtain ⟨g,c,rr,rfl,h1,h2,h3⟩:=hx.has (List.length_pos_iff.2 h0)
    have hg:=(hm.newd g _ (.head _)).2;refine ⟨_,Lib.run_unsafeString_row w pt it ty e hp hc g ((byc l++rr).toArray.size) (by unfold World.shape?;rw [hg]) l h0 (by simp only [List.size_toArray];omega) (by unfold maxLen at h2;omega) ?_,?_⟩
    · intro j y hy
      have hj:=(List.getElem?_eq_some_iff.1 hy).1;rw [add_plain,Ae1 hg]
      have:(byc l++rr)[j]? = some (.int .u8 (y.toNat:Int)):=by
        rw [List.getElem?_append_left (by rw [BK4];exact hj)];unfold byc;simp [hy]
      simpa using this
    · have h00:¬ l.length=0:=by simpa using h0
      have hm2:Mem W [] ((g,.cells (byc l++rr).toArray e (0,0 + l.length))::tl) (w.freeze ⟨g,0,none⟩ l.length):=by
        refine Mem.upd_new hm .here ?_ ?_ ?_ ?_ ?_ ?_
        · unfold World.freeze;rw [if_neg h00]
        · unfold World.freeze;rw [if_neg h00]
        · unfold World.freeze;rw [if_neg h00]
        · unfold World.freeze;rw [if_neg h00];simp
        · intro k _ hk
          unfold World.freeze;rw [if_neg h00];simp [Array.getElem?_modify,Ne.symm hk]
        · unfold World.freeze
          rw [if_neg h00];simp [Array.getElem?_modify,hg]
      exact hm2.fewer (List.sublist_cons_self _ _)
end
end Go.Eng
namespace Go.Proofs.YtnmkdiagbkkmaabGreatDoor
open Go Go.Eng
theorem CK0:apsB Tryz.prog 74 9=some 5:=by kernel_rfl
theorem CZ3:Enters Tryz.prog 103:=Aa1 Tryz.func103 (by kernel_rfl) rfl
theorem Di3:Enters Tryz.prog 49:=Aa1 Tryz.func49 (by kernel_rfl) rfl
theorem CF5:fieldB Tryz.prog 76 0=some 0:=by kernel_rfl
instance:Fld Tryz.prog 76 0 0:=⟨CF5⟩
theorem Bo2:fieldB Tryz.prog 76 1=some 1:=by kernel_rfl
instance:Fld Tryz.prog 76 1 1:=⟨Bo2⟩
theorem Db6:tyB Tryz.prog 73=some (false,1):=by kernel_rfl
instance:Tyc Tryz.prog 73 false 1:=⟨Db6⟩
theorem Cz1:tyB Tryz.prog 74=some (false,1):=by kernel_rfl
instance:Tyc Tryz.prog 74 false 1:=⟨Cz1⟩
end Go.Proofs.YtnmkdiagbkkmaabGreatDoor
namespace Go.Dk
open Go Go.Eng Go.RowKit Go.Pw1 Go.Hp
def BuP (b:Nat) (p:Value):Prop:=p = .pointer none∨p = .pointer (some ⟨b,0,none⟩)
def buS (b:Nat):Value:=.pointer (some ⟨b,0,none⟩)
def linesL:Str→List Str
  | []=>[]
  | c::s=>if c=10 then [10]::linesL s else
    match linesL s with
    | []=>[[c]]
    | l::ls=>(c::l)::ls
theorem An8 (c:UInt8) (s:Str):linesL (c::s)=if c=10 then [10]::linesL s else match linesL s with
    | []=>[[c]]
    | l::ls=>(c::l)::ls:=by rw [linesL]
theorem AH9:∀ {s:Str} {i:Nat},Lib.indexByte s 10=(i:Int)→i < s.length∧linesL s=s.take (i + 1)::linesL (s.drop (i + 1))
  | [],i,h=>by unfold Lib.indexByte at h;omega
  | c::s,i,h=>by
    unfold Lib.indexByte at h;rw [An8]
    by_cases hc:c=10
    · subst hc
      simp at h
      have:i=0:=by omega
      subst this;rw [if_pos rfl];exact ⟨by simp,rfl⟩
    · have hb:(c == 10)=false:=by simpa using hc
      rw [hb] at h;simp only [Bool.false_eq_true,if_false] at h
      split at h
      · omega
      · rename_i h1
        have hge:=Lib.indexByte_ge s 10;have h2:Lib.indexByte s 10 ≠ -1:=by simpa using h1
        obtain ⟨j,hj⟩:∃ j:Nat,Lib.indexByte s 10=j:=⟨(Lib.indexByte s 10).toNat,by omega⟩;obtain ⟨h3,h4⟩:=AH9 hj
        have:i=j + 1:=by omega
        subst this;rw [if_neg hc,h4];simp only [List.length_cons,List.take_succ_cons,List.drop_succ_cons];exact ⟨by omega,by first | trivial | rfl⟩
theorem AK6:∀ {s:Str},Lib.indexByte s 10 < 0→s ≠ []→linesL s=[s]
  | [],_,h=>absurd rfl h
  | c::s,h,_=>by
    unfold Lib.indexByte at h;rw [An8]
    by_cases hc:c=10
    · subst hc
      simp at h
    · have hb:(c == 10)=false:=by simpa using hc
      rw [hb] at h;simp only [Bool.false_eq_true,if_false] at h;rw [if_neg hc]
      split at h
      · rename_i h1
        cases s with
        | nil=>rfl
        | cons d s => rw [AK6 (s := d :: s) (by have : Lib.indexByte (d :: s) 10 = -1 := by simpa using h1
                                                omega) (by simp)]
      · have hge:=Lib.indexByte_ge s 10
        rename_i h1;have h2:Lib.indexByte s 10 ≠ -1:=by simpa using h1
        omega
theorem Cz7 (l:Str):(Lib.trimSuffix l [10]).length≤l.length:=by
  unfold Lib.trimSuffix
  split <;> simp
theorem Bh5:∀ (s:Str),(linesL s).length≤s.length
  | []=>Nat.le_refl _
  | c::s=>by
    have ih:=Bh5 s;rw [An8]
    split
    · simpa using ih
    · split
      · simp
      · rename_i h;rw [h] at ih;simp only [List.length_cons] at ih ⊢;omega
theorem AR2:∀ (s:Str),∀ l∈linesL s,l.length≤s.length
  | [],l,h=>by cases h
  | c::s,l,h=>by
    have ih:=AR2 s;rw [An8] at h
    split at h
    · rcases List.mem_cons.1 h with rfl | h
      · simp
      · have:=ih l h;simp;omega
    · split at h
      · simp only [List.mem_singleton] at h;subst h;simp
      · rename_i l0 ls hl
        rw [hl] at ih
        rcases List.mem_cons.1 h with rfl | h
        · have:=ih l0 (by simp);simp;omega
        · have:=ih l (by simp [h]);simp;omega
theorem Bv8:∀ {s:Str},∀ l∈linesL s,l ≠ []
  | [],l,h=>by cases h
  | c::s,l,h=>by
    have ih:=@Bv8 s;rw [An8] at h
    split at h
    · rcases List.mem_cons.1 h with rfl | h
      · simp
      · exact ih l h
    · split at h
      · simp only [List.mem_singleton] at h;subst h;simp
      · rename_i l0 ls hl
        rw [hl] at ih
        rcases List.mem_cons.1 h with rfl | h
        · simp
        · exact ih l (by simp [h])
def trimL (l:Str):Str:=Lib.trimSuffix l [10]
theorem Ap9 (s:Str):Lib.hasSuffix s [10]=true ↔ s.getLast? = some 10:=by
  unfold Lib.hasSuffix;rw [List.isSuffixOf_iff_suffix]
  constructor
  · rintro ⟨t,rfl⟩
    simp
  · intro h
    obtain ⟨t,rfl⟩:=List.getLast?_eq_some_iff.1 h;exact ⟨t,rfl⟩
theorem Ce4 {c:UInt8} {l:Str} (h:l ≠ []):trimL (c::l)=c::trimL l:=by
  have e:Lib.hasSuffix (c::l) [10]=Lib.hasSuffix l [10]:=by
    have h1:=Ap9 (c::l);have h2:=Ap9 l;rw [List.getLast?_cons_of_ne_nil h] at h1;rw [Bool.eq_iff_iff,h1,h2]
  unfold trimL Lib.trimSuffix;rw [e]
  split
  · have hl:=List.length_pos_iff.2 h
    simp only [List.length_cons,List.length_nil];rw [show l.length + 1 - (0 + 1)=(l.length - (0 + 1)) + 1 by omega,List.take_succ_cons]
  · rfl
theorem AZ1:∀ (s cur:Str),s=[]∨s.getLast? = some 10→linesX s cur=match (linesL s).map trimL with
    | []=>[]
    | l::ls=>(cur++l)::ls
  | [],cur,_=>rfl
  | c::s,cur,h=>by
    have hs:s=[]∨s.getLast? = some 10:=by
      by_cases h0:s=[]
      · exact .inl h0
      · rw [List.getLast?_cons_of_ne_nil h0] at h
        exact h.imp (fun e=>by cases e) id
    rw [linesX,An8]
    by_cases hc:c=10
    · subst hc
      rw [if_pos rfl,if_pos rfl,AZ1 s [] hs];have e:trimL [10]=[]:=by decide
      rw [List.map_cons,e]
      cases (linesL s).map trimL with
      | nil=>simp
      | cons l ls=>simp
    · rw [if_neg hc,if_neg hc,AZ1 s (cur++[c]) hs]
      have hne:s ≠ []:=by
        rintro rfl
        rcases h with h | h
        · cases h
        · simp at h;exact hc h
      cases hl:linesL s with
      | nil =>
        cases s with
        | nil=>exact absurd rfl hne
        | cons d t =>
          rw [An8] at hl
          split at hl
          · cases hl
          · split at hl <;> cases hl
      | cons l ls =>
        have hln:l ≠ []:=Bv8 (s:=s) l (by rw [hl];simp);simp only [List.map_cons];rw [Ce4 hln];simp
theorem Cl5 {s:Str} (h:s=[]∨s.getLast? = some 10):linesX s []=(linesL s).map trimL:=by
  rw [AZ1 s [] h]
  cases (linesL s).map trimL with
  | nil=>rfl
  | cons l ls=>rfl
theorem Bu0 (c:Cd):∀ (l:List Str) (b:Bn) (s:Str),runL c b (l++[s])=((stepX c (runL c b l).1 s).1,(runL c b l).2++(echoX (stepX c (runL c b l).1 s).2.1 (stepX c (runL c b l).1 s).2.2++[10]))
  | [],b,s=>by simp [runL]
  | t::l,b,s=>by
    have ih:=Bu0 c l (stepX c b t).1 s;simp only [List.cons_append,runL,ih];simp
end Go.Dk
namespace Go.Proofs.YtnmkdiagbkkmaabGreatDoor
open Go Go.Eng Go.Dk Go.RowKit Go.Pw1 Go.Hp

abbrev buO (p:Value) (x:Eng.Own) (n:Nat):Obj:=.cells [p,ownV x n].toArray 76 (0,0)
abbrev buB (b:Nat) (p:Value) (x:Eng.Own) (l:Str) (tl:Blks):Blks:=(b,buO p x l.length)::(ownB 5 x (byc l)++tl)
theorem Bb3 (b:Nat) (p v:Value) (rest:Blks) (W0 w:World) (hm0:Mem W0 [] ((b,.cells [p,v].toArray 76 (0,0))::(rest++[])) w) (hp:BuP b p) :
    Calls Tryz.prog 49 #[.pointer (some ⟨b,0,none⟩)] w (Grow W0 [] (fun _:Unit=>.tuple #[]) (fun _=>(b,.cells [buS b,v].toArray 76 (0,0))::(rest++[])) (fun _=>True)):=by
  obtain ⟨j,hj,hjs⟩:=Option.map_eq_some_iff.1 (show (Tryz.prog.info? 76).map (·.size)=some 2 by kernel_rfl);have hj0:j.size ≠ 0:=by rw [hjs];decide
  rcases hp with rfl | rfl
  · refine Af7 hm0 Tryz.func49 rfl rfl ?_
    refine su ?_;refine lv (Ak3 rfl (t:=76) (by kernel_rfl)) ?_;refine RunC.cond rfl ?_ (fun h=>absurd h (by simp))
    intro c0;clear c0;refine st ?_;refine lv (BB2 rfl (List.mem_append_right _ (.head _)) (t:=76) (by kernel_rfl) (by kernel_rfl) hj hj0 (by simp)) ?_;refine lv (Cv6 Tryz.func100 (by kernel_rfl) (by kernel_rfl) (by kernel_rfl) (e:=Extern.AbiNoEscape.same) (by kernel_rfl) rfl (fun w=>rfl)) ?_;refine lu (Be3 rfl (List.mem_append_right _ (.head _)) (t:=76) (by kernel_rfl) (by kernel_rfl) hj (by kernel_rfl)) ?_;refine Aa9 (Sto.store rfl rfl .here Db6 rfl rfl) rfl rfl ?_;refine st ?_;exact AG5 () trivial (.r0 rfl) rfl (.cons .here rfl (Pick.refl _))
  · refine Af7 hm0 Tryz.func49 rfl rfl ?_
    refine su ?_;refine lv (Ak3 rfl (t:=76) (by kernel_rfl)) ?_;refine RunC.cond rfl (fun h=>absurd h (by simp)) ?_;intro c0;clear c0;refine su ?_;refine lv (BK9 rfl rfl (t:=76) (by kernel_rfl) hj) ?_;refine RunC.cond rfl (fun h=>absurd h (by simp)) ?_;intro c1;clear c1;refine st ?_;exact AG5 () trivial (.r0 rfl) rfl (.cons .here rfl (Pick.refl _))
theorem AU0 (b:Nat) (p v:Value) (tl:Blks) (W0 w:World) (hm0:Mem W0 [] ((b,.cells [p,v].toArray 76 (0,0))::tl) w) (hp:BuP b p) :
    Calls Tryz.prog 49 #[.pointer (some ⟨b,0,none⟩)] w (Grow W0 [] (fun _:Unit=>.tuple #[]) (fun _=>(b,.cells [buS b,v].toArray 76 (0,0))::tl) (fun _=>True)):=by
  have h:=Bb3 b p v tl W0 w (by rw [List.append_nil];exact hm0) hp;simp only [List.append_nil] at h;exact h
theorem AS2 (b:Nat) (p:Value) (x:Eng.Own) (l s:Str) (rest:Blks) (W0 w:World) (hm0:Mem W0 [] (buB b p x l (rest++[])) w) (hp:BuP b p) (hx:OwnOk 1 x l.length (byc l)) (hb:l.length + s.length≤140737488355328) :
    Calls Tryz.prog 22 #[.pointer (some ⟨b,0,none⟩),.string (bs s)] w (Grow W0 [] (fun _:Eng.Own=>.tuple #[.int .i64 (s.length:Int),.nilIface]) (fun y=>buB b (buS b) y (l++s) (rest++[])) (fun y=>OwnOk 1 y (l++s).length (byc (l++s)))):=by
  refine Af7 hm0 Tryz.func22 rfl rfl ?_;refine st ?_;refine Av8 (zF rfl Di3) rfl rfl rfl (fun w hm=>(AU0 b p (ownV x l.length) (ownB 5 x (byc l)++(rest++[])) W0 w hm hp)) (fun z7 hz7=>?_)
  
  refine su ?_;refine BC1 (A:=[(b,_)]) (B:=_) (x:=x) (ys:=s) CK0 rfl rfl rfl hx (by omega) rfl (fun z14 hz14=>?_)
  refine su ?_;refine Aa9 (As7 rfl rfl .here Cz1 rfl rfl) rfl rfl ?_;refine st ?_;refine lu (Ah0 rfl An7) ?_;exact Cw1 z14 (by rw [List.length_append,Cu2];exact hz14) (.r2 rfl (.tmp rfl) (.tmp rfl)) rfl (by simp only [buB,List.length_append,Cu2];exact (.cons .here rfl (Pick.refl _)))
theorem Bq7 {β:Type} {P:Program} {f:FuncId} {args:Array Value} {W0 w:World} {chg:Blks} {v:β→Value} {nw nw':β→Blks} {I:β→Prop} (h:Calls P f args w (Grow W0 chg v nw I)) (hp:∀ b,Pick (nw' b) (nw b)):Calls P f args w (Grow W0 chg v nw' I) :=
  Af3 h (by rintro e w' ⟨b,h1,h2,h3⟩;exact ⟨b,h1,h2,h3.pick (hp b)⟩)
theorem BZ6 (b:Nat) (p:Value) (x:Eng.Own) (l:Str) (rest:Blks) (W0 w:World) (hm0:Mem W0 [] (buB b p x l (rest++[])) w) (hx:OwnOk 1 x l.length (byc l)) (hc:ownQ x=none∨ownC x ≠ 0) :
    Calls Tryz.prog 24 #[.pointer (some ⟨b,0,none⟩)] w (Grow W0 [] (fun _:Unit=>.string (bs l)) (fun _=>rest++[]) (fun _=>True)):=by
  refine Af7 hm0 Tryz.func24 rfl rfl ?_;refine st ?_;refine Ac4 10 Aj3 (.cons .here rfl (Pick.refl _)) ?_;refine va 0 rfl (Aa3 rfl) rfl rfl rfl (.cons .here rfl (Pick.refl _)) rfl ?_;refine va 1 rfl (Aa3 rfl) rfl rfl rfl (.cons .here rfl (Pick.refl _)) rfl ?_;refine va 2 rfl (Val.fieldAddr rfl Bo2) rfl rfl rfl (.cons .here rfl (Pick.refl _)) rfl ?_;refine va 3 rfl (Ab6 rfl (.head _) Cz1 rfl) rfl rfl rfl (.cons .here rfl (Pick.refl _)) rfl ?_;refine va 4 rfl (Br7 (q:=ownQ x) (m:=l.length) (c:=ownC x) (by show some (ownV x l.length)=_;rw [Ad9 hx]) hc) rfl rfl rfl (.cons .here rfl (Pick.refl _)) rfl ?_;refine va 5 rfl (Aa3 rfl) rfl rfl rfl (.cons .here rfl (Pick.refl _)) rfl ?_;refine va 6 rfl (Aa3 rfl) rfl rfl rfl (.cons .here rfl (Pick.refl _)) rfl ?_;refine va 7 rfl (Val.fieldAddr rfl Bo2) rfl rfl rfl (.cons .here rfl (Pick.refl _)) rfl ?_;refine va 8 rfl (Ab6 rfl (.head _) Cz1 rfl) rfl rfl rfl (.cons .here rfl (Pick.refl _)) rfl ?_;refine va 9 rfl (Ag6 rfl CB5 hx) rfl rfl rfl (.cons .here rfl (Pick.refl _)) rfl ?_;refine zt ?_;refine zB 10 ?_;refine Be4 (q:=ownQ x) (m:=l.length) rfl rfl rfl rfl (fun w hm=>BT0 (e:=5) (by kernel_rfl) (by kernel_rfl) hx (hm.pick (news':=ownB 5 x (byc l)++(rest++[])) (Pick.cnt fun x=>by simp only [nC];omega))) (Ab9 ?_)
  refine zp 11 ?_;refine zd ?_;refine su ?_;exact AG5 () trivial (.r1 rfl (.tmp rfl)) rfl (Pick.refl _)
theorem CS7 (s:Str) (hs:s.length≤100000) (lb:Nat) (W0:World):SeqQ Tryz.prog 102 #[pV lb] (fun x:Str=>[.string (bs x)]) (fun _=>[]) [(lb,strO s)] dmis (fun xs=>xs=linesL s) (fun xs=>xs <+: linesL s) (fun _ _=>False) (s.length + 1) W0:=by
  intro X l U I Ix Ip rest w0 x0 hy i0 hm0;refine AS1 (vs:=[.func (.yield l) #[] #[],pV lb]) (W:=W0) (chg:=[]) (news:=(lb,strO s)::(U x0++(rest++[]))) (hm0.pick (Pick.cnt fun x=>by simp only [List.nil_append,List.cons_append,List.count_append,List.count_cons,List.count_nil];omega)) Tryz.func102 rfl rfl ?_ 8
  refine RunCR.block ?_;refine Bc9 (X:=X×List Str×Str) (n0:=[]) (s.length) (fun k y q=>q) (fun _ _=>_) (fun k y=>[(lb,strO y.2.2)]) (fun k y=>U y.1++(rest++[])) (fun k y=>I y.2.1 y.1∧y.2.1++linesL y.2.2=linesL s∧y.2.1.length=k∧k + y.2.2.length≤s.length) (x0,[],s) ⟨i0,rfl,rfl,by simp⟩ rfl (zS 0 rfl (zS 1 rfl (Sub.nil _))) (.cons .here rfl (Pick.same (by rfl))) ?_;intro k y kN kI;obtain ⟨xu,pre,r⟩:=y;obtain ⟨hI,hpre,hlen,hrl⟩:=kI;dsimp only at hI hpre hlen hrl ⊢;refine RunCR.seq ?_;refine RunCR.seq ?_;refine RunCR.region ?_;refine Aa6 (Ab6 rfl (.head _) AE3 rfl) rfl rfl rfl ?_;refine Aa6 (Ah0 rfl An7) rfl rfl rfl ?_;refine Aa6 (Aa3 rfl) rfl rfl rfl ?_;refine RunLR.nil ?_;refine RunER.next ?_;refine RunCR.cond rfl ?_ ?_
  ·intro c0
   have c0':=c0;clear c0;try simp only [nH] at c0'
   have hk:0 < r.length:=by omega
   refine RunCR.skip ?_;refine RunER.next ?_;refine RunCR.block ?_;refine RunCR.seq ?_;refine RunCR.region ?_;refine Aa6 (Aa3 rfl) rfl rfl rfl ?_;refine RunLR.nil ?_;refine RunER.next ?_;refine RunCR.seq ?_;refine RunCR.seq ?_;refine RunCR.region ?_;refine Aa6 (Ab6 rfl (.head _) AE3 rfl) rfl rfl rfl ?_;refine Aq4 (zF rfl CZ3) rfl rfl rfl (fun w hm=>(AT5 r 10 w)) ?_;refine Aa6 (Aa3 rfl) rfl rfl rfl ?_;refine RunLR.nil ?_;refine RunER.next ?_;refine RunCR.seq ?_;refine RunCR.region ?_;refine Aa6 (Aa3 rfl) rfl rfl rfl ?_;refine Aa6 (Aa3 rfl) rfl rfl rfl ?_;refine RunLR.nil ?_;refine RunER.next ?_;refine RunCR.cond rfl ?_ ?_
   ·intro c1
    have c1':=c1;clear c1;try simp only [nH] at c1'
    obtain ⟨i,hi⟩:∃ i:Nat,Lib.indexByte r 10=i:=⟨(Lib.indexByte r 10).toNat,(Int.toNat_of_nonneg c1').symm⟩;have hil:=(AH9 hi).1;rw [show Lib.indexByte r (10:Int).toNat.toUInt8=(i:Int) from hi];refine BR9 ?_;refine Ac4 9 Aj3 (.cons .here rfl .nil) ?_;refine zw 0 ?_;refine zw 1 ?_;refine zv 2 rfl (Val.add rfl rfl (IntWalk.i64_in _ ⟨by omega,by omega⟩)) ?_;refine zv 3 rfl (Bc3 rfl rfl An7 (b:=i + 1) (by omega)) ?_;refine zw 4 ?_;refine zw 5 ?_;refine zv 6 rfl (Val.add rfl rfl (IntWalk.i64_in _ ⟨by omega,by omega⟩)) ?_;refine zv 7 rfl (AD9 rfl rfl An7 (a:=i + 1) (by omega)) ?_;refine zw 8 ?_;refine zt ?_;refine zB 9 ?_;refine Ac0 rfl (Sto.store rfl rfl .here AE3 rfl rfl) rfl rfl (Ab9 ?_)
    refine zd ?_;refine RunER.next ?_;refine RunCR.seq ?_;refine RunCR.region ?_;refine Aa6 (Aa3 rfl) rfl rfl rfl ?_;refine Aa6 (Aa3 rfl) rfl rfl rfl ?_;refine AG3 (Ak0 rfl rfl) rfl rfl rfl (fun w hm=>(Bl6 (α:=Str) (encs:=fun x=>[.string (bs x)]) (eb:=fun _=>[]) (U:=U) (I:=I) (Ix:=Ix) (Ip:=Ip) (pre:=pre) (v:=(r.take (i + 1))) (N':=fun x=>(lb,strO (r.drop (i + 1)))::(U x++(rest++[]))) (tl:=(lb,strO (r.drop (i + 1)))::rest) (fun x=>(Pick.cnt fun x=>by simp only [nC];omega)) (hy pre (r.take (i + 1)) xu ((lb,strO (r.drop (i + 1)))::rest) w hI ⟨linesL (r.drop (i + 1)),by rw [← hpre,(AH9 hi).2,List.append_assoc];rfl⟩ (by omega) ((show Mem W0 [] ((lb,strO (r.drop (i + 1)))::(U xu++(rest++[]))) w from hm).pick (Pick.cnt fun x=>by simp only [nC];omega))))) (fun p23 hp23=>?_) (fun z23 hz23=>?_)
    ·refine Aa5 ?_
     refine Ad6 ?_;refine Aa5 ?_;refine Ad6 ?_;exact fun _ w s=>⟨s.defers,p23.2,s.mem.pick (Pick.cnt fun x=>by simp only [nC];omega),.inr (.inl ⟨p23.1,rfl,hp23⟩)⟩
    refine Aa6 (Aa3 rfl) rfl rfl rfl ?_;refine RunLR.nil ?_;refine RunER.next ?_;refine RunCR.cond rfl ?_ ?_
    ·intro c2
     have c2':=c2;clear c2;try simp only [nH] at c2'
     have hno:Ix z23.2:=hz23.elim (fun h=>absurd (h.1.symm.trans c2') (by decide)) (fun h=>h.2);refine RunCR.ret ?_;refine su ?_;exact RunE.ret (chg:=[]) (.r0 rfl) (fun _ hm=>⟨z23.2,hm.pick (Pick.cnt fun x=>by simp only [nC];omega),.inl ⟨_,rfl,.inr hno⟩⟩)
    intro c2;have c2':=c2;clear c2;try simp only [nH] at c2'
    have hyes:=hz23.resolve_right (fun h=>absurd (h.1.symm.trans c2') (by decide));refine RunCR.skip ?_;refine st ?_;exact Ad5 (z23.2,pre++[r.take (i + 1)],r.drop (i + 1)) (by omega) ⟨hyes.2,by (rw [List.append_assoc,← hpre,(AH9 hi).2];rfl),by simp [hlen],by (simp only [List.length_drop];omega)⟩ rfl (zS 0 rfl (zS 1 rfl (Sub.nil _))) (.cons .here rfl (Pick.refl _))
   intro c1;have c1':=c1;clear c1;try simp only [nH] at c1'
   have hi:Lib.indexByte r 10 < 0:=c1';refine RunCR.region ?_;refine Aa6 (Ab6 rfl (.head _) AE3 rfl) rfl rfl rfl ?_;refine Aa6 (Aa3 rfl) rfl rfl rfl ?_;refine AG4 (Sto.store rfl rfl .here AE3 rfl rfl) rfl rfl ?_;refine RunLR.nil ?_;refine RunER.next ?_;refine RunCR.seq ?_;refine RunCR.region ?_;refine Aa6 (Aa3 rfl) rfl rfl rfl ?_;refine Aa6 (Aa3 rfl) rfl rfl rfl ?_;refine AG3 (Ak0 rfl rfl) rfl rfl rfl (fun w hm=>(Bl6 (α:=Str) (encs:=fun x=>[.string (bs x)]) (eb:=fun _=>[]) (U:=U) (I:=I) (Ix:=Ix) (Ip:=Ip) (pre:=pre) (v:=r) (N':=fun x=>(lb,strO [])::(U x++(rest++[]))) (tl:=(lb,strO [])::rest) (fun x=>(Pick.cnt fun x=>by simp only [nC];omega)) (hy pre r xu ((lb,strO [])::rest) w hI ⟨[],by rw [← hpre,AK6 hi (by (intro h;rw [h] at hk;simp at hk)),List.append_nil]⟩ (by omega) ((show Mem W0 [] ((lb,strO [])::(U xu++(rest++[]))) w from hm).pick (Pick.cnt fun x=>by simp only [nC];omega))))) (fun p23 hp23=>?_) (fun z23 hz23=>?_)
   ·refine Aa5 ?_
    refine Ad6 ?_;refine Aa5 ?_;refine Ad6 ?_;exact fun _ w s=>⟨s.defers,p23.2,s.mem.pick (Pick.cnt fun x=>by simp only [nC];omega),.inr (.inl ⟨p23.1,rfl,hp23⟩)⟩
   refine Aa6 (Aa3 rfl) rfl rfl rfl ?_;refine RunLR.nil ?_;refine RunER.next ?_;refine RunCR.cond rfl ?_ ?_
   ·intro c2
    have c2':=c2;clear c2;try simp only [nH] at c2'
    have hno:Ix z23.2:=hz23.elim (fun h=>absurd (h.1.symm.trans c2') (by decide)) (fun h=>h.2);refine RunCR.ret ?_;refine su ?_;exact RunE.ret (chg:=[]) (.r0 rfl) (fun _ hm=>⟨z23.2,hm.pick (Pick.cnt fun x=>by simp only [nC];omega),.inl ⟨_,rfl,.inr hno⟩⟩)
   intro c2;have c2':=c2;clear c2;try simp only [nH] at c2'
   have hyes:=hz23.resolve_right (fun h=>absurd (h.1.symm.trans c2') (by decide));refine RunCR.skip ?_;refine st ?_;exact Ad5 (z23.2,pre++[r],[]) (by omega) ⟨hyes.2,by (rw [List.append_assoc,← hpre,AK6 hi (by (intro h;rw [h] at hk;simp at hk))];rfl),by simp [hlen],by (simp only [List.length_nil];omega)⟩ rfl (zS 0 rfl (zS 1 rfl (Sub.nil _))) (.cons .here rfl (Pick.refl _))
  intro c0;have c0':=c0;clear c0;try simp only [nH] at c0'
  have hk:r=[]:=List.eq_nil_of_length_eq_zero (by omega);subst hk;rw [show linesL []=[] from rfl,List.append_nil] at hpre;refine RunCR.exit ?_;refine su ?_;refine Ab1 ?_;exact AO4 (chg:=[]) (.r0 rfl) (fun _ hm=>⟨xu,hm.pick (Pick.cnt fun x=>by simp only [nC];omega),.inl ⟨_,rfl,.inl ⟨pre,hpre,hI⟩⟩⟩)
end Go.Proofs.YtnmkdiagbkkmaabGreatDoor
namespace Go.Proofs.YtnmkdiagbkkmaabGreatDoor
open Go Go.Eng
theorem CN9:Enters Tryz.prog 10:=Aa1 Tryz.func10 (by kernel_rfl) rfl
theorem CZ4:Enters Tryz.prog 102:=Aa1 Tryz.func102 (by kernel_rfl) rfl
theorem Cs0:Enters Tryz.prog 12:=Aa1 Tryz.func12 (by kernel_rfl) rfl
theorem CN5:Enters Tryz.prog 22:=Aa1 Tryz.func22 (by kernel_rfl) rfl
theorem Dj5:Enters Tryz.prog 24:=Aa1 Tryz.func24 (by kernel_rfl) rfl
theorem Cp8:Enters Tryz.prog 50:=Aa1 Tryz.func50 (by kernel_rfl) rfl
theorem Di2:Enters Tryz.prog 51:=Aa1 Tryz.func51 (by kernel_rfl) rfl
theorem Di1:Enters Tryz.prog 52:=Aa1 Tryz.func52 (by kernel_rfl) rfl
theorem BC7:zeroB Tryz.prog 33=some [.pointer none]:=by kernel_rfl
theorem CO6:zeroB Tryz.prog 76=some [.pointer none,.slice none 0 0]:=by kernel_rfl
end Go.Proofs.YtnmkdiagbkkmaabGreatDoor
