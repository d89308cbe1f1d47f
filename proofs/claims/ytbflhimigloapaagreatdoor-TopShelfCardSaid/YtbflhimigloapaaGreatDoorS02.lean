/- Printed by our programs. -/
import Derived.Test.YtbflhimigloapaaGreatDoorS01
import Derived.Lib.AtoiAll
import Derived.Lib.ItoaNum
import Derived.Test.YtbflhimigloapaaGreatDoorProg
set_option linter.unusedSimpArgs false
set_option linter.unusedVariables false
set_option linter.unusedSectionVars false
open Go.Proofs.Tryz
open Go.Proofs.Tryz renaming prog→π
namespace Go.Q
open Go Go.Eng
abbrev _root_.Go.CC:=Calls π
end Go.Q
namespace Go.Pw1
open Go Go.Eng
structure Sp where
 lo:Int
 hi:Int
 deriving DecidableEq
structure Th where
 lx:Sp
 ly:Sp
 rx:Sp
 ry:Sp
 far:Int
 deriving DecidableEq
structure Pr where
 focal:Sp
 base:Sp
 tilt:Int
 near:Int
 far:Int
 things:List Th
def Sp.v (s:Sp):Value:=.agg #[.I s.lo,.I s.hi]
def Th.cells (t:Th):LV:=[.I t.lx.lo,.I t.lx.hi,.I t.ly.lo,.I t.ly.hi,.I t.rx.lo,.I t.rx.hi,.I t.ry.lo,.I t.ry.hi,.I t.far]
def Th.v (t:Th):Value:=.agg t.cells.toArray
def Pr.cells (p:Pr) (q:OA) (cap:Nat):LV:=[.I p.focal.lo,.I p.focal.hi,.I p.base.lo,.I p.base.hi,.I p.tilt,.I p.near,.I p.far,.slice q p.things.length cap]
def Pr.v (p:Pr) (q:OA) (cap:Nat):Value:=.agg (p.cells q cap).toArray
def vwCells (p:Pr) (q:OA) (cap:Nat) (w:Int×Int):LV:=[.I p.focal.lo,.I p.focal.hi,.I p.base.lo,.I p.base.hi,.I p.tilt,.I p.near,.I p.far,.slice q p.things.length cap,.I w.1,.I w.2]
def b2c (b:Int×Int):LV:=[.I b.1,.I b.2]
def b2v (b:Int×Int):Value:=.agg #[.I b.1,.I b.2]
theorem AX0 {a b A B:Int} (ha:0≤a) (ha':a≤A) (hb:0≤b) (hb':b≤B):0≤a * b∧a * b≤A * B :=
 ⟨Int.mul_nonneg ha hb,Int.le_trans (Int.mul_le_mul_of_nonneg_left hb' ha) (Int.mul_le_mul_of_nonneg_right ha' (Int.le_trans hb hb'))⟩
def within (n lo hi:Int):Bool:=decide (lo≤n) && decide (n≤hi)
def isSpan (s:Sp) (lo hi:Int):Bool:=decide (lo≤s.lo) && decide (s.lo≤s.hi) && decide (s.hi≤hi)
def isPlace (x y:Sp):Bool:=isSpan x (-4000) 4000 && isSpan y (-4000) 4000
def bad (p:Pr) (t:Th):Bool:=!isPlace t.lx t.ly || !isPlace t.rx t.ry || (!decide (t.far=0) && !within t.far p.near p.far)
def isPair (p:Pr):Bool :=
 (isSpan p.focal 1 50000 && isSpan p.base 1 10000 && within p.tilt 0 1000) && within p.near 2000 1073741824 && within p.far p.near 1073741824 && decide ((p.things.length:Int)≤12) && !p.things.any (bad p)
def Sp.Ok (s:Sp) (b:Int):Prop:=-b≤s.lo∧s.lo≤s.hi∧s.hi≤b
def Th.Ok (t:Th):Prop:=t.lx.Ok 4000∧t.ly.Ok 4000∧t.rx.Ok 4000∧t.ry.Ok 4000
structure Pr.Ok (p:Pr):Prop where
 f1:1≤p.focal.lo
 f2:p.focal.lo≤p.focal.hi
 f3:p.focal.hi≤50000
 b1:1≤p.base.lo
 b2:p.base.lo≤p.base.hi
 b3:p.base.hi≤10000
 t1:0≤p.tilt
 t2:p.tilt≤1000
 n1:2000≤p.near
 n2:p.near≤p.far
 n3:p.far≤1073741824
 len:p.things.length≤12
 ths:∀ t∈p.things,t.Ok∧(t.far=0∨(p.near≤t.far∧t.far≤p.far))
theorem An0 {p:Pr} (h:isPair p=true):p.Ok:=by
 simp only [isPair,isSpan,within,Bool.and_eq_true,decide_eq_true_eq,Bool.not_eq_true',List.any_eq_false] at h;obtain ⟨⟨⟨⟨⟨⟨h1,h2⟩,h3⟩,h4⟩,h5⟩,h6⟩,h7⟩:=h;refine ⟨by omega,by omega,by omega,by omega,by omega,by omega,by omega,by omega,by omega,by omega,by omega,by omega,fun t ht=>?_⟩
 have:=h7 t ht
 simp only [bad,isPlace,isSpan,within,Bool.or_eq_true,Bool.not_eq_true',Bool.and_eq_true,decide_eq_true_eq,Bool.and_eq_false_iff,decide_eq_false_iff_not,not_or,Bool.not_eq_false',not_and] at this;unfold Th.Ok Sp.Ok;refine ⟨by omega,?_⟩
 by_cases h0:t.far=0
 · exact .inl h0
 · right;omega
def shift (t:Th):Int×Int:=(t.lx.lo - t.rx.hi,t.lx.hi - t.rx.lo)
def nar (a b:Int×Int):Int×Int:=(max a.1 b.1,min a.2 b.2)
def narL (a:Int×Int) (l:List (Int×Int)):Int×Int:=l.foldl nar a
theorem BG5 (a:Int×Int) (l:List (Int×Int)) (x:Int×Int):narL a (l++[x])=nar (narL a l) x:=by simp [narL,List.foldl_append]
def isB (a:Int×Int):Bool:=decide (a.1≤a.2)
theorem Cf7 {t:Th} (h:t.Ok):(-8000≤(shift t).1∧(shift t).1≤8000)∧(-8000≤(shift t).2∧(shift t).2≤8000):=by
 obtain ⟨⟨h1,h2,h3⟩,⟨h4,h5,h6⟩,⟨h7,h8,h9⟩,⟨h10,h11,h12⟩⟩:=h;simp only [shift];omega
def shownS (t:Th):Int×Int:=nar (shift t) (0,2000)
def levelS (p:Pr) (t:Th):Bool:=isB (nar (t.ly.lo - t.ry.hi,t.ly.hi - t.ry.lo) (-p.tilt,p.tilt))
def powersS (p:Pr) (t:Th) (s:Int×Int):Int×Int:=if t.far=0 then (s.1 * p.near,(s.2 + 1) * p.far - 1) else (s.1 * t.far,(s.2 + 1) * t.far - 1)
def stillS (p:Pr) (t:Th) (w:Int×Int):(Int×Int)×Bool :=
 if isB (shownS t) && levelS p t then (nar w (powersS p t (shownS t)),isB (nar w (powersS p t (shownS t)))) else (w,false)
theorem AP2 {t:Th} (h:isB (shownS t)=true):0≤(shownS t).1∧(shownS t).1≤(shownS t).2∧(shownS t).2≤2000:=by
 simp only [isB,decide_eq_true_eq] at h;refine ⟨?_,h,?_⟩
 · simp only [shownS,nar];omega
 · simp only [shownS,nar];omega
def idxF {α:Type} (f:α→Bool):List α→Int
 | []=>-1
 | x::l=>if f x then 0 else if idxF f l < 0 then -1 else idxF f l + 1
theorem Bg9 {α:Type} (f:α→Bool):∀ l,-1≤idxF f l
 | []=>by simp [idxF]
 | x::l=>by have:=Bg9 f l;unfold idxF;split <;> (try split) <;> omega
theorem Ax0 {α:Type} (f:α→Bool):∀ l,l.any f=false→idxF f l = -1
 | [],_=>rfl
 | x::l,h=>by
   simp only [List.any_cons,Bool.or_eq_false_iff] at h
   have:=Ax0 f l h.2
   simp [idxF,h.1,this]
theorem AK6 {α:Type} (f:α→Bool):∀ l,decide (0≤idxF f l)=l.any f
 | []=>by simp [idxF]
 | x::l=>by
   have ih:=AK6 f l
   have:=Bg9 f l
   cases hx:f x
   · simp only [List.any_cons,hx,Bool.false_or,← ih,idxF]
     by_cases h:idxF f l < 0
     · simp [h,show ¬ 0≤idxF f l by omega]
     · simp [h,show 0≤idxF f l by omega];omega
   · simp [idxF,hx]
theorem AE2 {α:Type} (f:α→Bool):∀ (l:List α) (k:Nat) (h:k < l.length),(l.take k).any f=false→f l[k]=true→idxF f l=k
 | [],k,h,_,_=>by simp at h
 | x::l,0,_,_,h=>by simp at h;simp [idxF,h]
 | x::l,k + 1,h,h1,h2=>by
   simp only [List.take_succ_cons,List.any_cons,Bool.or_eq_false_iff] at h1;have ih:=AE2 f l k (by simpa using h) h1.2 (by simpa using h2);simp only [idxF,h1.1,ih];simp
   omega
theorem AA1 {α:Type} {f:α→Bool} {l:List α} {k:Nat} (h:k < l.length) (h1:(l.take k).any f=false) (h2:f l[k]=false):(l.take (k + 1)).any f=false:=by
 rw [List.take_succ_eq_append_getElem h,List.any_append,h1];simp [h2]
theorem CW8 {α:Type} {f:α→Bool} {l:List α} {k:Nat} (h:k < l.length) (h2:f l[k]=true):l.any f=true:=List.any_eq_true.2 ⟨_,List.getElem_mem h,h2⟩
def needX (b:Bool) (e:Int):Except Int Value:=if b then .ok (.tuple #[]) else .error e
theorem Ad9 {b:Bool} {e:Int} {v:Value} (h:needX b e = .ok v):b=true∧v = .tuple #[]:=by
 unfold needX at h;split at h
 · cases h;exact ⟨by assumption,rfl⟩
 · cases h
theorem Ac9 {b:Bool} {e k:Int} (h:needX b e = .error k):b=false∧k=e:=by
 unfold needX at h;split at h
 · cases h
 · cases h;exact ⟨by simp_all,rfl⟩
def openX (p:Pr) (l:List Int):Except Int Unit :=
 if isPair p then (if l.any (fun n=>!within n 0 ((p.things.length:Int) - 1)) then .error 2 else .ok ()) else .error 1
def lookL (p:Pr) (w:Int×Int):List Th→Option (Int×Int)
 | []=>some w
 | t::l=>if t.far=0 then lookL p w l else if (stillS p t w).2 then lookL p (stillS p t w).1 l else none
def lookS (p:Pr):Option (Int×Int):=lookL p (p.focal.lo * p.base.lo,p.focal.hi * p.base.hi) p.things
def lookX (p:Pr):Except Int (Int×Int):=match lookS p with | some w=>.ok w | none=>.error 4
theorem Az4 (p:Pr):∀ (l l2:List Th) (w:Int×Int),lookL p w (l++l2)=match lookL p w l with | some u=>lookL p u l2 | none=>none
 | [],l2,w=>by simp [lookL]
 | t::l,l2,w=>by
   simp only [List.cons_append,lookL]
   split
   · exact Az4 p l l2 w
   · split
     · exact Az4 p l l2 _
     · rfl
theorem Al4 {p:Pr} {l:List Th} {w u:Int×Int} {k:Nat} (hk:k < l.length) {t:Th} (ht:l[k]=t) (h:lookL p w (l.take k)=some u):lookL p w (l.take (k + 1))=lookL p u [t]:=by
 subst ht;rw [List.take_succ_eq_append_getElem hk,Az4,h]
theorem CJ5 {p:Pr} {l:List Th} {w u:Int×Int} {k:Nat} (hk:k < l.length) {t:Th} (ht:l[k]=t) (h:lookL p w (l.take k)=some u) (h2:lookL p u [t]=none):lookL p w l=none:=by
 have h3:lookL p w (l.take (k + 1))=none:=by rw [Al4 hk ht h,h2]
 have h4:=Az4 p (l.take (k + 1)) (l.drop (k + 1)) w;rw [List.take_append_drop,h3] at h4;exact h4
theorem Az1 {p:Pr} {l:List Int} {u:Unit} (h:openX p l = .ok u):isPair p=true∧l.any (fun n=>!within n 0 ((p.things.length:Int) - 1))=false:=by
 unfold openX at h
 split at h
 · split at h
   · cases h
   · exact ⟨by assumption,by simp_all⟩
 · cases h
def truthsX (p:Pr) (l:List Int):Except Int (Int×Int):=match openX p l with | .error k=>.error k | .ok _=>lookX p
theorem AJ9 {p:Pr} {l:List Int} {u:Unit} (h:openX p l = .ok u) {n:Int} (hn:n∈l):∃ k:Nat,n=k∧k < p.things.length:=by
 have h2:=(Az1 h).2;have h3:=List.any_eq_false.1 h2 n hn;simp only [within,Bool.not_eq_true',Bool.and_eq_true,decide_eq_true_eq,Bool.not_eq_false',Bool.not_eq_true,Bool.not_eq_false] at h3;obtain ⟨k,rfl⟩:=Int.eq_ofNat_of_zero_le (by omega:0≤n);exact ⟨k,rfl,by omega⟩
theorem Cn0 {p:Pr} {l:List Int} {w:Int×Int} (h:truthsX p l = .ok w):openX p l = .ok ()∧lookS p=some w:=by
 unfold truthsX lookX at h
 split at h
 · cases h
 · rename_i u hu
   split at h
   · rename_i w' hw
     cases h
     exact ⟨hu,hw⟩
   · cases h
theorem BW0 {p:Pr}:∀ {l:List Th} {w u:Int×Int},lookL p w l=some u→w.1≤w.2→w.1≤u.1∧u.2≤w.2∧u.1≤u.2
 | [],w,u,h,h0=>by cases h;omega
 | t::l,w,u,h,h0=>by
   simp only [lookL] at h
   split at h
   · exact BW0 h h0
   · split at h
     · rename_i hs
       have hst:(stillS p t w).1.1≤(stillS p t w).1.2∧w.1≤(stillS p t w).1.1∧(stillS p t w).1.2≤w.2:=by
        unfold stillS at hs ⊢
        split
        · rename_i hc
          rw [if_pos hc] at hs;simp only [isB,decide_eq_true_eq] at hs;refine ⟨hs,?_,?_⟩ <;> simp only [nar] <;> omega
        · rename_i hc
          rw [if_neg hc] at hs;cases hs
       have:=BW0 h hst.1
       omega
     · cases h
theorem CJ6 {p:Pr} (hp:p.Ok) {w:Int×Int} (h:lookX p = .ok w):1≤w.1∧w.1≤w.2∧w.2≤500000000:=by
 have f1:=hp.f1;have f2:=hp.f2;have f3:=hp.f3;have b1:=hp.b1;have b2:=hp.b2;have b3:=hp.b3;have m2:=AX0 (a:=p.focal.hi) (b:=p.base.hi) (A:=50000) (B:=10000) (by omega) (by omega) (by omega) (by omega);have m1:1 * 1≤p.focal.lo * p.base.lo:=Int.mul_le_mul f1 b1 (by omega) (by omega);have m3:p.focal.lo * p.base.lo≤p.focal.hi * p.base.hi:=Int.mul_le_mul f2 b2 (by omega) (by omega);unfold lookX at h
 split at h
 · rename_i w' hw
   cases h
   have:=BW0 (show lookL p _ p.things=some w from hw) m3
   simp only at this
   omega
 · cases h
theorem Bi8 {a b:Int} (h0:0≤a) (h1:a≤1000000000000) (hb:0 < b):-9223372036854775808≤a / b∧a / b≤9223372036854775807:=by
 have h2:=Int.ediv_nonneg h0 (Int.le_of_lt hb);have h3:=Int.ediv_le_self b h0;omega
def thingAt (p:Pr) (n:Int):Th:=p.things.getD n.toNat ⟨⟨0,0⟩,⟨0,0⟩,⟨0,0⟩,⟨0,0⟩,0⟩
theorem Af0 {p:Pr} {k:Nat} {t:Th} (hk:k < p.things.length) (ht:p.things[k]=t):thingAt p (k:Int)=t:=by simp [thingAt,hk,ht]
def shiftX (p:Pr) (n:Int):(Int×Int)×Int:=match openX p [n] with | .error k=>((0,0),k) | .ok _=>(shift (thingAt p n),0)
def powerX (p:Pr):(Int×Int)×Int:=match truthsX p [] with | .error k=>((0,0),k) | .ok w=>(w,0)
def standsX (p:Pr) (far:Int):(Int×Int)×Int :=
 match openX p [] with
 | .error k=>((0,0),k)
 | .ok _=>if within far p.near p.far then (match lookX p with | .error k=>((0,0),k) | .ok w=>((w.1 / far,w.2 / far),0)) else ((0,0),2)
theorem CI7 {a b A B:Int} (ha:-A≤a∧a≤A) (hb:0≤b) (hb':b≤B):-(A * B)≤a * b∧a * b≤A * B:=by
 have hA:0≤A:=by omega
 have h1:=Int.mul_le_mul_of_nonneg_right ha.2 hb;have h2:=Int.mul_le_mul_of_nonneg_right ha.1 hb;have h3:=Int.mul_le_mul_of_nonneg_left hb' hA;rw [Int.neg_mul] at h2;omega
def powersR (p:Pr) (t:Th):Int×Int:=if isB (shownS t) && levelS p t then powersS p t (shownS t) else (1,0)
def allL (p:Pr) (w:Int×Int):List Th→Int×Int
 | []=>w
 | t::l=>if t.far=0 then allL p w l else allL p (nar w (powersR p t)) l
def powers0 (p:Pr):Int×Int:=(p.focal.lo * p.base.lo,p.focal.hi * p.base.hi)
def allS (p:Pr):Int×Int:=allL p (powers0 p) p.things
theorem DN3 (a b:Int×Int):a.1≤(nar a b).1∧(nar a b).2≤a.2:=by simp only [nar];omega
theorem Bj8 (p:Pr):∀ (l:List Th) (w:Int×Int),w.1≤(allL p w l).1∧(allL p w l).2≤w.2
 | [],w=>by simp [allL]
 | t::l,w=>by
   simp only [allL]
   split
   · exact Bj8 p l w
   · have h1:=Bj8 p l (nar w (powersR p t))
     have h2:=DN3 w (powersR p t);omega
theorem Bw2 (p:Pr):∀ (l:List Th) (w:Int×Int),w.1≤w.2→lookL p w l=if isB (allL p w l) then some (allL p w l) else none
 | [],w,h=>by simp [lookL,allL,isB,h]
 | t::l,w,h=>by
   simp only [lookL,allL]
   split
   · exact Bw2 p l w h
   · unfold stillS powersR
     split
     · rename_i hc
       cases hb:isB (nar w (powersS p t (shownS t))) with
       | true=>simp only [if_true];exact Bw2 p l _ (by simpa [isB] using hb)
       | false =>
         simp only [Bool.false_eq_true,if_false];have h1:=Bj8 p l (nar w (powersS p t (shownS t)));rw [if_neg];simp only [isB,decide_eq_false_iff_not,decide_eq_true_eq] at hb ⊢;omega
     · simp only [Bool.false_eq_true,if_false]
       have h1:=Bj8 p l (nar w (1,0));rw [if_neg];have h2:(nar w (1,0)).1 ≥ 1∧(nar w (1,0)).2≤0:=by simp only [nar];omega
       simp only [isB,decide_eq_true_eq];omega
theorem Bo2 {p:Pr} (hp:p.Ok):(powers0 p).1≤(powers0 p).2∧1≤(powers0 p).1∧(powers0 p).2≤500000000:=by
 have f1:=hp.f1;have f2:=hp.f2;have f3:=hp.f3;have b1:=hp.b1;have b2:=hp.b2;have b3:=hp.b3;have m2:=AX0 (a:=p.focal.hi) (b:=p.base.hi) (A:=50000) (B:=10000) (by omega) (by omega) (by omega) (by omega);have m1:1 * 1≤p.focal.lo * p.base.lo:=Int.mul_le_mul f1 b1 (by omega) (by omega);have m3:p.focal.lo * p.base.lo≤p.focal.hi * p.base.hi:=Int.mul_le_mul f2 b2 (by omega) (by omega);simp only [powers0];omega
theorem Ch7 {p:Pr} (hp:p.Ok):lookX p=if isB (allS p) then .ok (allS p) else .error 4:=by
 have h:=Bw2 p p.things (powers0 p) (Bo2 hp).1;unfold lookX;rw [show lookS p=lookL p (powers0 p) p.things from rfl,h];unfold allS
 split <;> rename_i h2 <;> split at h2 <;> simp_all
def thingR (p:Pr) (n:Int):Bool:=within n 0 ((p.things.length:Int) - 1)
def openR (p:Pr) (valid:Bool):(Int×Int)×Int:=if isPair p then (if valid then (if isB (allS p) then (allS p,0) else ((0,0),4)) else ((0,0),2)) else ((0,0),1)
def shiftR (p:Pr) (n:Int):(Int×Int)×Int:=if isPair p then (if thingR p n then (shift (thingAt p n),0) else ((0,0),2)) else ((0,0),1)
def powerR (p:Pr):(Int×Int)×Int:=openR p true
def standsR (p:Pr) (far:Int):(Int×Int)×Int:=let s:=openR p (within far p.near p.far);if s.2 ≠ 0 then ((0,0),s.2) else ((s.1.1 / far,s.1.2 / far),0)
def whyS (p:Pr) (t:Th) (w:Int×Int):Int :=
 if (stillS p t w).2 then 0 else 1 + idxF id [!levelS p t,decide ((shift t).2 < 0),decide (2000 < (shift t).1∨w.2 < (shift t).1 * p.near),true]
def whyX (p:Pr) (n:Int):Int×Int:=match truthsX p [n] with | .error k=>(0,k) | .ok w=>(whyS p (thingAt p n) w,0)
def distX (p:Pr) (n:Int):(Int×Int)×Int :=
 match truthsX p [n] with
 | .error k=>((0,0),k)
 | .ok w =>
   let t:=thingAt p n
   if (stillS p t w).2 then
    if t.far ≠ 0 then ((t.far,t.far),0) else (nar (p.near,p.far) (w.1 / ((shownS t).2 + 1) + 1,if 0 < (shownS t).1 then w.2 / (shownS t).1 else p.far),0)
   else ((0,0),11)
theorem Dh7 {α:Type} (f:α→Bool) (l:List α):-1≤idxF f l:=Bg9 f l
theorem Bw5 {α:Type} (f:α→Bool):∀ l:List α,idxF f l < l.length∨idxF f l = -1
 | []=>by simp [idxF]
 | x::l=>by
   have h:=Bw5 f l;unfold idxF
   split
   · left;simp only [List.length_cons];omega
   · split
     · exact .inr rfl
     · left;simp only [List.length_cons];omega
theorem Ar7 {p:Pr} {l:List Int} {w:Int×Int} (h:truthsX p l = .ok w):p.Ok∧openX p l = .ok ()∧1≤w.1∧w.1≤w.2∧w.2≤500000000:=by
 obtain ⟨h1,h2⟩:=Cn0 h;have hp:=An0 (Az1 h1).1;have h3:=CJ6 hp (w:=w) (by unfold lookX;rw [h2]);exact ⟨hp,h1,h3⟩
theorem Bd3 {p:Pr} {t:Th} {w:Int×Int} (h:(stillS p t w).2=true):isB (shownS t)=true∧levelS p t=true:=by
 unfold stillS at h
 split at h
 · rename_i h1;rw [Bool.and_eq_true] at h1;exact h1
 · cases h
theorem Cj8 {a b:Int} (h0:0≤a) (h1:a≤1000000000000) (hb:0 < b):-9223372036854775808≤a / b + 1∧a / b + 1≤9223372036854775807:=by
 have h2:=Int.ediv_nonneg h0 (Int.le_of_lt hb);have h3:=Int.ediv_le_self b h0;omega
structure Cd where
 p:Pr
 half:Int
 step:Int
 cuts:Int
 eyes:Sp
 prism:Int
 squeeze:Int
 front:Int
 deep:Int
structure Tr where
 ll:Int
 lr:Int
 rl:Int
 rr:Int
 deriving DecidableEq
def Tr.cells (t:Tr):LV:=[.I t.ll,.I t.lr,.I t.rl,.I t.rr]
def Tr.v (t:Tr):Value:=.agg #[.I t.ll,.I t.lr,.I t.rl,.I t.rr]
def Cd.cells (c:Cd) (q:OA) (cap:Nat):LV:=[.I c.p.focal.lo,.I c.p.focal.hi,.I c.p.base.lo,.I c.p.base.hi,.I c.p.tilt,.I c.p.near,.I c.p.far,.slice q c.p.things.length cap,
 .I c.half,.I c.step,.I c.cuts,.I c.eyes.lo,.I c.eyes.hi,.I c.prism,.I c.squeeze,.I c.front,.I c.deep]
def Cd.v (c:Cd) (q:OA) (cap:Nat):Value:=.agg (c.cells q cap).toArray
def cdCells (c:Cd) (q:OA) (cap:Nat) (m:Nat):LV:=[.I c.p.focal.lo,.I c.p.focal.hi,.I c.p.base.lo,.I c.p.base.hi,.I c.p.tilt,.I c.p.near,.I c.p.far,.slice q c.p.things.length cap,
 .I c.half,.I c.step,.I c.cuts,.I c.eyes.lo,.I c.eyes.hi,.I c.prism,.I c.squeeze,.I c.front,.I c.deep,.map (some m)]
def mtV (b:Nat) (t:Tr):Value:=.agg #[.pointer (some ⟨b,0,none⟩),.I t.ll,.I t.lr,.I t.rl,.I t.rr]
def sizesM (c:Cd):Bool:=within c.half 1 4000 && within c.step 1 100 && within c.cuts 0 40
def eyesM (c:Cd):Bool:=decide (1≤c.eyes.lo) && decide (c.eyes.lo≤c.eyes.hi) && decide (c.eyes.hi≤10000)
def badM (n:Int):Bool:=!within n 0 10000
def cardIs (c:Cd):Bool:=!decide ((powerX c.p).2=1) && (sizesM c && eyesM c) && ![c.prism,c.squeeze,c.front,c.deep].any badM
structure Cd.Ok (c:Cd):Prop where
 h1:1≤c.half
 h2:c.half≤4000
 s1:1≤c.step
 s2:c.step≤100
 c1:0≤c.cuts
 c2:c.cuts≤40
 e1:1≤c.eyes.lo
 e2:c.eyes.lo≤c.eyes.hi
 e3:c.eyes.hi≤10000
 p1:0≤c.prism
 p2:c.prism≤10000
 q1:0≤c.squeeze
 q2:c.squeeze≤10000
 f1:0≤c.front
 f2:c.front≤10000
 d1:0≤c.deep
 d2:c.deep≤10000
theorem Dd5 {c:Cd} (h1:sizesM c=true) (h2:eyesM c=true) (h3:[c.prism,c.squeeze,c.front,c.deep].any badM=false):c.Ok:=by
 simp only [sizesM,eyesM,badM,within,List.any_cons,List.any_nil,Bool.or_false,Bool.or_eq_false_iff,Bool.and_eq_true,decide_eq_true_eq,Bool.not_eq_false'] at h1 h2 h3;obtain ⟨⟨⟨_,_⟩,_,_⟩,_,_⟩:=h1;obtain ⟨⟨_,_⟩,_⟩:=h2;obtain ⟨⟨_,_⟩,⟨_,_⟩,⟨_,_⟩,_,_⟩:=h3;exact ⟨by assumption,by assumption,by assumption,by assumption,by assumption,by assumption,by assumption,by assumption,by assumption,by assumption,by assumption,by assumption,by assumption,by assumption,by assumption,by assumption,by assumption⟩
theorem Ax2 {c:Cd} (h:cardIs c=true):c.Ok∧(powerX c.p).2 ≠ 1:=by
 simp only [cardIs,Bool.and_eq_true,Bool.not_eq_true',decide_eq_false_iff_not] at h;exact ⟨Dd5 h.1.2.1 h.1.2.2 h.2,h.1.1⟩
def badT (c:Cd) (n:Int):Bool:=!within n 0 c.cuts
def trIs (c:Cd) (t:Tr):Bool:=![t.ll,t.lr,t.rl,t.rr].any (badT c) && decide (t.ll + t.lr=t.rl + t.rr)
structure Tr.Ok (t:Tr) (k:Int):Prop where
 a1:0≤t.ll
 a2:t.ll≤k
 b1:0≤t.lr
 b2:t.lr≤k
 c1:0≤t.rl
 c2:t.rl≤k
 d1:0≤t.rr
 d2:t.rr≤k
theorem CW3 {c:Cd} {t:Tr} (h:[t.ll,t.lr,t.rl,t.rr].any (badT c)=false):t.Ok c.cuts:=by
 simp only [badT,within,List.any_cons,List.any_nil,Bool.or_false,Bool.or_eq_false_iff,Bool.and_eq_true,decide_eq_true_eq,Bool.not_eq_false'] at h;obtain ⟨⟨_,_⟩,⟨_,_⟩,⟨_,_⟩,_,_⟩:=h;exact ⟨by assumption,by assumption,by assumption,by assumption,by assumption,by assumption,by assumption,by assumption⟩
theorem Bd1 {c:Cd} {t:Tr} (h:trIs c t=true):t.Ok c.cuts∧t.ll + t.lr=t.rl + t.rr:=by
 simp only [trIs,Bool.and_eq_true,Bool.not_eq_true',decide_eq_true_eq] at h;exact ⟨CW3 h.1,h.2⟩
def openM (c:Cd) (l:List Tr):Int:=if cardIs c then (if l.all (trIs c) then (powerX c.p).2 else 2) else 1
theorem AK0 {c:Cd} {l:List Tr} (h:openM c l=0):cardIs c=true∧l.all (trIs c)=true∧(powerX c.p).2=0:=by
 unfold openM at h
 split at h
 · split at h
   · exact ⟨by assumption,by assumption,h⟩
   · simp at h
 · simp at h
def seenK (p:Pr):Nat→List (Int×(Int×Int))
 | 0=>[]
 | k + 1=>if (whyX p k).1=0 then seenK p k++[((k:Int),(shiftX p k).1)] else seenK p k
def seenM (p:Pr):List (Int×(Int×Int)):=seenK p p.things.length
def entsV (l:List (Int×(Int×Int))):List (Int×Value):=l.map fun e=>(e.1,b2v e.2)
def mEnts (p:Pr):List (Int×Value):=entsV (seenM p)
theorem AP3 {p:Pr} {k:Nat} (h:(whyX p k).1=0):seenK p (k + 1)=seenK p k++[((k:Int),(shiftX p k).1)]:=by simp [seenK,h]
theorem Cg0 {p:Pr} {k:Nat} (h:(whyX p k).1 ≠ 0):seenK p (k + 1)=seenK p k:=by simp [seenK,h]
theorem AP4 (p:Pr):∀ k,∀ e∈seenK p k,∃ j:Nat,e=((j:Int),(shiftX p j).1)∧j < k∧(whyX p j).1=0
 | 0,e,h=>by cases h
 | k + 1,e,h=>by
   unfold seenK at h
   split at h
   · rename_i hw
     rcases List.mem_append.1 h with h | h
     · obtain ⟨j,h1,h2,h3⟩:=AP4 p k e h;exact ⟨j,h1,by omega,h3⟩
     · cases List.mem_singleton.1 h;exact ⟨k,rfl,by omega,hw⟩
   · obtain ⟨j,h1,h2,h3⟩:=AP4 p k e h;exact ⟨j,h1,by omega,h3⟩
theorem Ba5 {p:Pr}:∀ {k j:Nat},j < k→(whyX p j).1=0→((j:Int),(shiftX p j).1)∈seenK p k
 | k + 1,j,hj,hw=>by
   unfold seenK
   rcases Lc j k with h | h
   · split
     · exact List.mem_append_left _ (Ba5 h hw)
     · exact Ba5 h hw
   · have:j=k:=by omega
     subst this;rw [if_pos hw];simp
theorem CJ3 {l:List (Int×Value)} {a:Int} (h:∀ e∈l,e.1 ≠ a):mIdx l a=none:=by
 induction l with
 | nil=>rfl
 | cons x l ih =>
   unfold mIdx;rw [if_neg (h x (by simp)),ih (fun e he=>h e (List.mem_cons_of_mem _ he))];rfl
theorem BH1 (l l2:List (Int×Value)) (a:Int):mFind (l++l2) a=(mFind l a).or (mFind l2 a):=by
 unfold mFind
 induction l with
 | nil=>simp [mIdx]
 | cons x l ih =>
   simp only [List.cons_append,mIdx]
   by_cases h:x.1=a
   · simp [h]
   · simp only [h,if_false,Option.map_map]
     have h2:∀ o:Option (Nat×Value),(o.map ((fun x=>x.2) ∘ fun p:Nat×Value=>(p.1 + 1,p.2)))=o.map (·.2):=fun o=>by cases o <;> rfl
     rw [h2,h2,ih]
theorem CJ4 (p:Pr) (j:Nat):∀ k,mFind (entsV (seenK p k)) j=if j < k∧(whyX p j).1=0 then some (b2v (shiftX p j).1) else none
 | 0=>by simp [seenK,entsV,mFind,mIdx]
 | k + 1=>by
   have ih:=CJ4 p j k;unfold seenK
   by_cases hw:(whyX p k).1=0
   · rw [if_pos hw,show entsV (seenK p k++[((k:Int),(shiftX p k).1)])=entsV (seenK p k)++[((k:Int),b2v (shiftX p k).1)] by simp [entsV],BH1,ih]
     rcases Lf j k with h | h | h
     · by_cases hj:(whyX p j).1=0
       · simp [h,hj,Nat.lt_succ_of_lt h]
       · have:¬ (k:Int)=j:=by omega
         simp [hj,mFind,mIdx,this]
     · subst h;simp [hw,mFind,mIdx]
     · have:¬ (k:Int)=j:=by omega
       rw [if_neg (by omega),if_neg (by omega)];simp [mFind,mIdx,this]
   · rw [if_neg hw,ih]
     by_cases hj:(whyX p j).1=0
     · have:j ≠ k:=fun e=>hw (e ▸ hj)
       by_cases h:j < k
       · simp [h,hj,Nat.lt_succ_of_lt h]
       · rw [if_neg (by omega),if_neg (by omega)]
     · simp [hj]
theorem AU3 {p:Pr} {j:Nat} (h:j < p.things.length):mFind (mEnts p) j=if (whyX p j).1=0 then some (b2v (shiftX p j).1) else none:=by
 unfold mEnts seenM;rw [CJ4];simp [h]
def seenN (p:Pr):List Int:=(seenM p).map (·.1)
def seenNK (p:Pr) (k:Nat):List Int:=(seenK p k).map (·.1)
theorem Av6 {p:Pr} {k:Nat} (h:(whyX p k).1=0):seenNK p (k + 1)=seenNK p k++[(k:Int)]:=by simp [seenNK,seenK,h]
theorem AC0 {p:Pr} {k:Nat} (h:(whyX p k).1 ≠ 0):seenNK p (k + 1)=seenNK p k:=by simp [seenNK,seenK,h]
theorem AT3 (p:Pr):∀ k,(seenNK p k).length≤k
 | 0=>by simp [seenNK,seenK]
 | k + 1=>by
   have:=AT3 p k
   by_cases h:(whyX p k).1=0
   · rw [Av6 h];simp;omega
   · rw [AC0 h];omega
theorem Ba4 {p:Pr} {i:Int} (h:i∈seenN p):∃ j:Nat,i=j∧j < p.things.length∧(whyX p j).1=0:=by
 obtain ⟨e,he,rfl⟩:=List.mem_map.1 h;obtain ⟨j,rfl,h2,h3⟩:=AP4 p _ e he;exact ⟨j,rfl,h2,h3⟩
def windowM (c:Cd) (t:Tr):Int:=c.step * (t.ll - t.rl)
def apartM (c:Cd) (t:Tr):Int:=2 * c.half - c.step * (t.lr + t.rl)
def offM (c:Cd) (t:Tr) (x:Th):Bool:=(decide (x.lx.lo < c.step * t.ll - c.half) || decide (c.half - c.step * t.lr < x.lx.hi)) || (decide (x.rx.lo < c.step * t.rl - c.half) || decide (c.half - c.step * t.rr < x.rx.hi))
def hurtL (c:Cd) (t:Tr) (s:Int×Int) (x:Th):List Bool:=[decide (apartM c t - s.2 < c.eyes.hi - c.squeeze),decide (c.eyes.lo + c.prism < apartM c t - s.1),decide (windowM c t + c.front < s.2),decide (s.1 < windowM c t - c.deep),offM c t x]
def whyM (c:Cd) (t:Tr) (i:Int):Int:=idxF id (hurtL c t (shiftX c.p i).1 (thingAt c.p i)) + 1
theorem Da9 (c:Cd) (t:Tr) (i:Int):0≤whyM c t i∧whyM c t i≤5:=by
 have h1:=Bg9 id (hurtL c t (shiftX c.p i).1 (thingAt c.p i));have h2:=Bw5 id (hurtL c t (shiftX c.p i).1 (thingAt c.p i));have h3:((hurtL c t (shiftX c.p i).1 (thingAt c.p i)).length:Int)=5:=rfl;unfold whyM;omega
def hurtF (c:Cd) (t:Tr):List Int→Int×Int
 | []=>(0,0)
 | i::l=>if whyM c t i=0 then hurtF c t l else (i,whyM c t i)
def hurtM (c:Cd) (t:Tr):Int×Int:=hurtF c t (seenN c.p)
theorem BJ9 {c:Cd} {t:Tr}:∀ {l:List Int},(∀ i∈l,whyM c t i=0)→hurtF c t l=(0,0)
 | [],_=>rfl
 | i::l,h=>by simp [hurtF,h i (by simp),BJ9 (fun j hj=>h j (List.mem_cons_of_mem _ hj))]
theorem BJ8 {c:Cd} {t:Tr}:∀ {l:List Int} {k:Nat} (hk:k < l.length),(∀ j (h:j < k),whyM c t l[j]=0)→whyM c t l[k] ≠ 0→hurtF c t l=(l[k],whyM c t l[k])
 | i::l,0,_,_,h=>by simp at h;simp [hurtF,h]
 | i::l,k + 1,hk,h1,h2=>by
   have h0:=h1 0 (by omega);simp only [List.getElem_cons_zero] at h0;simp only [hurtF,h0,if_true,List.getElem_cons_succ] at h2 ⊢;exact BJ8 (by simpa using hk) (fun j h=>by simpa using h1 (j + 1) (by omega)) h2
def oneLo (c:Cd) (one:Int):Int:=max 0 (one - c.cuts)
def oneHi (c:Cd) (one:Int):Int:=min one c.cuts
def fromZ (lo:Int):Nat→List Int
 | 0=>[]
 | n + 1=>fromZ lo n++[lo + n]
theorem AR0 (lo:Int):∀ n,(fromZ lo n).length=n
 | 0=>rfl
 | n + 1=>by simp [fromZ,AR0 lo n]
theorem Bh2 {lo a:Int}:∀ {n:Nat},a∈fromZ lo n ↔ lo≤a∧a < lo + n
 | 0=>by simp only [fromZ,List.not_mem_nil,false_iff];omega
 | n + 1=>by
   simp only [fromZ,List.mem_append,List.mem_singleton,Bh2 (n:=n)];omega
def oneN (c:Cd) (one:Int):Nat:=(oneHi c one + 1 - oneLo c one).toNat
def trD (one a:Int) (l:List Int):List Tr:=l.map fun d=>⟨a,one - a,d,one - d⟩
def trA (c:Cd) (one:Int) (l:List Int):List Tr:=l.flatMap fun a=>trD one a (fromZ (oneLo c one) (oneN c one))
def trO (c:Cd) (l:List Int):List Tr:=l.flatMap fun one=>trA c one (fromZ (oneLo c one) (oneN c one))
def trimsM (c:Cd):List Tr:=trO c (fromZ 0 (2 * c.cuts + 1).toNat)
theorem Dc3 (one a d:Int) (l:List Int):trD one a (l++[d])=trD one a l++[⟨a,one - a,d,one - d⟩]:=by simp [trD]
theorem Dc4 (c:Cd) (one a:Int) (l:List Int):trA c one (l++[a])=trA c one l++trD one a (fromZ (oneLo c one) (oneN c one)):=by simp [trA]
theorem Dc2 (c:Cd) (one:Int) (l:List Int):trO c (l++[one])=trO c l++trA c one (fromZ (oneLo c one) (oneN c one)):=by simp [trO]
theorem AB8 {c:Cd} (hc:c.Ok) {t:Tr}:t∈trimsM c ↔ trIs c t=true:=by
 have c1:=hc.c1;simp only [trimsM,trO,trA,trD,List.mem_flatMap,List.mem_map,Bh2,oneN,oneLo,oneHi,trIs,badT,within,List.any_cons,List.any_nil,Bool.or_false,Bool.and_eq_true,Bool.not_eq_true',Bool.or_eq_false_iff,Bool.not_eq_false',decide_eq_true_eq]
 constructor
 · rintro ⟨one,h1,a,h2,d,h3,rfl⟩
   simp only
   omega
 · rintro ⟨h1,h2⟩
   exact ⟨t.ll + t.lr,by omega,t.ll,by omega,t.rl,by omega,by cases t;simp only at h1 h2 ⊢;congr 1 <;> omega⟩
def sumT (t:Tr):Int:=t.ll + t.lr + t.rl + t.rr
def lexT (a b:Tr):Prop:=a.ll < b.ll∨(a.ll=b.ll∧(a.lr < b.lr∨(a.lr=b.lr∧(a.rl < b.rl∨(a.rl=b.rl∧a.rr < b.rr)))))
instance (a b:Tr):Decidable (lexT a b):=by unfold lexT;infer_instance
def befT (a b:Tr):Prop:=sumT a < sumT b∨(sumT a=sumT b∧lexT a b)
instance (a b:Tr):Decidable (befT a b):=by unfold befT;infer_instance
theorem Bb2 (lo:Int):∀ n,(fromZ lo n).Pairwise (· < ·)
 | 0=>List.Pairwise.nil
 | n + 1=>by
   simp only [fromZ];refine List.pairwise_append.2 ⟨Bb2 lo n,List.pairwise_singleton _ _,fun a ha b hb=>?_⟩
   have:=Bh2.1 ha
   cases List.mem_singleton.1 hb
   omega
theorem DL0 (one a:Int) {l:List Int} (h:l.Pairwise (· < ·)):(trD one a l).Pairwise befT:=by
 unfold trD;refine List.pairwise_map.2 (h.imp fun {x y} hxy=>?_)
 right
 refine ⟨by simp only [sumT];omega,.inr ⟨rfl,.inr ⟨rfl,.inl hxy⟩⟩⟩
theorem AN9 {α β:Type} {R:α→α→Prop} {S:β→β→Prop} {f:α→List β}:∀ {l:List α},l.Pairwise R→(∀ a∈l,(f a).Pairwise S)→(∀ a b,R a b→∀ x∈f a,∀ y∈f b,S x y)→(l.flatMap f).Pairwise S
 | [],_,_,_=>by simp
 | a::l,h,h1,h2=>by
   cases h with
   | cons ha hl =>
     rw [List.flatMap_cons];refine List.pairwise_append.2 ⟨h1 a (by simp),AN9 hl (fun b hb=>h1 b (List.mem_cons_of_mem _ hb)) h2,fun x hx y hy=>?_⟩
     obtain ⟨b,hb,hy⟩:=List.mem_flatMap.1 hy;exact h2 a b (ha b hb) x hx y hy
theorem Bu6 (c:Cd):(trimsM c).Pairwise befT:=by
 refine AN9 (Bb2 _ _) (fun one _=>AN9 (Bb2 _ _) (fun a _=>DL0 one a (Bb2 _ _)) fun a b hab x hx y hy=>?_) fun a b hab x hx y hy=>?_
 · obtain ⟨d,_,rfl⟩:=List.mem_map.1 hx
   obtain ⟨e,_,rfl⟩:=List.mem_map.1 hy;simp only [befT,sumT,lexT];omega
 · obtain ⟨a1,_,hx⟩:=List.mem_flatMap.1 hx
   obtain ⟨b1,_,hy⟩:=List.mem_flatMap.1 hy;obtain ⟨d,_,rfl⟩:=List.mem_map.1 hx;obtain ⟨e,_,rfl⟩:=List.mem_map.1 hy;simp only [befT,sumT,lexT];omega
def fitT (c:Cd) (t:Tr):Bool:=decide ((hurtM c t).2=0)
def bestM (c:Cd):Option Tr:=(trimsM c).find? (fitT c)
def trimX (c:Cd):Tr×Int:=if openM c []=0 then (match bestM c with | some t=>(t,0) | none=>(⟨0,0,0,0⟩,11)) else (⟨0,0,0,0⟩,openM c [])
def wideR (p:Pr) (most i:Int):List Int→Option Int
 | []=>none
 | k::l=>if most < (shiftX p i).1.2 - (shiftX p k).1.1 then some k else wideR p most i l
def roomOf (c:Cd) (t:Tr):Int×Int:=nar (nar (0,2000) (windowM c t - c.deep,windowM c t + c.front)) (apartM c t - c.eyes.lo - c.prism,apartM c t - c.eyes.hi + c.squeeze)
def roomX (c:Cd) (t:Tr):(Int×Int)×Int:=if openM c [t]=0 then (if (roomOf c t).2 < (roomOf c t).1 then ((0,0),4) else (roomOf c t,0)) else ((0,0),openM c [t])
def leastN (f:Nat→Bool):Nat→Nat
 | 0=>0
 | n + 1=>if leastN f n < n then leastN f n else if f n then n else n + 1
theorem Ao9 (f:Nat→Bool):∀ n,leastN f n≤n
 | 0=>Nat.le_refl _
 | n + 1=>by have:=Ao9 f n;unfold leastN;split <;> (try split) <;> omega
theorem AK5 (f:Nat→Bool):∀ n j,j < leastN f n→f j=false
 | 0,j,h=>by simp [leastN] at h
 | n + 1,j,h=>by
   unfold leastN at h;have hl:=Ao9 f n
   split at h
   · exact AK5 f n j h
   · have hn:leastN f n=n:=by omega
     split at h
     · exact AK5 f n j (by omega)
     · rcases Lc j n with h2 | h2
       · exact AK5 f n j (by omega)
       · have:j=n:=by omega
         subst this;simp_all
theorem BH9 (f:Nat→Bool):∀ n,leastN f n < n→f (leastN f n)=true
 | 0,h=>by simp at h
 | n + 1,h=>by
   have h0:leastN f (n + 1)=if leastN f n < n then leastN f n else if f n then n else n + 1:=rfl;rw [h0] at h ⊢;have hl:=Ao9 f n
   split
   · rename_i h2;exact BH9 f n h2
   · split
     · assumption
     · rename_i h2 h3;rw [if_neg h2,if_neg h3] at h;omega
theorem CK5 {f:Nat→Bool} {n m:Nat} (hm:m≤n) (h1:∀ j,j < m→f j=false) (h2:m < n→f m=true):leastN f n=m:=by
 rcases Lf (leastN f n) m with h | h | h
 · have:=BH9 f n (by omega);rw [h1 _ h] at this;cases this
 · exact h
 · have h3:=AK5 f n m h
   have:=Ao9 f n
   rw [h2 (by omega)] at h3;cases h3
def standsAt (p:Pr) (z:Int):Int×Int:=(standsX p z).1
def depthsOf (c:Cd) (r:Int×Int):Int×Int :=
 let n:=(c.p.far - c.p.near + 1).toNat
 (c.p.near + leastN (fun i=>decide ((standsAt c.p (c.p.near + i)).2≤r.2)) n,c.p.near + leastN (fun i=>decide ((standsAt c.p (c.p.near + i)).1 < r.1)) n - 1)
def depthsX (c:Cd) (t:Tr):(Int×Int)×Int:=if (roomX c t).2=0 then (if (depthsOf c (roomX c t).1).2 < (depthsOf c (roomX c t).1).1 then ((0,0),4) else (depthsOf c (roomX c t).1,0)) else ((0,0),(roomX c t).2)
def hurtsX (c:Cd) (t:Tr):Int×Int×Int:=if openM c [t]=0 then (if (hurtM c t).2=0 then (0,0,0) else ((hurtM c t).1,(hurtM c t).2,11)) else (0,0,openM c [t])
def bitsOf:List Int→Nat
 | []=>0
 | i::l=>bitsOf l ||| 2 ^ i.toNat
def seenX (c:Cd):Int×Int:=if openM c []=0 then ((bitsOf (seenN c.p):Int),0) else (0,openM c [])
end Go.Pw1
namespace Go.Hp
def free (f u i:Nat):Bool:=f.testBit i && !u.testBit i
def waysL (ne:Nat):List Nat→Nat→List (List Nat)
 | [],_=>[[]]
 | f::fs,u=>(List.range ne).flatMap fun i=>if free f u i then (waysL ne fs (u ||| 2 ^ i)).map (i::·) else []
def cntL (ne:Nat):List Nat→Nat→Nat
 | [],_=>1
 | f::fs,u=>((List.range ne).map fun i=>if free f u i then cntL ne fs (u ||| 2 ^ i) else 0).sum
theorem AE9 (ne:Nat):∀ (fs:List Nat) (u:Nat),cntL ne fs u=(waysL ne fs u).length
 | [],_=>rfl
 | f::fs,u=>by
   simp only [cntL,waysL,List.length_flatMap]
   congr 1
   refine List.map_congr_left fun i _=>?_
   split
   · rw [List.length_map,AE9 ne fs]
   · rfl
def WayR (ne:Nat):List Nat→Nat→List Nat→Prop
 | [],_,[]=>True
 | f::fs,u,i::l=>i < ne∧free f u i=true∧WayR ne fs (u ||| 2 ^ i) l
 | _,_,_=>False
theorem DN5 {ne:Nat}:∀ {fs:List Nat} {u:Nat} {l:List Nat},l∈waysL ne fs u ↔ WayR ne fs u l
 | [],u,l=>by
   cases l <;> simp [waysL,WayR]
 | f::fs,u,l=>by
   simp only [waysL,List.mem_flatMap,List.mem_range]
   constructor
   · rintro ⟨i,hi,h⟩
     split at h
     · rename_i hf
       obtain ⟨l',h',rfl⟩:=List.mem_map.1 h;exact ⟨hi,hf,DN5.1 h'⟩
     · cases h
   · intro h
     cases l with
     | nil=>exact h.elim
     | cons i l =>
       obtain ⟨h1,h2,h3⟩:=h;exact ⟨i,h1,by rw [if_pos h2];exact List.mem_map.2 ⟨l,DN5.2 h3,rfl⟩⟩
theorem Bj6 (u i x:Nat):(u ||| 2 ^ i).testBit x=(u.testBit x || decide (i=x)):=by
 rw [Nat.testBit_or,Nat.testBit_two_pow]
structure Way (ne:Nat) (fs:List Nat) (u:Nat) (l:List Nat):Prop where
 len:l.length=fs.length
 fit:∀ k (h:k < l.length),l[k] < ne∧(fs.getD k 0).testBit l[k]=true
 new:∀ x∈l,u.testBit x=false
 nd:l.Nodup
theorem DJ2 {ne:Nat}:∀ {fs:List Nat} {u:Nat} {l:List Nat},WayR ne fs u l ↔ Way ne fs u l
 | [],u,[]=>⟨fun _=>⟨rfl,fun k h=>absurd h (by simp),fun x hx=>(by cases hx),List.nodup_nil⟩,fun _=>trivial⟩
 | [],u,i::l=>⟨fun h=>h.elim,fun h=>by have:=h.len;simp at this⟩
 | f::fs,u,[]=>⟨fun h=>h.elim,fun h=>by have:=h.len;simp at this⟩
 | f::fs,u,i::l=>by
   show (i < ne∧free f u i=true∧WayR ne fs (u ||| 2 ^ i) l) ↔ _
   rw [DJ2];simp only [free,Bool.and_eq_true,Bool.not_eq_true']
   constructor
   · rintro ⟨h1,⟨h2,h3⟩,h4⟩
     refine ⟨by simp [h4.len],?_,?_,?_⟩
     · intro k hk
       cases k with
       | zero=>exact ⟨h1,h2⟩
       | succ k=>simpa using h4.fit k (by simpa using hk)
     · intro x hx
       rcases List.mem_cons.1 hx with rfl | hx
       · exact h3
       · have:=h4.new x hx
         rw [Bj6,Bool.or_eq_false_iff] at this;exact this.1
     · refine List.nodup_cons.2 ⟨fun hx=>?_,h4.nd⟩
       have:=h4.new i hx
       rw [Bj6] at this;simp at this
   · intro h
     have h0:=h.fit 0 (by simp);refine ⟨h0.1,⟨h0.2,h.new i (by simp)⟩,⟨by have:=h.len;simpa using this,?_,?_,(List.nodup_cons.1 h.nd).2⟩⟩
     · intro k hk
       have:=h.fit (k + 1) (by simpa using hk)
       simpa using this
     · intro x hx
       rw [Bj6,Bool.or_eq_false_iff];refine ⟨h.new x (List.mem_cons_of_mem _ hx),?_⟩
       rw [decide_eq_false_iff_not]
       rintro rfl
       exact (List.nodup_cons.1 h.nd).1 hx
theorem Ay4 {ne:Nat} {fs:List Nat} {u:Nat} {l:List Nat}:l∈waysL ne fs u ↔ Way ne fs u l:=DN5.trans DJ2
def lexL:List Nat→List Nat→Prop
 | a::l,b::m=>a < b∨(a=b∧lexL l m)
 | _,_=>False
theorem Dp2:∀ {l m:List Nat},lexL l m→l ≠ m
 | a::l,b::m,h,e=>by
   cases e
   rcases h with h | ⟨_,h⟩
   · omega
   · exact Dp2 h rfl
theorem AN9 {α β:Type} {R:α→α→Prop} {S:β→β→Prop} {f:α→List β}:∀ {l:List α},l.Pairwise R→(∀ a∈l,(f a).Pairwise S)→(∀ a b,R a b→∀ x∈f a,∀ y∈f b,S x y)→(l.flatMap f).Pairwise S
 | [],_,_,_=>by simp
 | a::l,h,h1,h2=>by
   cases h with
   | cons ha hl =>
     rw [List.flatMap_cons];refine List.pairwise_append.2 ⟨h1 a (by simp),AN9 hl (fun b hb=>h1 b (List.mem_cons_of_mem _ hb)) h2,fun x hx y hy=>?_⟩
     obtain ⟨b,hb,hy⟩:=List.mem_flatMap.1 hy;exact h2 a b (ha b hb) x hx y hy
theorem Cy9 (ne:Nat):∀ (fs:List Nat) (u:Nat),(waysL ne fs u).Pairwise lexL
 | [],_=>List.pairwise_singleton _ _
 | f::fs,u=>by
   refine AN9 (R:=(· < ·)) List.pairwise_lt_range (fun i _=>?_) fun a b hab x hx y hy=>?_
   · split
     · exact List.pairwise_map.2 ((Cy9 ne fs _).imp fun h=>.inr ⟨rfl,h⟩)
     · exact List.Pairwise.nil
   · split at hx
     · split at hy
       · obtain ⟨x',_,rfl⟩:=List.mem_map.1 hx
         obtain ⟨y',_,rfl⟩:=List.mem_map.1 hy;exact .inl hab
       · cases hy
     · cases hx
theorem BS3 (ne:Nat) (fs:List Nat) (u:Nat):(waysL ne fs u).Nodup:=(Cy9 ne fs u).imp Dp2
theorem Bo9 {α:Type} [DecidableEq α] {l m:List α} (hl:l.Nodup) (hm:m.Nodup) (h:∀ x,x∈l ↔ x∈m):l.length=m.length:=((List.perm_ext_iff_of_nodup hl hm).2 (fun {x}=>h x)).length_eq
def firstL (ne:Nat):List Nat→Nat→List Nat
 | [],_=>[]
 | f::fs,u=>match (List.range ne).find? fun i=>free f u i && decide (0 < cntL ne fs (u ||| 2 ^ i)) with
   | some i=>i::firstL ne fs (u ||| 2 ^ i)
   | none=>firstL ne fs u
theorem BL4 {α β:Type} {f:α→List β} {p:α→Bool} {g:α→Option β} (hp:∀ a,p a=false→f a=[]) (hg:∀ a,p a=true→(f a).head? = g a∧(g a).isSome):∀ l:List α,(l.flatMap f).head? = (l.find? p).bind g
 | []=>rfl
 | a::l=>by
   rw [List.flatMap_cons,List.find?_cons]
   cases h:p a with
   | false=>rw [hp a h,List.nil_append];exact BL4 hp hg l
   | true =>
     obtain ⟨h1,h2⟩:=hg a h;rw [List.head?_append,h1]
     cases h3:g a with
     | none=>rw [h3] at h2;cases h2
     | some x=>simp [h3]
theorem Bq1 (ne:Nat):∀ (fs:List Nat) (u:Nat),0 < cntL ne fs u→(waysL ne fs u).head? = some (firstL ne fs u)
 | [],_,_=>rfl
 | f::fs,u,h=>by
   have e:=BL4 (f:=fun i=>if free f u i then (waysL ne fs (u ||| 2 ^ i)).map (i::·) else []) (p:=fun i=>free f u i && decide (0 < cntL ne fs (u ||| 2 ^ i))) (g:=fun i=>some (i::firstL ne fs (u ||| 2 ^ i)))
    (fun i hi=>by
     split
     · rename_i hf
       simp only [hf,Bool.true_and,decide_eq_false_iff_not] at hi;rw [List.map_eq_nil_iff];rw [AE9] at hi;exact List.length_eq_zero_iff.1 (by omega)
     · rfl)
    (fun i hi=>by
     rw [Bool.and_eq_true,decide_eq_true_eq] at hi;rw [if_pos hi.1,List.head?_map,Bq1 ne fs _ hi.2];exact ⟨rfl,rfl⟩) (List.range ne)
   show ((List.range ne).flatMap _).head? = _
   rw [e];have e3:firstL ne (f::fs) u=match (List.range ne).find? fun i=>free f u i && decide (0 < cntL ne fs (u ||| 2 ^ i)) with | some i=>i::firstL ne fs (u ||| 2 ^ i) | none=>firstL ne fs u:=rfl
   rw [e3]
   cases h2:(List.range ne).find? (fun i=>free f u i && decide (0 < cntL ne fs (u ||| 2 ^ i))) with
   | some i=>rfl
   | none =>
     exfalso
     rw [h2] at e;have h3:(List.range ne).flatMap (fun i=>if free f u i then (waysL ne fs (u ||| 2 ^ i)).map (i::·) else [])=[]:=List.head?_eq_none_iff.1 e;have h4:waysL ne (f::fs) u=[]:=h3;rw [AE9,h4] at h
     cases h
theorem CO9 {ne:Nat} {fs:List Nat} {u:Nat} (h:0 < cntL ne fs u):Way ne fs u (firstL ne fs u):=Ay4.1 (List.mem_of_mem_head? (by rw [Bq1 ne fs u h];rfl))
def setC (fs:List Nat) (c e:Nat):List Nat:=fs.set c (fs.getD c 0 &&& 2 ^ e)
theorem Bv2 {fs:List Nat} {c e k:Nat} (hc:c < fs.length):(setC fs c e).getD k 0=if k=c then fs.getD c 0 &&& 2 ^ e else fs.getD k 0:=by
 unfold setC;simp only [List.getD_eq_getElem?_getD,List.getElem?_set]
 by_cases h:c=k
 · subst h;simp [hc]
 · have h2:¬ k=c:=fun e=>h e.symm
   simp [h,h2]
theorem De1 {ne:Nat} {fs:List Nat} {c e:Nat} (hc:c < fs.length) {l:List Nat}:Way ne (setC fs c e) 0 l ↔ Way ne fs 0 l∧l.getD c ne=e:=by
 have hlen:(setC fs c e).length=fs.length:=by simp [setC]
 constructor
 · intro h
   have hl:=h.len;rw [hlen] at hl;have hcl:c < l.length:=by omega
   have hf:=h.fit c hcl;rw [Bv2 hc,if_pos rfl,Nat.testBit_and,Nat.testBit_two_pow,Bool.and_eq_true,decide_eq_true_eq] at hf;refine ⟨⟨hl,fun k hk=>?_,h.new,h.nd⟩,by simp [List.getD_eq_getElem?_getD,hcl,hf.2.2]⟩
   have h2:=h.fit k hk;rw [Bv2 hc] at h2
   by_cases hkc:k=c
   · subst hkc;exact ⟨hf.1,hf.2.1⟩
   · rw [if_neg hkc] at h2;exact h2
 · rintro ⟨h,he⟩
   refine ⟨by rw [hlen];exact h.len,fun k hk=>?_,h.new,h.nd⟩
   rw [Bv2 hc];have h2:=h.fit k hk
   by_cases hkc:k=c
   · subst hkc
     rw [if_pos rfl,Nat.testBit_and,Nat.testBit_two_pow]
     have:l.getD k ne=l[k]:=by simp [List.getD_eq_getElem?_getD,hk]
     exact ⟨h2.1,by rw [h2.2,← he,this];simp⟩
   · rw [if_neg hkc];exact h2
def shareL (ne:Nat) (fs:List Nat) (c e:Nat):Nat:=cntL ne (setC fs c e) 0
def keyP (ne c e:Nat) (l:List Nat):Bool:=decide (l.getD c ne=e)
theorem BU0 {ne:Nat} {fs:List Nat} {c:Nat} (hc:c < fs.length) (e:Nat):shareL ne fs c e=(waysL ne fs 0).countP (keyP ne c e):=by
 unfold shareL;rw [AE9,List.countP_eq_length_filter];refine Bo9 (BS3 _ _ _) ((BS3 _ _ _).filter _) fun l=>?_
 rw [Ay4,De1 hc,List.mem_filter,Ay4,keyP,decide_eq_true_eq]
theorem CD6 {ne:Nat} {fs:List Nat} {c:Nat} (hc:c < fs.length) {e:Nat}:shareL ne fs c e=cntL ne fs 0 ↔ ∀ l,Way ne fs 0 l→l.getD c ne=e:=by
 rw [BU0 hc,AE9,List.countP_eq_length];exact ⟨fun h l hl=>of_decide_eq_true (h l (Ay4.2 hl)),fun h l hl=>decide_eq_true (h l (Ay4.1 hl))⟩
def nb (ne:Nat) (N:Nat→Nat→Bool) (S:List Nat):Nat:=(List.range ne).countP fun e=>S.any fun c=>N c e
structure Mat (ne:Nat) (N:Nat→Nat→Bool) (cs:List Nat) (m:Nat→Nat):Prop where
 fit:∀ c∈cs,m c < ne∧N c (m c)=true
 inj:∀ c∈cs,∀ d∈cs,m c=m d→c=d
theorem BM6 {α:Type} (p q:α→Bool):∀ l:List α,l.countP (fun x=>p x || q x)=l.countP (fun x=>p x && !q x) + l.countP q
 | []=>rfl
 | a::l=>by
   have ih:=BM6 p q l;simp only [List.countP_cons,ih]
   cases p a <;> cases q a <;> simp <;> omega
theorem Br0 {p q:Nat→Bool} {e0:Nat} (h:∀ x,q x=(p x && !decide (x=e0))):∀ {l:List Nat},l.Nodup→l.countP p≤l.countP q + 1
 | [],_=>by simp
 | a::l,hl=>by
   obtain ⟨h1,h2⟩:=List.nodup_cons.1 hl
   by_cases ha:a=e0
   · subst ha
     have e:l.countP p=l.countP q:=by
      refine List.countP_congr fun x hx=>?_
      have:¬ x=a:=fun e=>h1 (e ▸ hx)
      rw [h x];simp [this]
     simp only [List.countP_cons];rw [e]
     split <;> split <;> omega
   · have ih:=Br0 h h2
     simp only [List.countP_cons,h a];simp only [ha,decide_false,Bool.not_false,Bool.and_true];omega
theorem CW9 {α:Type} (p:α→Bool) (b:Bool):∀ l:List α,l.any (fun c=>p c && b)=(l.any p && b)
 | []=>rfl
 | a::l=>by
   rw [List.any_cons,List.any_cons,CW9 p b l]
   cases p a <;> cases b <;> simp
theorem AH6 (ne:Nat):∀ (n:Nat) (cs:List Nat),cs.length=n→cs.Nodup→∀ N:Nat→Nat→Bool,(∀ S:List Nat,S.Nodup→S ⊆ cs→S.length≤nb ne N S)→∃ m,Mat ne N cs m:=by
 intro n
 induction n using Nat.strongRecOn with
 | _ n ih =>
 intro cs hlen hnd N hH
 cases cs with
 | nil=>exact ⟨fun _=>0,fun c h=>(by cases h),fun c h=>(by cases h)⟩
 | cons c0 cs =>
   simp only [List.length_cons] at hlen
   by_cases hB:∃ S:List Nat,S.Nodup∧S ⊆ c0::cs∧S ≠ []∧S.length < n∧nb ne N S≤S.length
   · obtain ⟨S,s1,s2,s3,s4,s5⟩:=hB
     obtain ⟨m1,h1⟩:=ih S.length s4 S rfl s1 N fun T t1 t2=>hH T t1 fun x hx=>s2 (t2 hx)
     let R:=(c0::cs).filter fun x=>!decide (x∈S)
     have hR:∀ x,x∈R ↔ x∈c0::cs∧x ∉ S:=fun x=>by simp only [R,List.mem_filter,Bool.not_eq_true',decide_eq_false_iff_not]
     have hRl:R.length < n:=by
      have e:(c0::cs).filter (fun x=>decide (x∈S)) ≠ []:=by
       cases S with
       | nil=>exact absurd rfl s3
       | cons a S =>
         have:a∈(c0::cs).filter (fun x=>decide (x∈a::S)):=List.mem_filter.2 ⟨s2 (by simp),by simp⟩
         intro h;rw [h] at this;cases this
      have h3:((c0::cs).filter (fun x=>decide (x∈S))).length + R.length=(c0::cs).length:=by
       simp only [R,← List.countP_eq_length_filter]
       have:=List.length_eq_countP_add_countP (l:=c0::cs) (p:=fun x=>decide (x∈S))
       rw [this]
       congr 1
       refine List.countP_congr fun x _=>?_
       simp
      have h4:=List.length_pos_iff.2 e;simp only [List.length_cons] at h3;omega
     have hRn:R.Nodup:=hnd.filter _
     obtain ⟨m2,h2⟩:=ih R.length hRl R rfl hRn (fun c e=>N c e && !(S.any fun c=>N c e)) fun T t1 t2=>by
      have hd:(T++S).Nodup:=by
       rw [List.nodup_append];exact ⟨t1,s1,fun a ha b hb e=>((hR a).1 (t2 ha)).2 (e ▸ hb)⟩
      have h3:=hH (T++S) hd fun x hx=>by
       rcases List.mem_append.1 hx with h | h
       · exact ((hR x).1 (t2 h)).1
       · exact s2 h
      have h4:nb ne N (T++S)=nb ne (fun c e=>N c e && !(S.any fun c=>N c e)) T + nb ne N S:=by
       unfold nb;have e1:(fun e=>(T++S).any fun c=>N c e)=fun e=>(T.any fun c=>N c e) || (S.any fun c=>N c e):=by funext e;rw [List.any_append]
       have e2:(fun e=>T.any fun c=>N c e && !(S.any fun c=>N c e))=fun e=>(T.any fun c=>N c e) && !(S.any fun c=>N c e):=by
        funext e
        cases S.any fun c=>N c e <;> simp
       rw [e1,e2];exact BM6 _ _ _
      rw [List.length_append] at h3;omega
     refine ⟨fun c=>if c∈S then m1 c else m2 c,fun c hc=>?_,fun c hc d hd he=>?_⟩
     · by_cases h:c∈S
       · simp only [if_pos h];exact h1.fit c h
       · simp only [if_neg h]
         have:=h2.fit c ((hR c).2 ⟨hc,h⟩)
         rw [Bool.and_eq_true] at this;exact ⟨this.1,this.2.1⟩
     · have cross:∀ a b,a∈S→b∈c0::cs→b ∉ S→m1 a ≠ m2 b:=fun a b ha hb hbS e=>by
        have g1:=h1.fit a ha;have g2:=h2.fit b ((hR b).2 ⟨hb,hbS⟩);rw [Bool.and_eq_true,Bool.not_eq_true',List.any_eq_false] at g2;exact g2.2.2 a ha (e ▸ g1.2)
       by_cases h:c∈S <;> by_cases h':d∈S <;> simp only [h,h',if_true,if_false] at he
       · exact h1.inj c h d h' he
       · exact absurd he (cross c d h hd h')
       · exact absurd he.symm (cross d c h' hc h)
       · exact h2.inj c ((hR c).2 ⟨hc,h⟩) d ((hR d).2 ⟨hd,h'⟩) he
   · have hA:∀ S:List Nat,S.Nodup→S ⊆ c0::cs→S ≠ []→S.length < n→S.length + 1≤nb ne N S:=fun S s1 s2 s3 s4=>by
      rcases Lc S.length (nb ne N S) with h | h
      · exact h
      · exact absurd ⟨S,s1,s2,s3,s4,h⟩ hB
     have h0:=hH [c0] (by simp) (by simp);have h0':0 < nb ne N [c0]:=h0;unfold nb at h0';rw [List.countP_pos_iff] at h0';obtain ⟨e0,he0,hN0⟩:=h0';have he0:=List.mem_range.1 he0;have hN0:N c0 e0=true:=by simpa using hN0
     obtain ⟨hc0,hcs⟩:=List.nodup_cons.1 hnd
     obtain ⟨m,hm⟩:=ih cs.length (by omega) cs rfl hcs (fun c e=>N c e && !decide (e=e0)) fun S s1 s2=>by
      cases S with
      | nil=>simp
      | cons a S =>
        have h1:=hA (a::S) s1 (fun x hx=>List.mem_cons_of_mem _ (s2 hx)) (by simp) (by have:=s1.length_le_of_subset s2;simp only [List.length_cons] at this ⊢;omega)
        have h2:nb ne N (a::S)≤nb ne (fun c e=>N c e && !decide (e=e0)) (a::S) + 1:=by
         unfold nb;refine Br0 (e0:=e0) (fun x=>?_) List.nodup_range
         exact CW9 (fun c=>N c x) (!decide (x=e0)) (a::S)
        omega
     have hne:∀ c∈cs,c ≠ c0:=fun c hc e=>hc0 (e ▸ hc)
     have hme:∀ c∈cs,m c ≠ e0:=fun c hc e=>by
      have:=(hm.fit c hc).2
      rw [e] at this;simp at this
     refine ⟨fun c=>if c=c0 then e0 else m c,fun c hc=>?_,fun c hc d hd he=>?_⟩
     · by_cases h:c=c0
       · simp only [if_pos h];exact ⟨he0,h ▸ hN0⟩
       · simp only [if_neg h]
         have:=hm.fit c ((List.mem_cons.1 hc).resolve_left h)
         rw [Bool.and_eq_true] at this;exact ⟨this.1,this.2.1⟩
     · by_cases h:c=c0 <;> by_cases h':d=c0 <;> simp only [h,h',if_true,if_false] at he
       · rw [h,h']
       · exact absurd he.symm (hme d ((List.mem_cons.1 hd).resolve_left h'))
       · exact absurd he (hme c ((List.mem_cons.1 hc).resolve_left h))
       · exact hm.inj c ((List.mem_cons.1 hc).resolve_left h) d ((List.mem_cons.1 hd).resolve_left h') he
theorem DN2 {l:List Nat} (h:l.Nodup) {i j:Nat} (hi:i < l.length) (hj:j < l.length) (e:l[i]=l[j]):i=j:=by
 have hp:=List.pairwise_iff_getElem.1 h
 rcases Lf i j with h1 | h1 | h1
 · exact absurd e (hp i j hi hj h1)
 · exact h1
 · exact absurd e.symm (hp j i hj hi h1)
def fitN (fs:List Nat) (c e:Nat):Bool:=(fs.getD c 0).testBit e
theorem DJ0 {ne:Nat} {fs:List Nat} (h:∀ S:List Nat,S.Nodup→(∀ c∈S,c < fs.length)→S.length≤nb ne (fitN fs) S):∃ l,Way ne fs 0 l:=by
 obtain ⟨m,hm⟩:=AH6 ne fs.length (List.range fs.length) (by simp) List.nodup_range (fitN fs) fun S s1 s2=>h S s1 fun c hc=>List.mem_range.1 (s2 hc)
 refine ⟨(List.range fs.length).map m,by simp,fun k hk=>?_,fun x _=>by simp,?_⟩
 · have hk2:k < fs.length:=by simpa using hk
   simp only [List.getElem_map,List.getElem_range];exact hm.fit k (List.mem_range.2 hk2)
 · rw [List.nodup_iff_pairwise_ne,List.pairwise_map]
   exact List.nodup_range.imp_of_mem fun ha hb hab e=>hab (hm.inj _ ha _ hb e)
theorem DJ1 {ne:Nat} {fs:List Nat} {l:List Nat} (h:Way ne fs 0 l) {S:List Nat} (hS:S.Nodup) (hb:∀ c∈S,c < fs.length):S.length≤nb ne (fitN fs) S:=by
 have h1:(S.map fun c=>l.getD c ne).Nodup:=by
  rw [List.nodup_iff_pairwise_ne,List.pairwise_map];refine hS.imp_of_mem fun {a b} ha hb' hab e=>hab ?_
  have ha2:a < l.length:=by rw [h.len];exact hb a ha
  have hb2:b < l.length:=by rw [h.len];exact hb b hb'
  simp only [List.getD_eq_getElem?_getD,List.getElem?_eq_getElem ha2,List.getElem?_eq_getElem hb2,Option.getD_some] at e;exact DN2 h.nd ha2 hb2 e
 have h2:(S.map fun c=>l.getD c ne) ⊆ (List.range ne).filter fun e=>S.any fun c=>fitN fs c e:=by
  intro x hx;obtain ⟨c,hc,rfl⟩:=List.mem_map.1 hx;have hc2:c < l.length:=by rw [h.len];exact hb c hc
  have h3:=h.fit c hc2;have e:l.getD c ne=l[c]:=by simp [List.getD_eq_getElem?_getD,hc2]
  rw [e];exact List.mem_filter.2 ⟨List.mem_range.2 h3.1,List.any_eq_true.2 ⟨c,hc,h3.2⟩⟩
 have h3:=h1.length_le_of_subset h2;rw [List.length_map] at h3;rw [nb,List.countP_eq_length_filter];exact h3
end Go.Hp
namespace Go.Pw1
open Go Go.Eng
def oc1 (s:Nat):Nat:=(s >>> 1 &&& 6148914691236517205) + (s &&& 6148914691236517205)
def oc2 (s:Nat):Nat:=(oc1 s >>> 2 &&& 3689348814741910323) + (oc1 s &&& 3689348814741910323)
def oc3a (s:Nat):Nat:=oc2 s >>> 4 + oc2 s
def oc3 (s:Nat):Nat:=oc3a s &&& 1085102592571150095
def oc4 (s:Nat):Nat:=oc3 s + oc3 s >>> 8
def oc5 (s:Nat):Nat:=oc4 s + oc4 s >>> 16
def oc6 (s:Nat):Nat:=oc5 s + oc5 s >>> 32
def oc (s:Nat):Nat:=oc6 s &&& 127
theorem Do9 (s:Nat):oc1 s≤2 * 6148914691236517205:=by have h1:=Lg (n:=s >>> 1) (m:=6148914691236517205);have h2:=Lg (n:=s) (m:=6148914691236517205);unfold oc1;omega
theorem CI1 (s:Nat):oc2 s≤2 * 3689348814741910323:=by have h1:=Lg (n:=oc1 s >>> 2) (m:=3689348814741910323);have h2:=Lg (n:=oc1 s) (m:=3689348814741910323);unfold oc2;omega
theorem DL7 (n k:Nat):n >>> k≤n / 2 ^ k:=by rw [Nat.shiftRight_eq_div_pow];exact Nat.le_refl _
theorem CH9 (s:Nat):oc3a s≤2 * 3689348814741910323 + 2 * 3689348814741910323 / 16:=by
 have h1:=CI1 s;have h2:=DL7 (oc2 s) 4;unfold oc3a;omega
theorem CI0 (s:Nat):oc3 s≤1085102592571150095:=Lg
theorem CH8 (s:Nat):oc4 s≤2 * 1085102592571150095:=by have h1:=CI0 s;have h2:=Lh (oc3 s) 8;unfold oc4;omega
theorem CH7 (s:Nat):oc5 s≤4 * 1085102592571150095:=by have h1:=CH8 s;have h2:=Lh (oc4 s) 16;unfold oc5;omega
theorem Do8 (s:Nat):oc6 s≤8 * 1085102592571150095:=by have h1:=CH7 s;have h2:=Lh (oc5 s) 32;unfold oc6;omega
def pc (s:Nat):Nat→Nat
 | 0=>0
 | k + 1=>pc s k + s / 2 ^ k % 2
theorem DM9:(List.range 4096).all (fun s=>oc s == pc s 12)=true:=by kernel_rfl
theorem DM8 {s:Nat} (h:s < 4096):oc s=pc s 12:=by
 have:=List.all_eq_true.1 DM9 s (List.mem_range.2 h)
 simpa using this
def movedK (p:Pr) (x:Int):Nat→Nat
 | 0=>0
 | k + 1=>if (stillS p (thingAt p k) (x,x)).2 then movedK p x k else movedK p x k ||| 2 ^ k
def movedS (p:Pr) (x:Int):Nat:=movedK p x p.things.length
theorem Bf4 (p:Pr) (x:Int):∀ k,movedK p x k < 2 ^ k
 | 0=>by simp [movedK]
 | k + 1=>by
   have h:=Bf4 p x k;have h2:2 ^ k < 2 ^ (k + 1):=by rw [Nat.pow_succ];have:=Li k;omega
   unfold movedK
   split
   · omega
   · exact Lj (by omega) h2
theorem Ar8 {p:Pr} (hp:p.Ok) (x:Int):movedS p x < 4096:=by
 have h:=Bf4 p x p.things.length;have h2:2 ^ p.things.length≤2 ^ 12:=Lk (by omega) hp.len;unfold movedS;omega
theorem Cs5 {p:Pr} (hp:p.Ok) (x:Int) {k:Nat} (hk:k≤p.things.length):movedK p x k < 4096:=by
 have h:=Bf4 p x k;have h0:=hp.len;have h2:2 ^ k≤2 ^ 12:=Lk (by omega) (by omega);omega
theorem Bp0 {p:Pr} {x:Int} {k:Nat} {t:Th} (ht:thingAt p k=t) (h:(stillS p t (x,x)).2=true):movedK p x (k + 1)=movedK p x k:=by simp [movedK,ht,h]
theorem BG6 {p:Pr} {x:Int} {k:Nat} {t:Th} (ht:thingAt p k=t) (h:(stillS p t (x,x)).2=false):movedK p x (k + 1)=movedK p x k ||| 2 ^ k:=by simp [movedK,ht,h]
def triedK (p:Pr) (pw:Int×Int):Nat→List Int
 | 0=>[pw.1]
 | k + 1=>if (stillS p (thingAt p k) pw).2 then triedK p pw k++[(stillS p (thingAt p k) pw).1.1] else triedK p pw k
def triedS (p:Pr) (pw:Int×Int):List Int:=triedK p pw p.things.length
theorem Bn1 (p:Pr) (pw:Int×Int):∀ k,(triedK p pw k).length≤k + 1
 | 0=>by simp [triedK]
 | k + 1=>by
   have:=Bn1 p pw k
   unfold triedK
   split <;> (try simp only [List.length_append,List.length_singleton]) <;> omega
theorem Bn0 {p:Pr} {pw:Int×Int} {k:Nat} {t:Th} (ht:thingAt p k=t) (h:(stillS p t pw).2=true):triedK p pw (k + 1)=triedK p pw k++[(stillS p t pw).1.1]:=by simp [triedK,ht,h]
theorem BD3 {p:Pr} {pw:Int×Int} {k:Nat} {t:Th} (ht:thingAt p k=t) (h:(stillS p t pw).2=false):triedK p pw (k + 1)=triedK p pw k:=by simp [triedK,ht,h]
def befS (s u:Nat):Bool:=decide (pc s 12 < pc u 12) || (decide (pc s 12=pc u 12) && decide (s < u))
def better (best s:Nat):Nat:=if s ≠ best∧befS best s=false then s else best
theorem Br5 {b s:Nat} (h:(¬((pc s 12:Nat):Int)=((pc b 12:Nat):Int)∨¬(s:Int)=(b:Int))∧befS b s=false):better b s=s:=by
 have h1:s ≠ b:=by rintro rfl;simp at h
 unfold better;rw [if_pos ⟨h1,h.2⟩]
theorem BN8 {b s:Nat} (h:(((pc s 12:Nat):Int)=((pc b 12:Nat):Int)∧(s:Int)=(b:Int))∨befS b s=true):better b s=b:=by
 unfold better
 split
 · rename_i h2
   rcases h with h | h
   · omega
   · rw [h2.2] at h;cases h
 · rfl
def bestL (p:Pr) (s0:Nat) (l:List Int):Nat:=l.foldl (fun best x=>better best (movedS p x)) s0
theorem Br6 (p:Pr) (s0:Nat) (l:List Int) (x:Int):bestL p s0 (l++[x])=better (bestL p s0 l) (movedS p x):=by simp [bestL,List.foldl_append]
theorem BA3 {p:Pr} (hp:p.Ok) {s0:Nat} (h:s0 < 4096) (l:List Int):bestL p s0 l < 4096:=by
 induction l generalizing s0 with
 | nil=>exact h
 | cons x l ih =>
   show bestL p (better s0 (movedS p x)) l < 4096
   refine ih ?_;unfold better
   split
   · exact Ar8 hp x
   · exact h
def nbK (p:Pr) (s:Nat) (w:Int×Int):Nat→Int×Int
 | 0=>w
 | k + 1=>if s >>> k &&& 1=0 then (stillS p (thingAt p k) (nbK p s w k)).1 else nbK p s w k
theorem Dp0 {p:Pr} {s:Nat} {w:Int×Int} {k:Nat} {t:Th} (ht:thingAt p k=t) (h:((s >>> k &&& 1:Nat):Int)=0):nbK p s w (k + 1)=(stillS p t (nbK p s w k)).1:=by
 have h2:s >>> k &&& 1=0:=by exact_mod_cast h
 simp only [nbK,h2,if_true,ht]
theorem CI6 {p:Pr} {s:Nat} {w:Int×Int} {k:Nat} (h:¬ ((s >>> k &&& 1:Nat):Int)=0):nbK p s w (k + 1)=nbK p s w k:=by
 have h2:¬ s >>> k &&& 1=0:=fun e=>h (by exact_mod_cast e)
 rw [nbK,if_neg h2]
def bestS (p:Pr) (w:Int×Int):Nat:=bestL p (movedS p w.1) (triedS p w)
def fewestX (p:Pr):Int×(Int×Int)×Int :=
 match truthsX p [] with
 | .error k=>(0,(0,0),k)
 | .ok w=>(bestS p w,nbK p (bestS p w) w p.things.length,0)
end Go.Pw1
namespace Go.Hp
open Go Go.Eng Go.Pw1
abbrev Str:=List UInt8
structure Bx where
 colour:Int
 titles:List Str
structure Tn where
 colour:Int
 number:Str
 text:Str
structure Mx where
 boxes:List Bx
 cards:List Tn
structure En where
 colour:Int
 number:Str
 title:Str
 deriving DecidableEq
def letterX (c:UInt8):Bool:=decide ((97:Int)≤(c.toNat:Int)) && decide ((c.toNat:Int)≤122)
def digitX (c:UInt8):Bool:=decide ((48:Int)≤(c.toNat:Int)) && decide ((c.toNat:Int)≤57)
def starX (c:UInt8):Bool:=decide ((c.toNat:Int)=42)
def goodX (c:UInt8):Bool:=letterX c || digitX c || decide ((c.toNat:Int)=63) || decide ((c.toNat:Int)=42)
def pieceX (s:Str):Bool:=decide (s.length≤12) && decide (s.countP goodX=s.length) && decide (s.countP starX≤1)
def badTitle (s:Str):Bool:=!within s.length 1 12 || decide (s.countP letterX < s.length)
def badBox (b:Bx):Bool:=!within b.colour 1 9 || b.titles.any badTitle
def badCard (t:Tn):Bool:=!within t.colour 0 9 || !pieceX t.number || !pieceX t.text
def manyX (l:List Bx):Nat:=(l.map fun b=>b.titles.length).sum
def mixedX (m:Mx):Bool:=decide (m.boxes.length≤4) && decide (m.cards.length≤8) && !m.boxes.any badBox && decide (manyX m.boxes≤12) && !m.cards.any badCard
def suitsW:Str→Str→Bool
 | [],[]=>true
 | a::w,c::s=>(decide (a.toNat=63) || decide (a=c)) && suitsW w s
 | _,_=>false
theorem Bn3:∀ {w s:Str},w.length ≠ s.length→suitsW w s=false
 | [],[],h=>absurd rfl h
 | [],_::_,_=>rfl
 | _::_,[],_=>rfl
 | a::w,c::s,h=>by
   unfold suitsW;rw [Bn3 (fun e=>h (by simp [e])),Bool.and_false]
theorem AT2:∀ {w s:Str},suitsW w s=true ↔ w.length=s.length∧∀ k (h:k < w.length) (h2:k < s.length),w[k].toNat=63∨w[k]=s[k]
 | [],[]=>by simp [suitsW]
 | [],_::_=>by simp [suitsW]
 | _::_,[]=>by simp [suitsW]
 | a::w,c::s=>by
   unfold suitsW;rw [Bool.and_eq_true,Bool.or_eq_true,decide_eq_true_eq,decide_eq_true_eq,AT2]
   constructor
   · rintro ⟨h1,h2,h3⟩
     refine ⟨by simp [h2],fun k h h'=>?_⟩
     cases k with
     | zero=>exact h1
     | succ k=>exact h3 k (by simpa using h) (by simpa using h')
   · rintro ⟨h1,h2⟩
     refine ⟨h2 0 (by simp) (by simp),by simpa using h1,fun k h h'=>?_⟩
     have:=h2 (k + 1) (by simpa using h) (by simpa using h')
     simpa using this
def starAt:Str→Option Nat
 | []=>none
 | c::s=>if c.toNat=42 then some 0 else (starAt s).map (· + 1)
def suitsE (h t s:Str):Bool:=decide (h.length + t.length≤s.length) && suitsW h (s.take h.length) && suitsW t (s.drop (s.length - t.length))
def suitsX (p s:Str):Bool:=match starAt p with
 | some i=>suitsE (p.take i) (p.drop (i + 1)) s
 | none=>suitsW p s
def digit (n:Nat):UInt8:=UInt8.ofNat (48 + n)
def itoa (n:Nat):Str:=if n < 10 then [digit n] else [digit (n / 10),digit (n % 10)]
def boxEn (c:Int) (i:Nat):List Str→List En
 | []=>[]
 | t::l=>⟨c,itoa (i + 1),t⟩::boxEn c (i + 1) l
def entriesX (l:List Bx):List En:=l.flatMap fun b=>boxEn b.colour 0 b.titles
theorem Br1 (c:Int):∀ (l:List Str) (i:Nat) (t:Str),boxEn c i (l++[t])=boxEn c i l++[⟨c,itoa (i + l.length + 1),t⟩]
 | [],i,t=>by simp [boxEn]
 | u::l,i,t=>by
   simp only [List.cons_append,boxEn,Br1 c l (i + 1) t,List.length_cons];rw [show i + 1 + l.length + 1=i + (l.length + 1) + 1 by omega]
theorem Bj3 (c:Int):∀ (l:List Str) (i:Nat),(boxEn c i l).length=l.length
 | [],_=>rfl
 | _::l,i=>by simp [boxEn,Bj3 c l]
theorem Aq5:∀ l:List Bx,(entriesX l).length=manyX l
 | []=>rfl
 | b::l=>by
   have:=Aq5 l
   simp only [entriesX,List.flatMap_cons,List.length_append,Bj3,manyX,List.map_cons,List.sum_cons] at this ⊢;omega
theorem BL8 (l:List Bx) (b:Bx):entriesX (l++[b])=entriesX l++boxEn b.colour 0 b.titles:=by simp [entriesX]
def fitX (t:Tn) (x:En):Bool:=(decide (t.colour=0) || decide (t.colour=x.colour)) && suitsX t.number x.number && suitsX t.text x.title
def fitsL (t:Tn):Nat→List En→Nat
 | _,[]=>0
 | i,x::l=>(if fitX t x then 2 ^ i else 0) ||| fitsL t (i + 1) l
def fitsX (m:Mx) (t:Tn):Nat:=fitsL t 0 (entriesX m.boxes)
theorem Bq0 (t:Tn):∀ (l:List En) (i:Nat) (x:En),fitsL t i (l++[x])=fitsL t i l ||| (if fitX t x then 2 ^ (i + l.length) else 0)
 | [],i,x=>by simp [fitsL]
 | y::l,i,x=>by
   simp only [List.cons_append,fitsL,Bq0 t l (i + 1) x,List.length_cons];rw [show i + 1 + l.length=i + (l.length + 1) by omega,Nat.or_assoc]
theorem Cj0 (t:Tn) (l:List En):∀ i,fitsL t i l < 2 ^ (i + l.length):=by
 induction l with
 | nil=>intro i;exact Li _
 | cons x l ih =>
   intro i;unfold fitsL;have h1:=ih (i + 1);rw [show i + 1 + l.length=i + (x::l).length by simp;omega] at h1;refine Lj ?_ h1
   split
   · exact Ll (by decide) (by simp)
   · exact Li _
def fsX (m:Mx):List Nat:=m.cards.map (fitsX m)
def neX (m:Mx):Nat:=(entriesX m.boxes).length
def cntX (m:Mx):Nat:=cntL (neX m) (fsX m) 0
def CountX (m:Mx):Int×Int:=if mixedX m then ((cntX m:Int),0) else (0,1)
def waysE (m:Mx):Int:=if mixedX m then (if cntX m=0 then 4 else 0) else 1
def FirstX (m:Mx):List Int×Int:=if waysE m=0 then ((firstL (neX m) (fsX m) 0).map fun (x:Nat)=>(x:Int),0) else ([],waysE m)
def lastP (p:Nat→Bool):Nat→Int
 | 0=>-1
 | n + 1=>if p n then (n:Int) else lastP p n
def sureP (m:Mx) (c e:Nat):Bool:=decide (shareL (neX m) (fsX m) c e=cntX m)
def sureC (m:Mx) (c:Nat):Int:=lastP (sureP m c) (neX m)
def SureX (m:Mx):List Int×Int:=if waysE m=0 then ((List.range m.cards.length).map (sureC m),0) else ([],waysE m)
def unionL (s:Nat):Nat→List Nat→Nat
 | _,[]=>0
 | i,f::l=>(if s.testBit i then f else 0) ||| unionL s (i + 1) l
def shortX (fs:List Nat) (s:Nat):Bool:=decide (pc (unionL s 0 fs) 12 < pc s 12)
def setsL (n:Nat):List Nat:=((List.range n).map (· + 1)).flatMap fun k=>((List.range (2 ^ n)).filter fun s=>decide (0 < s) && decide (pc s 12=k))
def whyL (fs:List Nat):Option Nat:=(setsL fs.length).find? (shortX fs)
def WhyX (m:Mx):Int×Int:=if mixedX m then (match whyL (fsX m) with | some s=>((s:Int),11) | none=>(0,0)) else (0,1)
end Go.Hp
namespace Go.Dk
open Go Go.Eng Go.Pw1 Go.Hp
structure Vw where
 p:Pr
 cuts:Tr
 up:Bool
structure Bn where
 views:List Vw
 heap:Mx
def wView:Str:=[118,105,101,119]
def wThing:Str:=[116,104,105,110,103]
def wMark:Str:=[109,97,114,107]
def wFar:Str:=[102,97,114]
def wMoved:Str:=[109,111,118,101,100]
def wHurts:Str:=[104,117,114,116,115]
def wTrim:Str:=[116,114,105,109]
def wDeep:Str:=[100,101,101,112]
def wOff:Str:=[111,102,102]
def wBox:Str:=[98,111,120]
def wCard:Str:=[99,97,114,100]
def wWays:Str:=[119,97,121,115]
def wWhich:Str:=[119,104,105,99,104]
def wIs:Str:=[105,115]
def wNone:Str:=[110,111,110,101]
def wDoubt:Str:=[100,111,117,98,116]
def wError:Str:=[101,114,114,111,114]
def wordB (c:UInt8):Bool:=(decide (97≤c.toNat) && decide (c.toNat≤122)) || (decide (48≤c.toNat) && decide (c.toNat≤57)) || decide (c.toNat=63) || decide (c.toNat=42)
def wordX (s:Str):Bool:=!s.isEmpty && s.all wordB
def blanks:Str→Str→List Str
 | [],cur=>[cur]
 | c::s,cur=>if c=32 then cur::blanks s [] else blanks s (cur++[c])
def wordsX (s:Str):Option (List Str):=if (blanks s []).all wordX then some (blanks s []) else none
def numX (s:Str):Option Int:=match Lib.atoiAll s with
 | .ok n=>if s.length≤13∧0≤n∧Lib.itoa n=s then some n else none
 | _=>none
def numsX:List Str→Option (List Int)
 | []=>some []
 | s::l=>match numX s,numsX l with
   | some n,some r=>some (n::r)
   | _,_=>none
def sayX (w:Str) (l:List Int):Str:=w++(l.map fun n=>32::Lib.itoa n).flatten
def noTr:Tr:=⟨0,0,0,0⟩
def noVw:Vw:=⟨⟨⟨0,0⟩,⟨0,0⟩,0,0,0,[]⟩,noTr,false⟩
def bareC (c:Cd):Cd:={ c with p:={ c.p with things:=[] } }
def cardV (c:Cd) (v:Vw):Cd:={ c with p:=v.p }
abbrev Ans:=Except Int (Bn×Str)
def putV (b:Bn) (i:Nat) (v:Vw):Bn:={ b with views:=b.views.set i v }
def viewD (c:Cd) (b:Bn):Ans:=if b.views.length < 4 then .ok ({ b with views:=b.views++[⟨c.p,noTr,false⟩] },sayX wView [b.views.length]) else .error 9
def thingD (b:Bn) (i:Nat) (x1 x2 y1 y2:Int):Ans :=
 let v:=b.views.getD i noVw
 if v.up then .error 6 else
 if ¬ v.p.things.length < 12 then .error 9 else
 let p:Pr:={ v.p with things:=v.p.things++[⟨⟨x1,x2⟩,⟨0,0⟩,⟨y1,y2⟩,⟨0,0⟩,0⟩] }
 if (whyX p v.p.things.length).2=0 then .ok (putV b i { v with p:=p },sayX wThing [v.p.things.length,(whyX p v.p.things.length).1]) else .error (whyX p v.p.things.length).2
def markD (b:Bn) (i k:Nat) (far:Int):Ans :=
 let v:=b.views.getD i noVw
 if ¬ k < v.p.things.length then .error 2 else
 if v.up then .error 6 else
 let p:Pr:={ v.p with things:=v.p.things.modify k fun t=>{ t with far:=far } }
 if (powerX p).2=0 then .ok (putV b i { v with p:=p },sayX wMark [(powerX p).1.1,(powerX p).1.2]) else .error (powerX p).2
def farD (b:Bn) (i k:Nat):Ans :=
 let v:=b.views.getD i noVw
 if ¬ k < v.p.things.length then .error 2 else
 if (distX v.p k).2=0 then .ok (b,sayX wFar [(distX v.p k).1.1,(distX v.p k).1.2]) else .error (distX v.p k).2
def movedD (b:Bn) (i:Nat):Ans :=
 let v:=b.views.getD i noVw
 if (fewestX v.p).2.2=0 then .ok (b,sayX wMoved [(fewestX v.p).1]) else .error (fewestX v.p).2.2
def hurtsD (c:Cd) (b:Bn) (i:Nat) (t:Tr):Ans :=
 let h:=hurtsX (cardV c (b.views.getD i noVw)) t
 if h.2.2=11 then .ok (b,sayX wHurts [h.1,h.2.1]) else if h.2.2=0 then .ok (b,wHurts++32::wNone) else .error h.2.2
def trimD (c:Cd) (b:Bn) (i:Nat):Ans :=
 let v:=b.views.getD i noVw
 if v.up then .error 6 else
 let t:=trimX (cardV c v)
 if t.2=0 then .ok (putV b i ⟨v.p,t.1,true⟩,sayX wTrim [t.1.ll,t.1.lr,t.1.rl,t.1.rr]) else .error t.2
def deepD (c:Cd) (b:Bn) (i:Nat):Ans :=
 let v:=b.views.getD i noVw
 if ¬ v.up then .error 6 else
 let s:=depthsX (cardV c v) v.cuts
 if s.2=0 then .ok (b,sayX wDeep [s.1.1,s.1.2]) else .error s.2
def offD (b:Bn) (i:Nat):Ans :=
 let v:=b.views.getD i noVw
 if ¬ v.up then .error 6 else .ok (putV b i ⟨v.p,noTr,false⟩,sayX wOff [i])
def boxD (b:Bn) (w:List Str):Ans :=
 if ¬ 1 < w.length then .error 8 else
 match numX (w.getD 0 []) with
 | none=>.error 8
 | some n =>
   if ¬ b.heap.boxes.length < 4 then .error 9 else
   let m:Mx:={ b.heap with boxes:=b.heap.boxes++[⟨n,w.drop 1⟩] }
   if (WhyX m).2=0 then .ok ({ b with heap:=m },sayX wBox [b.heap.boxes.length]) else .error (WhyX m).2
def newsX (old now:List Int):List (Nat×Int):=(List.range now.length).filterMap fun i=>if now.getD i 0 = -1∨(old++[-1]).getD i 0 ≠ -1 then none else some (i,now.getD i 0)
def cardD (b:Bn) (w:List Str):Ans :=
 if w.length ≠ 3 then .error 8 else
 match numX (w.getD 0 []) with
 | none=>.error 8
 | some n =>
   if ¬ b.heap.cards.length < 8 then .error 9 else
   if (SureX b.heap).2 ≠ 0 then .error (SureX b.heap).2 else
   let m:Mx:={ b.heap with cards:=b.heap.cards++[⟨n,w.getD 1 [],w.getD 2 []⟩] }
   if (WhyX m).2 ≠ 0 then .error (WhyX m).2 else
   if (SureX m).2 ≠ 0 then .error (SureX m).2 else
   .ok ({ b with heap:=m },sayX wCard [b.heap.cards.length]++((newsX (SureX b.heap).1 (SureX m).1).map fun x=>32::sayX wIs [x.1,x.2]).flatten)
def waysD (b:Bn):Ans:=if (CountX b.heap).2=0 then .ok (b,sayX wWays [(CountX b.heap).1]) else .error (CountX b.heap).2
def whichD (b:Bn) (k:Nat):Ans :=
 if ¬ k < b.heap.cards.length then .error 2 else
 if (SureX b.heap).2 ≠ 0 then .error (SureX b.heap).2 else
 let e:=(SureX b.heap).1.getD k 0
 .ok (b,if e = -1 then wWhich++32::wDoubt else sayX wWhich [e])
structure Vb where
 many:Nat
 about:Bool
 does:Cd→Bn→List Int→Ans
def N (l:List Int) (k:Nat):Nat:=(l.getD k 0).toNat
def verbsX:List (Str×Vb):=[(wView,⟨0,false,fun c b _=>viewD c b⟩),(wThing,⟨5,true,fun _ b n=>thingD b (N n 0) (n.getD 1 0) (n.getD 2 0) (n.getD 3 0) (n.getD 4 0)⟩),(wMark,⟨3,true,fun _ b n=>markD b (N n 0) (N n 1) (n.getD 2 0)⟩),
 (wFar,⟨2,true,fun _ b n=>farD b (N n 0) (N n 1)⟩),(wMoved,⟨1,true,fun _ b n=>movedD b (N n 0)⟩),(wHurts,⟨5,true,fun c b n=>hurtsD c b (N n 0) ⟨n.getD 1 0,n.getD 2 0,n.getD 3 0,n.getD 4 0⟩⟩),(wTrim,⟨1,true,fun c b n=>trimD c b (N n 0)⟩),
 (wDeep,⟨1,true,fun c b n=>deepD c b (N n 0)⟩),(wOff,⟨1,true,fun _ b n=>offD b (N n 0)⟩),(wWays,⟨0,false,fun _ b _=>waysD b⟩),(wWhich,⟨1,false,fun _ b n=>whichD b (N n 0)⟩)]
def verbX (s:Str):Option Vb:=(verbsX.find? fun x=>decide (x.1=s)).map (·.2)
def lineX (c:Cd) (b:Bn) (s:Str):Ans :=
 if 200 < s.length then .error 3 else
 match wordsX s with
 | none=>.error 8
 | some w =>
   if w.getD 0 []=wBox then boxD b (w.drop 1) else
   if w.getD 0 []=wCard then cardD b (w.drop 1) else
   match verbX (w.getD 0 []) with
   | none=>.error 8
   | some v =>
     match numsX (w.drop 1) with
     | none=>.error 8
     | some n=>if n.length ≠ v.many then .error 8 else if v.about=true∧¬ N n 0 < b.views.length then .error 2 else v.does c b n
def noBn:Bn:=⟨[],⟨[],[]⟩⟩
def stepX (c:Cd) (b:Bn) (s:Str):Bn×Str×Int:=match lineX c b s with
 | .ok (b',r)=>(b',r,0)
 | .error k=>(b,[],k)
def echoX (r:Str) (e:Int):Str:=if e=0 then r else sayX wError [e]
def linesX:Str→Str→List Str
 | [],_=>[]
 | c::s,cur=>if c=10 then cur::linesX s [] else linesX s (cur++[c])
end Go.Dk
namespace Go.Q
open Go Go.Eng
theorem BO3:apB π 66=some (3,1,8):=by kernel_rfl
theorem AS4:arr1B π 400=some 5:=by kernel_rfl
theorem Ah4:arrB π 268=some (2,1):=by kernel_rfl
theorem Ah3:arrB π 296=some (4,1):=by kernel_rfl
theorem Bz0:Enters π 110:=eZ func110
theorem AH9:Enters π 127:=eZ func127
theorem CT2:Enters π 131:=eZ func131
theorem Ak9:Enters π 156:=eZ func156
theorem By7:Enters π 157:=eZ func157
theorem By6:Enters π 158:=eZ func158
theorem CS0:Enters π 180:=eZ func180
theorem By5:Enters π 181:=eZ func181
theorem CR9:Enters π 182:=eZ func182
theorem Bi4:Enters π 183:=eZ func183
theorem BZ0:Enters π 184:=eZ func184
theorem DE0:Enters π 185:=eZ func185
theorem AB1:Enters π 188:=eZ func188
theorem DD8:Enters π 189:=eZ func189
theorem DD7:Enters π 190:=eZ func190
theorem DD6:Enters π 191:=eZ func191
theorem DD5:Enters π 192:=eZ func192
theorem DD4:Enters π 193:=eZ func193
theorem DD3:Enters π 194:=eZ func194
theorem Bi3:Enters π 195:=eZ func195
theorem BY9:Enters π 196:=eZ func196
theorem Au4:Enters π 197:=eZ func197
theorem By4:Enters π 198:=eZ func198
theorem BY8:Enters π 199:=eZ func199
theorem DD2:Enters π 200:=eZ func200
theorem DD1:Enters π 201:=eZ func201
theorem BY7:Enters π 202:=eZ func202
theorem DD0:Enters π 203:=eZ func203
theorem DC9:Enters π 204:=eZ func204
theorem CR8:Enters π 205:=eZ func205
theorem CR7:Enters π 206:=eZ func206
theorem DC8:Enters π 207:=eZ func207
theorem DC7:Enters π 208:=eZ func208
theorem DC6:Enters π 209:=eZ func209
theorem DC5:Enters π 210:=eZ func210
theorem DC4:Enters π 211:=eZ func211
theorem CR6:Enters π 212:=eZ func212
theorem CR5:Enters π 213:=eZ func213
theorem BY6:Enters π 229:=eZ func229
theorem CR1:Enters π 230:=eZ func230
theorem DB2:Enters π 242:=eZ func242
theorem DB1:Enters π 243:=eZ func243
theorem By3:Enters π 244:=eZ func244
theorem BY5:Enters π 248:=eZ func248
theorem CQ9:Enters π 249:=eZ func249
theorem CQ8:Enters π 250:=eZ func250
theorem DB0:Enters π 251:=eZ func251
theorem DA9:Enters π 252:=eZ func252
theorem DA8:Enters π 253:=eZ func253
theorem DA7:Enters π 254:=eZ func254
theorem DA6:Enters π 255:=eZ func255
theorem DA5:Enters π 256:=eZ func256
theorem DA4:Enters π 257:=eZ func257
theorem AU8:Enters π 258:=eZ func258
theorem Bi1:Enters π 26:=eZ func26
theorem DA1:Enters π 266:=eZ func266
theorem DS3:Enters π 27:=eZ func27
theorem CQ5:Enters π 271:=eZ func271
theorem DA0:Enters π 272:=eZ func272
theorem Dz9:Enters π 273:=eZ func273
theorem Dz8:Enters π 274:=eZ func274
theorem BY4:Enters π 275:=eZ func275
theorem BY3:Enters π 276:=eZ func276
theorem CQ3:Enters π 278:=eZ func278
theorem By2:Enters π 279:=eZ func279
theorem Dz7:Enters π 280:=eZ func280
theorem Dz6:Enters π 281:=eZ func281
theorem Dz5:Enters π 284:=eZ func284
theorem Dz4:Enters π 285:=eZ func285
theorem CQ2:Enters π 286:=eZ func286
theorem Dy9:Enters π 316:=eZ func316
theorem Dy8:Enters π 317:=eZ func317
theorem Dy7:Enters π 318:=eZ func318
theorem Dy6:Enters π 319:=eZ func319
theorem Dy5:Enters π 320:=eZ func320
theorem Dy4:Enters π 321:=eZ func321
theorem Dy3:Enters π 322:=eZ func322
theorem Dp5:Enters π 72:=eZ func72
theorem Cj4:Enters π 73:=eZ func73
theorem Cj3:Enters π 74:=eZ func74
theorem Dy0:aggB π 374=true:=by kernel_rfl
theorem BX9:field1B π 23 0=some 0:=by kernel_rfl
theorem BX8:field1B π 23 1=some 1:=by kernel_rfl
theorem CO5:fieldB π 143 0=some 0:=by kernel_rfl
instance:Fld π 143 0 0:=⟨CO5⟩
theorem CO4:fieldB π 143 1=some 2:=by kernel_rfl
instance:Fld π 143 1 2:=⟨CO4⟩
theorem CO3:fieldB π 145 0=some 0:=by kernel_rfl
instance:Fld π 145 0 0:=⟨CO3⟩
theorem CO2:fieldB π 145 1=some 4:=by kernel_rfl
instance:Fld π 145 1 4:=⟨CO2⟩
theorem CO1:fieldB π 145 2=some 8:=by kernel_rfl
instance:Fld π 145 2 8:=⟨CO1⟩
theorem AC5:fieldB π 234 0=some 0:=by kernel_rfl
instance:Fld π 234 0 0:=⟨AC5⟩
theorem CN3:fieldB π 234 1=some 17:=by kernel_rfl
instance:Fld π 234 1 17:=⟨CN3⟩
theorem Az9:fieldB π 23 0=some 0:=by kernel_rfl
instance:Fld π 23 0 0:=⟨Az9⟩
theorem Al7:fieldB π 23 1=some 1:=by kernel_rfl
instance:Fld π 23 1 1:=⟨Al7⟩
theorem Bx6:fieldB π 26 0=some 0:=by kernel_rfl
instance:Fld π 26 0 0:=⟨Bx6⟩
theorem Bx5:fieldB π 26 1=some 2:=by kernel_rfl
instance:Fld π 26 1 2:=⟨Bx5⟩
theorem Dk1:fieldB π 26 2=some 4:=by kernel_rfl
instance:Fld π 26 2 4:=⟨Dk1⟩
theorem Ci9:fieldB π 26 3=some 5:=by kernel_rfl
instance:Fld π 26 3 5:=⟨Ci9⟩
theorem Ci8:fieldB π 26 4=some 6:=by kernel_rfl
instance:Fld π 26 4 6:=⟨Ci8⟩
theorem AK9:fieldB π 26 5=some 7:=by kernel_rfl
instance:Fld π 26 5 7:=⟨AK9⟩
theorem As9:fieldB π 270 0=some 0:=by kernel_rfl
instance:Fld π 270 0 0:=⟨As9⟩
theorem BK5:fieldB π 270 1=some 8:=by kernel_rfl
instance:Fld π 270 1 8:=⟨BK5⟩
theorem Dk0:fieldB π 28 0=some 0:=by kernel_rfl
instance:Fld π 28 0 0:=⟨Dk0⟩
theorem Dj9:fieldB π 28 1=some 8:=by kernel_rfl
instance:Fld π 28 1 8:=⟨Dj9⟩
theorem Dj8:fieldB π 28 2=some 9:=by kernel_rfl
instance:Fld π 28 2 9:=⟨Dj8⟩
theorem AK8:fieldB π 28 3=some 10:=by kernel_rfl
instance:Fld π 28 3 10:=⟨AK8⟩
theorem Az8:fieldB π 28 4=some 11:=by kernel_rfl
instance:Fld π 28 4 11:=⟨Az8⟩
theorem Dj7:fieldB π 28 5=some 13:=by kernel_rfl
instance:Fld π 28 5 13:=⟨Dj7⟩
theorem Dj6:fieldB π 28 6=some 14:=by kernel_rfl
instance:Fld π 28 6 14:=⟨Dj6⟩
theorem Dj5:fieldB π 28 7=some 15:=by kernel_rfl
instance:Fld π 28 7 15:=⟨Dj5⟩
theorem Dj4:fieldB π 28 8=some 16:=by kernel_rfl
instance:Fld π 28 8 16:=⟨Dj4⟩
theorem CN0:fieldB π 300 0=some 0:=by kernel_rfl
instance:Fld π 300 0 0:=⟨CN0⟩
theorem Bh4:fieldB π 300 1=some 1:=by kernel_rfl
instance:Fld π 300 1 1:=⟨Bh4⟩
theorem CM9:fieldB π 315 0=some 0:=by kernel_rfl
instance:Fld π 315 0 0:=⟨CM9⟩
theorem Bh3:fieldB π 315 1=some 1:=by kernel_rfl
instance:Fld π 315 1 1:=⟨Bh3⟩
theorem CM8:fieldB π 324 0=some 0:=by kernel_rfl
instance:Fld π 324 0 0:=⟨CM8⟩
theorem CM7:fieldB π 324 1=some 1:=by kernel_rfl
instance:Fld π 324 1 1:=⟨CM7⟩
theorem CM6:fieldB π 349 0=some 0:=by kernel_rfl
instance:Fld π 349 0 0:=⟨CM6⟩
theorem CM1:fieldB π 374 0=some 0:=by kernel_rfl
instance:Fld π 374 0 0:=⟨CM1⟩
theorem CM0:fieldB π 374 1=some 1:=by kernel_rfl
instance:Fld π 374 1 1:=⟨CM0⟩
theorem CL9:fieldB π 389 0=some 0:=by kernel_rfl
instance:Fld π 389 0 0:=⟨CL9⟩
theorem CL8:fieldB π 391 0=some 0:=by kernel_rfl
instance:Fld π 391 0 0:=⟨CL8⟩
theorem CL7:fieldB π 391 1=some 1:=by kernel_rfl
instance:Fld π 391 1 1:=⟨CL7⟩
theorem Dj1:fieldB π 44 0=some 0:=by kernel_rfl
instance:Fld π 44 0 0:=⟨Dj1⟩
theorem Dj0:fieldB π 44 1=some 1:=by kernel_rfl
instance:Fld π 44 1 1:=⟨Dj0⟩
theorem Di9:fieldB π 44 2=some 2:=by kernel_rfl
instance:Fld π 44 2 2:=⟨Di9⟩
theorem Di8:fieldB π 44 3=some 3:=by kernel_rfl
instance:Fld π 44 3 3:=⟨Di8⟩
theorem Ah8:π.follows .mixedOrders=true:=by kernel_rfl
theorem DN7 (a0:Int) (a1:Int) (a2:Int) (a3:Int) (a4:Int) (c0:Int) (c1:Int) (c2:Int) (c3:Int) (c4:Int):eqF π 8 374 [.I a0,.I a1,.I a2,.I a3,.I a4] [.I c0,.I c1,.I c2,.I c3,.I c4]=some (decide (a0=c0) && ((decide (a1=c1) && (decide (a2=c2) && (decide (a3=c3) && (decide (a4=c4) && true)))) && true)):=by kernel_rfl
theorem Az3:mapB π 232=some 300:=by kernel_rfl
theorem As5 (v:Value) (w:World):(method (π.types.size + Made.depth) 389 v "pairworks/pair.powers").run π w = .ok (316,v) w:=by kernel_rfl
theorem As4 (v:Value) (w:World):(method (π.types.size + Made.depth) 391 v "pairworks/pair.powers").run π w = .ok (317,v) w:=by kernel_rfl
theorem As3 (v:Value) (w:World):(method (π.types.size + Made.depth) 393 v "pairworks/mount.hurts").run π w = .ok (318,v) w:=by kernel_rfl
theorem As2 (v:Value) (w:World):(method (π.types.size + Made.depth) 394 v "pairworks/mount.hurts").run π w = .ok (319,v) w:=by kernel_rfl
theorem As1 (v:Value) (w:World):(method (π.types.size + Made.depth) 395 v "pairworks/mount.hurts").run π w = .ok (320,v) w:=by kernel_rfl
theorem As0 (v:Value) (w:World):(method (π.types.size + Made.depth) 396 v "pairworks/mount.hurts").run π w = .ok (321,v) w:=by kernel_rfl
theorem Ar9 (v:Value) (w:World):(method (π.types.size + Made.depth) 397 v "pairworks/mount.hurts").run π w = .ok (322,v) w:=by kernel_rfl
theorem Au0 (v:Value) (w:World):(nilAhead (π.types.size + Made.depth) 393 v "pairworks/mount.hurts").run π w = .ok (some false) w:=by kernel_rfl
theorem At9 (v:Value) (w:World):(nilAhead (π.types.size + Made.depth) 394 v "pairworks/mount.hurts").run π w = .ok (some false) w:=by kernel_rfl
theorem At8 (v:Value) (w:World):(nilAhead (π.types.size + Made.depth) 395 v "pairworks/mount.hurts").run π w = .ok (some false) w:=by kernel_rfl
theorem At7 (v:Value) (w:World):(nilAhead (π.types.size + Made.depth) 396 v "pairworks/mount.hurts").run π w = .ok (some false) w:=by kernel_rfl
theorem At6 (v:Value) (w:World):(nilAhead (π.types.size + Made.depth) 397 v "pairworks/mount.hurts").run π w = .ok (some false) w:=by kernel_rfl
theorem Bv8:(π.underlying 349).any (fun t=>match t with | .interface _=>false | _=>true)=true:=by kernel_rfl
theorem Dg0:(π.underlying 389).any (fun t=>match t with | .interface _=>false | _=>true)=true:=by kernel_rfl
theorem Df9:(π.underlying 391).any (fun t=>match t with | .interface _=>false | _=>true)=true:=by kernel_rfl
theorem Df8:(π.underlying 393).any (fun t=>match t with | .interface _=>false | _=>true)=true:=by kernel_rfl
theorem Df7:(π.underlying 394).any (fun t=>match t with | .interface _=>false | _=>true)=true:=by kernel_rfl
theorem Df6:(π.underlying 395).any (fun t=>match t with | .interface _=>false | _=>true)=true:=by kernel_rfl
theorem Df5:(π.underlying 396).any (fun t=>match t with | .interface _=>false | _=>true)=true:=by kernel_rfl
theorem Df4:(π.underlying 397).any (fun t=>match t with | .interface _=>false | _=>true)=true:=by kernel_rfl
theorem Cg8:pairB π 315=true:=by kernel_rfl
theorem Ak3:placesB π 23=some [(0,1),(1,1)]:=by kernel_rfl
theorem Cq9:placesB π 234=some [(0,17),(17,1)]:=by kernel_rfl
theorem Ah9:placesB π 268=some [(0,1),(1,1)]:=by kernel_rfl
theorem Cq8:placesB π 270=some [(0,8),(8,2)]:=by kernel_rfl
theorem Bo3:placesB π 296=some [(0,1),(1,1),(2,1),(3,1)]:=by kernel_rfl
theorem An9:placesB π 300=some [(0,1),(1,1)]:=by kernel_rfl
theorem Cq7:placesB π 315=some [(0,1),(1,1)]:=by kernel_rfl
theorem AJ5:placesB π 324=some [(0,1),(1,4)]:=by kernel_rfl
theorem Cq6:placesB π 349=some [(0,1)]:=by kernel_rfl
theorem Cq4:placesB π 374=some [(0,1),(1,4)]:=by kernel_rfl
theorem Cq3:placesB π 389=some [(0,1)]:=by kernel_rfl
theorem Cq2:placesB π 391=some [(0,1),(1,1)]:=by kernel_rfl
theorem Cq1:placesB π 393=some []:=by kernel_rfl
theorem Cq0:placesB π 394=some []:=by kernel_rfl
theorem Cp9:placesB π 395=some []:=by kernel_rfl
theorem Cp8:placesB π 396=some []:=by kernel_rfl
theorem Cp7:placesB π 397=some []:=by kernel_rfl
theorem Cp6:placesB π 400=some [(0,1),(1,1),(2,1),(3,1),(4,1)]:=by kernel_rfl
theorem AG8:placesB π 44=some [(0,1),(1,1),(2,1),(3,1)]:=by kernel_rfl
theorem Ax9:slB π 24=some (145,9):=by kernel_rfl
instance:Slc π 24 145 9:=⟨Ax9⟩
theorem Bd9:slB π 292=some (44,4):=by kernel_rfl
instance:Slc π 292 44 4:=⟨Bd9⟩
theorem CD0:slB π 307=some (309,1):=by kernel_rfl
instance:Slc π 307 309 1:=⟨CD0⟩
theorem AG4:slB π 371=some (268,2):=by kernel_rfl
instance:Slc π 371 268 2:=⟨AG4⟩
theorem CC9:slB π 412=some (300,2):=by kernel_rfl
instance:Slc π 412 300 2:=⟨CC9⟩
theorem Cf6:slB π 429=some (23,2):=by kernel_rfl
instance:Slc π 429 23 2:=⟨Cf6⟩
theorem Af6:slB π 66=some (3,1):=by kernel_rfl
instance:Slc π 66 3 1:=⟨Af6⟩
theorem DK8:tyB π 143=some (true,4):=by kernel_rfl
instance:Tyc π 143 true 4:=⟨DK8⟩
theorem Ay5:tyB π 145=some (true,9):=by kernel_rfl
instance:Tyc π 145 true 9:=⟨Ay5⟩
theorem CA7:tyB π 154=some (false,1):=by kernel_rfl
instance:Tyc π 154 false 1:=⟨CA7⟩
theorem AW5:tyB π 229=some (false,1):=by kernel_rfl
instance:Tyc π 229 false 1:=⟨AW5⟩
theorem Ai6:tyB π 23=some (true,2):=by kernel_rfl
instance:Tyc π 23 true 2:=⟨Ai6⟩
theorem Bc8:tyB π 232=some (false,1):=by kernel_rfl
instance:Tyc π 232 false 1:=⟨Bc8⟩
theorem AD3:tyB π 24=some (false,1):=by kernel_rfl
instance:Tyc π 24 false 1:=⟨AD3⟩
theorem Bc7:tyB π 26=some (true,8):=by kernel_rfl
instance:Tyc π 26 true 8:=⟨Bc7⟩
theorem Ah6:tyB π 268=some (true,2):=by kernel_rfl
instance:Tyc π 268 true 2:=⟨Ah6⟩
theorem AW4:tyB π 271=some (false,1):=by kernel_rfl
instance:Tyc π 271 false 1:=⟨AW4⟩
theorem CA3:tyB π 28=some (true,17):=by kernel_rfl
instance:Tyc π 28 true 17:=⟨CA3⟩
theorem AF6:tyB π 296=some (true,4):=by kernel_rfl
instance:Tyc π 296 true 4:=⟨AF6⟩
theorem Ae0:tyB π 3=some (false,1):=by kernel_rfl
instance:Tyc π 3 false 1:=⟨Ae0⟩
theorem Bc6:tyB π 300=some (true,2):=by kernel_rfl
instance:Tyc π 300 true 2:=⟨Bc6⟩
theorem Dn3:tyB π 309=some (false,1):=by kernel_rfl
instance:Tyc π 309 false 1:=⟨Dn3⟩
theorem CA2:tyB π 313=some (false,1):=by kernel_rfl
instance:Tyc π 313 false 1:=⟨CA2⟩
theorem AF5:tyB π 315=some (true,2):=by kernel_rfl
instance:Tyc π 315 true 2:=⟨AF5⟩
theorem CA1:tyB π 318=some (false,1):=by kernel_rfl
instance:Tyc π 318 false 1:=⟨CA1⟩
theorem DK0:tyB π 324=some (true,5):=by kernel_rfl
instance:Tyc π 324 true 5:=⟨DK0⟩
theorem Dn2:tyB π 329=some (false,1):=by kernel_rfl
instance:Tyc π 329 false 1:=⟨Dn2⟩
theorem DJ9:tyB π 349=some (true,1):=by kernel_rfl
instance:Tyc π 349 true 1:=⟨DJ9⟩
theorem BD0:tyB π 374=some (true,5):=by kernel_rfl
instance:Tyc π 374 true 5:=⟨BD0⟩
theorem Cm9:tyB π 4=some (false,1):=by kernel_rfl
instance:Tyc π 4 false 1:=⟨Cm9⟩
theorem DJ6:tyB π 400=some (true,5):=by kernel_rfl
instance:Tyc π 400 true 5:=⟨DJ6⟩
theorem Bl5:tyB π 44=some (true,4):=by kernel_rfl
instance:Tyc π 44 true 4:=⟨Bl5⟩
theorem Af8:tyB π 49=some (false,1):=by kernel_rfl
instance:Tyc π 49 false 1:=⟨Af8⟩
theorem Cz8:π.underlying 121=some (.int .u64):=by kernel_rfl
theorem AL8:π.underlying 20=some (.interface #[]):=by kernel_rfl
theorem Cz6:π.underlying 251=some (.int .u64):=by kernel_rfl
theorem BC9:π.underlying 3=some (.int .i64):=by kernel_rfl
theorem Dt2:π.underlying 313=some (.int .u64):=by kernel_rfl
theorem AB5:zeroV π 300=some (.agg #[.I 0,.I 0]):=by kernel_rfl
theorem Al0:zeroB π 145=some [.I 0,.I 0,.I 0,.I 0,.I 0,.I 0,.I 0,.I 0,.I 0]:=by kernel_rfl
theorem Da0:zeroB π 154=some [.nilFunc]:=by kernel_rfl
theorem Ad6:zeroB π 23=some [.I 0,.I 0]:=by kernel_rfl
theorem CZ4:zeroB π 234=some [.I 0,.I 0,.I 0,.I 0,.I 0,.I 0,.I 0,.slice none 0 0,.I 0,.I 0,.I 0,.I 0,.I 0,.I 0,.I 0,.I 0,.I 0,.map none]:=by kernel_rfl
theorem Ac6:zeroB π 268=some [.I 0,.I 0]:=by kernel_rfl
theorem CZ3:zeroB π 270=some [.I 0,.I 0,.I 0,.I 0,.I 0,.I 0,.I 0,.slice none 0 0,.I 0,.I 0]:=by kernel_rfl
theorem Cd9:zeroB π 271=some [.pointer none]:=by kernel_rfl
theorem Ay0:zeroB π 296=some [.I 0,.I 0,.I 0,.I 0]:=by kernel_rfl
theorem Al2:zeroB π 3=some [.I 0]:=by kernel_rfl
theorem Ai2:zeroB π 300=some [.I 0,.I 0]:=by kernel_rfl
theorem CZ2:zeroB π 309=some [.nilFunc]:=by kernel_rfl
theorem AJ0:zeroB π 315=some [.I 0,.int .u64 0]:=by kernel_rfl
theorem CZ1:zeroB π 318=some [.nilFunc]:=by kernel_rfl
theorem AZ8:zeroB π 324=some [.pointer none,.I 0,.I 0,.I 0,.I 0]:=by kernel_rfl
theorem Bt5:zeroB π 349=some [.I 0]:=by kernel_rfl
theorem Bt4:zeroB π 374=some [.I 0,.I 0,.I 0,.I 0,.I 0]:=by kernel_rfl
theorem CY9:zeroB π 389=some [.I 0]:=by kernel_rfl
theorem CY8:zeroB π 391=some [.I 0,.I 0]:=by kernel_rfl
theorem CY7:zeroB π 393=some []:=by kernel_rfl
theorem CY6:zeroB π 394=some []:=by kernel_rfl
theorem CY5:zeroB π 395=some []:=by kernel_rfl
theorem CY4:zeroB π 396=some []:=by kernel_rfl
theorem CY3:zeroB π 397=some []:=by kernel_rfl
theorem DI5:zeroB π 4=some [.bool false]:=by kernel_rfl
theorem Cd8:zeroB π 400=some [.nilIface,.nilIface,.nilIface,.nilIface,.nilIface]:=by kernel_rfl
theorem An3:zeroB π 44=some [.I 0,.I 0,.I 0,.I 0]:=by kernel_rfl
theorem Am5:zeroB π 49=some [.I 0]:=by kernel_rfl
end Go.Q
namespace Go.Pw1
open Go Go.Eng
theorem CH0 (p:Pr) (n:Int):openX p [n]=if isPair p then (if thingR p n then .ok () else .error 2) else .error 1:=by
 unfold openX thingR
 split
 · cases h:within n 0 ((p.things.length:Int) - 1) <;> simp [h]
 · rfl
theorem BG2 (p:Pr):openX p []=if isPair p then .ok () else .error 1:=by simp [openX]
theorem Co2 (p:Pr) (n:Int):shiftX p n=shiftR p n:=by
 unfold shiftX shiftR;rw [CH0]
 cases isPair p <;> cases thingR p n <;> simp
theorem Cn1 (p:Pr) (l:List Int) (h:openX p l=if isPair p then .ok () else .error 1):truthsX p l=if isPair p then (if isB (allS p) then .ok (allS p) else .error 4) else .error 1:=by
 unfold truthsX;rw [h]
 cases hp:isPair p with
 | false=>simp
 | true=>simp only [if_true];exact Ch7 (An0 hp)
theorem AJ4 (p:Pr):powerX p=powerR p:=by
 unfold powerX powerR openR;rw [Cn1 p [] (BG2 p)]
 cases isPair p <;> cases isB (allS p) <;> simp
theorem BT4 (p:Pr) (far:Int):standsX p far=standsR p far:=by
 unfold standsX standsR openR;rw [BG2]
 cases hp:isPair p with
 | false=>simp
 | true =>
   simp only [if_true];rw [Ch7 (An0 hp)]
   cases within far p.near p.far <;> cases isB (allS p) <;> simp
theorem DH8 {p:Pr} (hp:p.Ok):1≤(allS p).1∧(allS p).2≤500000000:=by
 have hb:=Bo2 hp;have hle:=Bj8 p p.things (powers0 p);rw [show allL p (powers0 p) p.things=allS p from rfl] at hle;omega
theorem Be4 (p:Pr):(powerX p).2=if isPair p then (if isB (allS p) then 0 else 4) else 1:=by
 rw [AJ4];unfold powerR openR
 cases isPair p <;> cases isB (allS p) <;> rfl
def cardR (c:Cd):Bool:=(within c.half 1 4000 && within c.step 1 100 && within c.cuts 0 40 && decide (1≤c.eyes.lo) && decide (c.eyes.lo≤c.eyes.hi) && decide (c.eyes.hi≤10000)) && within c.prism 0 10000 && within c.squeeze 0 10000 && within c.front 0 10000 && within c.deep 0 10000 && isPair c.p
theorem Bb5 (c:Cd):cardR c=cardIs c:=by
 unfold cardR cardIs;rw [Be4];simp only [sizesM,eyesM,badM,List.any_cons,List.any_nil,Bool.or_false,Bool.not_or,Bool.not_not]
 cases isPair c.p
 · simp
 · cases isB (allS c.p) <;> simp [Bool.and_assoc]
def trR (c:Cd) (t:Tr):Bool:=within t.ll 0 c.cuts && within t.lr 0 c.cuts && within t.rl 0 c.cuts && within t.rr 0 c.cuts && decide (t.ll + t.lr=t.rl + t.rr)
theorem DK9 (c:Cd) (t:Tr):trR c t=trIs c t:=by simp [trR,trIs,badT,Bool.and_assoc]
def checkR (c:Cd) (v:Bool):Int:=if cardR c then (if v then (powerR c.p).2 else 2) else 1
theorem CV5 (c:Cd):openM c []=checkR c true:=by simp [openM,checkR,Bb5,AJ4]
theorem BM9 (c:Cd) (t:Tr):openM c [t]=checkR c (trR c t):=by simp [openM,checkR,Bb5,DK9,AJ4]
theorem AU9 {c:Cd} {v:Bool} (h:checkR c v=0):isPair c.p=true∧isB (allS c.p)=true∧c.Ok∧v=true:=by
 unfold checkR at h
 split at h
 · rename_i hc
   rw [Bb5] at hc
   split at h
   · rename_i hv
     have h2:(powerX c.p).2=0:=by rw [AJ4];exact h
     rw [Be4] at h2
     cases h3:isPair c.p with
     | false=>simp [h3] at h2
     | true =>
       cases h4:isB (allS c.p) with
       | false=>simp [h3,h4] at h2
       | true=>exact ⟨rfl,rfl,(Ax2 hc).1,hv⟩
   · simp at h
 · simp at h
theorem Dd6 {p:Pr} (hp:isPair p=true) {j:Nat} (hj:j < p.things.length):(shiftX p j).1=shift (thingAt p j):=by
 rw [Co2];unfold shiftR;rw [if_pos hp,if_pos (by simp [thingR,within];omega)]
def hurtR (c:Cd) (t:Tr) (x:Th):Int :=
 if apartM c t - (shift x).2 < c.eyes.hi - c.squeeze then 1
 else if c.eyes.lo + c.prism < apartM c t - (shift x).1 then 2
 else if windowM c t + c.front < (shift x).2 then 3
 else if (shift x).1 < windowM c t - c.deep then 4
 else if offM c t x then 5 else 0
theorem CL2 {c:Cd} (hp:isPair c.p=true) (t:Tr) {j:Nat} (hj:j < c.p.things.length):whyM c t j=hurtR c t (thingAt c.p j):=by
 unfold whyM;rw [Dd6 hp hj];unfold hurtR hurtL
 generalize shift (thingAt c.p j)=s
 by_cases h1:apartM c t - s.2 < c.eyes.hi - c.squeeze
 · simp [idxF,h1]
 · by_cases h2:c.eyes.lo + c.prism < apartM c t - s.1
   · simp [idxF,h1,h2]
   · by_cases h3:windowM c t + c.front < s.2
     · simp [idxF,h1,h2,h3]
     · by_cases h4:s.1 < windowM c t - c.deep
       · simp [idxF,h1,h2,h3,h4]
       · by_cases h5:offM c t (thingAt c.p j)=true
         · simp [idxF,h1,h2,h3,h4,h5]
         · simp [idxF,h1,h2,h3,h4,h5]
def hurtRF (c:Cd) (t:Tr):List Int→Option (Int×Int)
 | []=>none
 | i::l=>if hurtR c t (thingAt c.p i)=0 then hurtRF c t l else some (i,hurtR c t (thingAt c.p i))
theorem Bp6 {c:Cd} (hp:isPair c.p=true) (t:Tr):∀ {l:List Int},(∀ i∈l,∃ j:Nat,i=j∧j < c.p.things.length)→hurtF c t l=((hurtRF c t l).getD (0,0))
 | [],_=>rfl
 | i::l,h=>by
   obtain ⟨j,rfl,hj⟩:=h i (by simp);have ih:=Bp6 hp t (l:=l) (fun k hk=>h k (List.mem_cons_of_mem _ hk));unfold hurtF hurtRF;rw [CL2 hp t hj]
   split
   · exact ih
   · rfl
theorem Bh0 {c:Cd} {t:Tr}:∀ {l:List Int},hurtRF c t l=none ↔ (hurtRF c t l).getD (0,0)=(0,0)∧((hurtRF c t l).getD (0,0)).2=0
 | []=>by simp [hurtRF]
 | i::l=>by
   have ih:=Bh0 (c:=c) (t:=t) (l:=l);unfold hurtRF
   split
   · exact ih
   · rename_i h
     simp [h]
theorem Ct7 {c:Cd} (hp:isPair c.p=true) (t:Tr):hurtM c t=(hurtRF c t (seenN c.p)).getD (0,0):=Bp6 hp t (fun i hi=>by
 obtain ⟨j,h1,h2,_⟩:=Ba4 hi;exact ⟨j,h1,h2⟩)
def hurtsR (c:Cd) (t:Tr):Int×Int×Int:=if checkR c (trR c t)=0 then (match hurtRF c t (seenN c.p) with | some x=>(x.1,x.2,11) | none=>(0,0,0)) else (0,0,checkR c (trR c t))
theorem Bp5 (c:Cd) (t:Tr):hurtsX c t=hurtsR c t:=by
 unfold hurtsX hurtsR;rw [BM9]
 split
 · rename_i h
   have hp:=(AU9 h).1;rw [Ct7 hp]
   cases h2:hurtRF c t (seenN c.p) with
   | none=>rfl
   | some x =>
     have h3:=(not_congr (Bh0 (c:=c) (t:=t) (l:=seenN c.p))).1 (by rw [h2];simp);rw [h2] at h3;simp only [Option.getD_some] at h3 ⊢;rw [if_neg];intro h0;refine h3 ⟨?_,h0⟩
     exact absurd h0 (by
      have:∀ l:List Int,hurtRF c t l=some x→x.2 ≠ 0:=by
       intro l
       induction l with
       | nil=>intro h;cases h
       | cons i l ih =>
         unfold hurtRF
         split
         · exact ih
         · rename_i hz;intro h;cases h;exact hz
      exact this _ h2)
 · rfl
def roomR (c:Cd) (t:Tr):(Int×Int)×Int:=if checkR c (trR c t)=0 then (if (roomOf c t).2 < (roomOf c t).1 then ((0,0),4) else (roomOf c t,0)) else ((0,0),checkR c (trR c t))
theorem CE9 (c:Cd) (t:Tr):roomX c t=roomR c t:=by unfold roomX roomR;rw [BM9]
def fitR (c:Cd) (t:Tr):Bool:=(hurtRF c t (seenN c.p)).isNone
def blockR (o:Option Tr) (t:Tr):Bool:=match o with | some u=>decide (sumT u≤sumT t) | none=>false
def stepR (c:Cd) (o:Option Tr) (t:Tr):Option Tr:=if !trR c t || blockR o t then o else if fitR c t then some t else o
def okR (c:Cd) (t:Tr):Bool:=trR c t && fitR c t
def BestOf (c:Cd) (l:List Tr) (o:Option Tr):Prop :=
 (o=none→∀ v∈l,okR c v=false)∧∀ u,o=some u→u∈l∧okR c u=true∧∀ v∈l,okR c v=true→v=u∨befT u v
theorem BestOf.step {c:Cd} {l:List Tr} {o:Option Tr} {t:Tr} (h:BestOf c l o) (hl:∀ v∈l,lexT v t):BestOf c (l++[t]) (stepR c o t):=by
 obtain ⟨h1,h2⟩:=h;unfold stepR
 by_cases ht:trR c t=true
 · by_cases hb:blockR o t=true
   · simp only [ht,hb,Bool.not_true,Bool.false_or,if_true]
     cases o with
     | none=>cases hb
     | some u =>
       obtain ⟨g1,g2,g3⟩:=h2 u rfl;have hs:sumT u≤sumT t:=by simpa [blockR] using hb
       refine ⟨fun h=>(by cases h),fun u' hu'=>?_⟩
       cases hu'
       refine ⟨List.mem_append_left _ g1,g2,fun v hv hv2=>?_⟩
       rcases List.mem_append.1 hv with hv | hv
       · exact g3 v hv hv2
       · cases List.mem_singleton.1 hv
         right
         have:=hl u g1
         unfold befT
         rcases Int.lt_or_eq_of_le hs with h | h
         · exact .inl h
         · exact .inr ⟨h,this⟩
   · have hb':blockR o t=false:=by simpa using hb
     by_cases hf:fitR c t=true
     · simp only [ht,hb',hf,Bool.not_true,Bool.false_or,Bool.false_eq_true,if_false,if_true]
       refine ⟨fun h=>(by cases h),fun u' hu'=>?_⟩
       cases hu'
       refine ⟨by simp,by simp [okR,ht,hf],fun v hv hv2=>?_⟩
       rcases List.mem_append.1 hv with hv | hv
       · right
         cases o with
         | none=>rw [h1 rfl v hv] at hv2;cases hv2
         | some u =>
           obtain ⟨g1,g2,g3⟩:=h2 u rfl;have hs:sumT t < sumT u:=by simpa [blockR] using hb'
           left
           rcases g3 v hv hv2 with rfl | h
           · exact hs
           · unfold befT at h;omega
       · exact .inl (List.mem_singleton.1 hv)
     · have hf':fitR c t=false:=by simpa using hf
       simp only [ht,hb',hf',Bool.not_true,Bool.false_or,Bool.false_eq_true,if_false];have hok:okR c t=false:=by simp [okR,hf']
       refine ⟨fun h v hv=>?_,fun u hu=>?_⟩
       · rcases List.mem_append.1 hv with hv | hv
         · exact h1 h v hv
         · cases List.mem_singleton.1 hv;exact hok
       · obtain ⟨g1,g2,g3⟩:=h2 u hu
         refine ⟨List.mem_append_left _ g1,g2,fun v hv hv2=>?_⟩
         rcases List.mem_append.1 hv with hv | hv
         · exact g3 v hv hv2
         · cases List.mem_singleton.1 hv;rw [hok] at hv2;cases hv2
 · have ht':trR c t=false:=by simpa using ht
   simp only [ht',Bool.not_false,Bool.true_or,if_true];have hok:okR c t=false:=by simp [okR,ht']
   refine ⟨fun h v hv=>?_,fun u hu=>?_⟩
   · rcases List.mem_append.1 hv with hv | hv
     · exact h1 h v hv
     · cases List.mem_singleton.1 hv;exact hok
   · obtain ⟨g1,g2,g3⟩:=h2 u hu
     refine ⟨List.mem_append_left _ g1,g2,fun v hv hv2=>?_⟩
     rcases List.mem_append.1 hv with hv | hv
     · exact g3 v hv hv2
     · cases List.mem_singleton.1 hv;rw [hok] at hv2;cases hv2
theorem Bq2 {c:Cd}:∀ {l:List Tr} {t:Tr},l.Pairwise befT→l.find? (fitT c)=some t→t∈l∧fitT c t=true∧∀ v∈l,fitT c v=true→v=t∨befT t v
 | x::l,t,hp,h=>by
   cases hp with
   | cons hx hl =>
     simp only [List.find?_cons] at h
     cases hf:fitT c x with
     | true =>
       rw [hf] at h
       cases h
       refine ⟨by simp,hf,fun v hv _=>?_⟩
       rcases List.mem_cons.1 hv with rfl | hv
       · exact .inl rfl
       · exact .inr (hx v hv)
     | false =>
       rw [hf] at h;obtain ⟨g1,g2,g3⟩:=Bq2 hl h;refine ⟨List.mem_cons_of_mem _ g1,g2,fun v hv hv2=>?_⟩
       rcases List.mem_cons.1 hv with rfl | hv
       · rw [hf] at hv2;cases hv2
       · exact g3 v hv hv2
theorem DH1 {c:Cd} (hc:c.Ok) {t:Tr} (h:bestM c=some t):trIs c t=true∧fitT c t=true∧∀ v,trIs c v=true→fitT c v=true→v=t∨befT t v:=by
 obtain ⟨g1,g2,g3⟩:=Bq2 (Bu6 c) h;exact ⟨(AB8 hc).1 g1,g2,fun v hv=>g3 v ((AB8 hc).2 hv)⟩
theorem Bb0 {c:Cd} {t:Tr}:∀ {l:List Int},(hurtF c t l).2 ≠ 0→(hurtF c t l).1∈l∧whyM c t (hurtF c t l).1=(hurtF c t l).2
 | [],h=>absurd rfl h
 | i::l,h=>by
   unfold hurtF at h ⊢
   split at h
   · rename_i h0
     rw [if_pos h0];obtain ⟨g1,g2⟩:=Bb0 h;exact ⟨List.mem_cons_of_mem _ g1,g2⟩
   · rename_i h0
     rw [if_neg h0];exact ⟨by simp,rfl⟩
theorem CE2 {p:Pr} {j:Nat}:(j:Int)∈seenN p ↔ j < p.things.length∧(whyX p j).1=0:=by
 constructor
 · intro h
   obtain ⟨k,h1,h2,h3⟩:=Ba4 h
   have:j=k:=by omega
   subst this;exact ⟨h2,h3⟩
 · rintro ⟨h1,h2⟩
   exact List.mem_map.2 ⟨_,Ba5 h1 h2,rfl⟩
theorem CE3 {p:Pr} {e:Int×(Int×Int)}:e∈seenM p ↔ ∃ j:Nat,e=((j:Int),(shiftX p j).1)∧j < p.things.length∧(whyX p j).1=0 :=
 ⟨AP4 p _ e,fun ⟨_,h1,h2,h3⟩=>h1 ▸ Ba5 h2 h3⟩
theorem Dm2 {α:Type} {f:α→Bool} {l:List α} {k:Nat} (h:k < l.length) (h1:(l.take k).all f=true) (h2:f l[k]=true):(l.take (k + 1)).all f=true:=by
 rw [List.take_succ_eq_append_getElem h,List.all_append,h1];simp [h2]
theorem DH7 {α:Type} {f:α→Bool} {l:List α} {k:Nat} (h:k < l.length) (h2:f l[k]=false):l.all f=false:=by
 rw [Bool.eq_false_iff];intro h3;rw [List.all_eq_true.1 h3 _ (List.getElem_mem h)] at h2
 cases h2
end Go.Pw1
namespace Go.Q
open Go Go.Eng Go.Pw1
theorem An8 (n lo hi:Int) (W:World):CC 258 #[.I n,.I lo,.I hi] W (Pure (.bool (within n lo hi)) W):=by
 refine cS func258 ?_;refine st ?_
 refine Ab0 (dj:=10) (dp:=14) 4 rfl (fun g10=>by
  refine sv ?_;exact zs g10
 ) (fun g10=>by
   iterate 3 refine nQ ?_
   refine sv ?_;exact zs g10
 ) ?_
 refine su ?_;exact rP
theorem Az7 (s:Sp) (lo hi:Int) (W:World):CC 279 #[.agg #[.I s.lo,.I s.hi],.I lo,.I hi] W (Pure (.bool (isSpan s lo hi)) W):=by
 refine cS func279 ?_;refine st ?_;refine zn (Lm rfl) (fun b3=>?_)
 refine Ab0 (dj:=11) (dp:=17) 6 rfl (fun g11=>by
  refine lv (Lo rfl Az9) ?_;refine lv (Aa6 rfl mm0 Ae0 rfl) ?_;refine lv (Lo rfl Al7) ?_;refine Xa (Aa6 rfl mm0 Ae0 rfl) ?_;refine sv ?_;exact zs g11
 ) (fun g11=>by
   iterate 5 refine nQ ?_
   refine sv ?_;exact zs g11
 ) ?_
 refine st ?_
 refine Ab0 (dj:=18) (dp:=23) 5 rfl (fun g18=>by
  refine lv (Lo rfl Al7) ?_;refine Xa (Aa6 rfl mm0 Ae0 rfl) ?_;refine sv ?_;exact zs g18
 ) (fun g18=>by
   iterate 4 refine nQ ?_
   refine sv ?_;exact zs g18
 ) ?_
 refine su ?_;exact rP
theorem AQ6 (x y:Sp) (W:World):CC 278 #[.agg #[.I x.lo,.I x.hi,.I y.lo,.I y.hi]] W (Pure (.bool (isPlace x y)) W):=by
 refine cS func278 ?_;refine st ?_;refine zn (Lm rfl) (fun b1=>?_)
 refine zc (zF rfl By2) (fun w hm=>Az7 ⟨_,_⟩ _ _ w) ?_
 refine Ab0 (dj:=6) (dp:=10) 4 rfl (fun g6=>by
  refine su ?_;refine Xe (zF rfl By2) (fun w hm=>Az7 ⟨_,_⟩ _ _ w) ?_;refine sv ?_;exact zs g6
 ) (fun g6=>by
   iterate 3 refine nQ ?_
   refine sv ?_;exact zs g6
 ) ?_
 refine su ?_;exact rP
theorem CW2 (p:Pr) (q:OA) (cap:Nat) (t:Th) (bf bp:Nat) (W:World) (hf:W.heap[bf]? = some (.cells #[.func (.func 278) #[] #[]] 154 (0,0))) (hp:W.heap[bp]? = some (.cells (p.cells q cap).toArray 26)) :
  CC 280 #[t.v,.pointer (some ⟨bf,0,none⟩),.pointer (some ⟨bp,0,none⟩)] W (Pure (.bool (bad p t)) W):=by
 refine cS func280 ?_;refine st ?_;refine zn (Lm rfl) (fun b3=>?_)
 refine lu (Aa0 rfl hf (by simp) CA7 rfl) ?_;refine Xe (Ab4 rfl rfl CQ3) (fun w hm=>AQ6 ⟨_,_⟩ ⟨_,_⟩ w) ?_;refine st ?_
 refine Ac5 (dj:=10) (dp:=16) 6 rfl (fun g10=>by
  refine lu (Aa0 rfl hf (by simp) CA7 rfl) ?_;refine Xe (Ab4 rfl rfl CQ3) (fun w hm=>AQ6 ⟨_,_⟩ ⟨_,_⟩ w) ?_;refine sv ?_;exact zs g10
 ) (fun g10=>by
   iterate 5 refine nQ ?_
   refine sv ?_;exact zs g10
 ) ?_
 refine st ?_
 refine Ac5 (dj:=17) (dp:=31) 14 rfl (fun g17=>by
  refine su ?_
  refine Ab0 (dj:=21) (dp:=30) 9 rfl (fun g21=>by
   refine su ?_;refine lu (Aa0 rfl hp (by simp) Ae0 rfl) ?_;refine lv (Aa0 rfl hp (by simp) Ae0 rfl) ?_;refine Xe (zF rfl AU8) (fun w hm=>An8 _ _ _ w) ?_;refine sv ?_;exact zs g21
  ) (fun g21=>by
    iterate 8 refine nQ ?_
    refine sv ?_;exact zs g21
  ) ?_
  refine sv ?_;exact zs g17
 ) (fun g17=>by
   iterate 13 refine nQ ?_
   refine sv ?_;exact zs g17
 ) ?_
 refine su ?_;exact rP
theorem Av1 (t:Th) (ht:t.Ok) (W:World):CC 244 #[t.v] W (Pure (b2v (shift t)) W):=by
 obtain ⟨⟨h1,h2,h3⟩,⟨h4,h5,h6⟩,⟨h7,h8,h9⟩,⟨h10,h11,h12⟩⟩:=ht;refine cS func244 ?_;refine st ?_;refine zn (Lm rfl) (fun b1=>?_)
 refine zn (Lp Ad6) (fun b2=>?_)
 refine lu (Ad8 rfl rfl (Lq _ ⟨by omega,by omega⟩)) ?_;refine lv (Ad8 rfl rfl (Lq _ ⟨by omega,by omega⟩)) ?_;refine lv (Lr (parts:=[(0,.tmp 11),(1,.tmp 20)]) rfl Ad6 Ak3 rfl) ?_;refine sQ .here ?_;refine su ?_;exact Aa9 (.r1 rfl (.agg rfl mm0 Ai6 rfl)) (by first | rfl | simp)
theorem Ay9 (b:Int×Int) (W:World):CC 157 #[.agg #[.I b.1,.I b.2]] W (Pure (b2v b) W):=by
 refine cS func157 ?_;refine st ?_;refine zn (Lm rfl) (fun b1=>?_)
 refine zn (Lp Ad6) (fun b2=>?_)
 refine lu (Aa7 rfl rfl Ah4 (by decide) (by decide)) ?_;refine lu (Aa7 rfl rfl Ah4 (by decide) (by decide)) ?_;refine lv (Lr (parts:=[(0,.tmp 4),(1,.tmp 6)]) rfl Ad6 Ak3 rfl) ?_;refine sQ .here ?_;refine su ?_;exact Aa9 (.r1 rfl (.agg rfl mm0 Ai6 rfl)) (by first | rfl | simp)
theorem Af5 (a:Int×Int) (l:List (Int×Int)) (q:OA) (b o cap:Nat) (W:World) (hS:Sl W q b o 2 (l.map b2c)) (hl:l.length≤100) :
  CC 197 #[b2v a,.slice q l.length cap] W (Pure (.tuple #[b2v (narL a l),.bool (isB (narL a l))]) W):=by
 refine cS func197 ?_;refine st ?_;refine zn (Lm rfl) (fun b2=>?_)
 refine zn (Lp Ac6) (fun b4=>?_)
 refine Ac8 (l.length) (fun k q=>(10,.I (k:Int))::q) (fun _=>_) (fun k=>[(b2,.cells (b2c (narL a (l.take k))).toArray 268)]) (fun _=>True) trivial rfl (zE 10 rfl rfl (zS 8 rfl (zS 9 rfl (zS 2 rfl (zS 4 rfl (Sub.nil _)))))) (qD (qC .nil)) ?_;intro k kN kI;clear kI;refine st ?_;refine cn rfl ?_ ?_
 ·intro c0'
  have hk:k < l.length:=by omega
  refine st ?_;refine lv (Aa3 rfl rfl AG4 (by omega) (by omega) (hS.ptrM hk)) ?_;refine lv (Aa5 rfl (fun w hm=>hS.loadM (by decide) hm (by simp) Ah6 hk)) ?_;refine zn (Lp Ac6) (fun b7=>?_)
  refine sQ .here ?_;refine st ?_;refine lu (Aa7 rfl rfl Ah4 (by decide) (by decide)) ?_;refine lu (Aa7 rfl rfl Ah4 (by decide) (by decide)) ?_;refine lv (Val.max rfl rfl) ?_;refine lu (Aa7 rfl rfl Ah4 (by decide) (by decide)) ?_;refine lu (Aa7 rfl rfl Ah4 (by decide) (by decide)) ?_;refine lv (Val.min rfl rfl) ?_;refine lv (Lr (parts:=[(0,.tmp 18),(1,.tmp 23)]) rfl Ac6 Ah9 rfl) ?_;refine sQ (.there .here) ?_;refine st ?_;refine lA ?_;exact Ac2 (by omega) trivial rfl (zE 10 rfl rfl (zS 8 rfl (zS 9 rfl (zS 2 rfl (zS 4 rfl (Sub.nil _)))))) (.cons (.there .here) (by rw [List.take_succ_eq_append_getElem hk,BG5];rfl) (qD .nil))
 intro c0';obtain rfl:k=l.length:=by omega
 rw [List.take_length];refine Ls ?_;refine su ?_;refine Aa4 ?_;refine st ?_;refine Ab9 7 Ah8 (qC .nil) ?_;refine zw 0 ?_;refine zv 1 rfl (Aa7 rfl rfl Ah4 (by decide) (by decide)) ?_;refine zw 2 ?_;refine zv 3 rfl (Aa7 rfl rfl Ah4 (by decide) (by decide)) ?_;refine zw 4 ?_;refine zw 5 ?_;refine zA 6 ?_;refine Xr rfl (Lt rfl rfl (.there .here) Ah6 rfl rfl) (Aa2 (qC .nil) (qC .nil) rfl ?_)
 refine zt ?_;refine zp 7 ?_;refine zd ?_;refine su ?_;exact Aa9 (.r2 rfl (.agg rfl mm1 Ah6 rfl) (.tmp rfl)) (by first | rfl | simp)
theorem AN1 (t:Th) (ht:t.Ok) (W:World):CC 196 #[t.v] W (Pure (.tuple #[b2v (shownS t),.bool (isB (shownS t))]) W):=by
 refine cS func196 ?_;refine st ?_;refine zn (Lm rfl) (fun b1=>?_)
 refine zn (Lp Ac6) (fun b2=>?_)
 refine zc (zF rfl By3) (fun w hm=>Av1 ⟨⟨_,_⟩,⟨_,_⟩,⟨_,_⟩,⟨_,_⟩,_⟩ (by assumption) w) ?_;refine zn (Lp Ad6) (fun b4=>?_)
 refine sQ .here ?_;refine su ?_;refine lv (Lr (parts:=[(0,.tmp 8),(1,.tmp 10)]) rfl Ac6 Ah9 rfl) ?_;refine lv (Lr (parts:=[(0,.const (.I 0)),(1,.const (.I 2000))]) rfl Ac6 Ah9 rfl) ?_;refine zn (Lu (parts:=[(0,.tmp 12)]) rfl AG4 Ac6 rfl rfl rfl rfl) (fun b13=>?_)
 refine zc (zF rfl Au4) (fun w hm=>Af5 (_,_) [(_,_)] _ _ _ _ w (Lv (hm.at mm0) rfl) (by simp)) ?_;refine sQ (.there (.there .here)) ?_;refine su ?_;exact Aa9 (.r2 rfl (.agg rfl mm2 Ah6 rfl) (.tmp rfl)) (by first | rfl | simp)
theorem AN8 (p:Pr) (hp:p.Ok) (q:OA) (cap:Nat) (pw:Int×Int) (t:Th) (ht:t.Ok) (bv:Nat) (W:World) (hV:W.heap[bv]? = some (.cells (vwCells p q cap pw).toArray 270)) :
  CC 248 #[.pointer (some ⟨bv,0,none⟩),t.v] W (Pure (.bool (levelS p t)) W):=by
 obtain ⟨⟨h1,h2,h3⟩,⟨h4,h5,h6⟩,⟨h7,h8,h9⟩,⟨h10,h11,h12⟩⟩:=ht;have t1:=hp.t1;have t2:=hp.t2;refine cS func248 ?_;refine st ?_;refine zn (Lm rfl) (fun b3=>?_)
 refine lu (Ad8 rfl rfl (Lq _ ⟨by omega,by omega⟩)) ?_;refine lv (Ad8 rfl rfl (Lq _ ⟨by omega,by omega⟩)) ?_;refine lv (Lr (parts:=[(0,.tmp 16),(1,.tmp 25)]) rfl Ac6 Ah9 rfl) ?_;refine zn (Lp Ac6) (fun b5=>?_)
 refine sQ .here ?_;refine nnx ?_;refine Lx ?_
 apply Ak7 (J:=J2 _ _ _ _ _ _) 20 Ah8 (qE .nil)
 ·refine zw 0 ?_
  refine zw 1 ?_;refine zw 2 ?_;refine zw 3 ?_;refine zw 4 ?_;refine zv 5 rfl (Aa0 rfl hV (by simp) Ae0 rfl) ?_;refine zv 6 rfl (Val.neg rfl (Lq _ ⟨by omega,by omega⟩)) ?_;refine zw 7 ?_;refine zw 8 ?_;refine zw 9 ?_;refine zw 10 ?_;refine zv 11 rfl (Aa0 rfl hV (by simp) Ae0 rfl) ?_;refine zv 12 rfl (Lr (parts:=[(0,.tmp 34),(1,.tmp 39)]) rfl Ac6 Ah9 rfl) ?_;refine Af7 (rs:=[13,18]) (by kernel_rfl) (by simp) (by kernel_rfl) (fun m hm=>?_)
  simp only [List.mem_cons,List.not_mem_nil,or_false] at hm
  rcases hm with rfl | rfl
  ·refine Xf rfl (Lu (parts:=[(0,.tmp 40)]) rfl AG4 Ac6 rfl rfl rfl rfl) (fun b41=>(Aa2 (qE (qC .nil)) (qD (qD .nil)) rfl ?_))
   refine Af7 (rs:=[14,18]) (by kernel_rfl) (by simp) (by kernel_rfl) (fun m hm=>?_)
   simp only [List.mem_cons,List.not_mem_nil,or_false] at hm
   rcases hm with rfl | rfl
   ·refine Xd rfl (zF rfl Au4) (fun w hm=>Af5 (_,_) [(_,_)] _ _ _ _ w (Lv (hm.at mm0) rfl) (by simp)) (Aa2 (qE (qC .nil)) (qE (qC .nil)) rfl ?_)
    refine zw 15 ?_;refine zw 16 ?_;refine zw 17 ?_;refine zA 18 ?_;refine Xf rfl (Lp Ac6) (fun b6=>(Aa2 (qD (qD (qD .nil))) (qE (qC .nil)) rfl ?_))
    refine zA 19 ?_;refine Xr rfl (Lt rfl rfl .here Ah6 rfl rfl) (Aa2 (qD (qD (qD .nil))) (qE (qC .nil)) rfl ?_)
    refine zt ?_;refine zp 20 ?_;refine zd ?_;exact Ai1 b41 b6 (Ab3 _) (Pick.refl _)
   refine Xf rfl (Lp Ac6) (fun b6=>(Aa2 (qD (qD (qD .nil))) (qE (qC .nil)) rfl ?_))
   refine zA 14 ?_;refine Xd rfl (zF rfl Au4) (fun w hm=>Af5 (_,_) [(_,_)] _ _ _ _ w (Lv (hm.at mm1) rfl) (by simp)) (Aa2 (qD (qD (qD .nil))) (qE (qC .nil)) rfl ?_)
   refine zw 15 ?_;refine zw 16 ?_;refine zw 17 ?_;refine zA 19 ?_;refine Xr rfl (Lt rfl rfl .here Ah6 rfl rfl) (Aa2 (qD (qD (qD .nil))) (qE (qC .nil)) rfl ?_)
   refine zt ?_;refine zp 20 ?_;refine zd ?_;exact Ai1 b41 b6 (zS 7 rfl (zS 6 rfl (zS 44 rfl (zS 43 rfl (zS 27 rfl (zS 42 rfl (zS 41 rfl (zS 40 rfl (zS 39 rfl (zS 38 rfl (zS 37 rfl (zS 36 rfl (zS 35 rfl (zS 34 rfl (zS 33 rfl (zS 32 rfl (zS 31 rfl (zS 30 rfl (zS 29 rfl (zS 28 rfl (qU (qU (qU (qU (qU (Ab3 _)))))))))))))))))))))))))) (qF .nil)
  refine Xf rfl (Lp Ac6) (fun b6=>(Aa2 (qD (qD .nil)) (qE .nil) rfl ?_))
  refine zA 13 ?_;refine Xf rfl (Lu (parts:=[(0,.tmp 40)]) rfl AG4 Ac6 rfl rfl rfl rfl) (fun b41=>(Aa2 (qC (qD (qD .nil))) (qD (qD .nil)) rfl ?_))
  refine zA 14 ?_;refine Xd rfl (zF rfl Au4) (fun w hm=>Af5 (_,_) [(_,_)] _ _ _ _ w (Lv (hm.at mm0) rfl) (by simp)) (Aa2 (qC (qD (qD .nil))) (qE (qC .nil)) rfl ?_)
  refine zw 15 ?_;refine zw 16 ?_;refine zw 17 ?_;refine zA 19 ?_;refine Xr rfl (Lt rfl rfl (.there .here) Ah6 rfl rfl) (Aa2 (qC (qD (qD .nil))) (qE (qC .nil)) rfl ?_)
  refine zt ?_;refine zp 20 ?_;refine zd ?_;exact Ai1 b41 b6 (zS 7 rfl (zS 6 rfl (zS 44 rfl (zS 43 rfl (zS 27 rfl (zS 42 rfl (zS 41 rfl (zS 40 rfl (zS 39 rfl (zS 38 rfl (zS 37 rfl (zS 36 rfl (zS 35 rfl (zS 34 rfl (zS 33 rfl (zS 32 rfl (zS 31 rfl (zS 30 rfl (zS 29 rfl (zS 28 rfl (qU (qU (qU (qU (qU (Ab3 _)))))))))))))))))))))))))) (qD (qE (qC .nil)))
 refine J2.out (fun b41 b6=>?_)
 refine su ?_;exact rP
theorem Dv7 (p:Pr) (q:OA) (cap:Nat) (pw:Int×Int) (t:Th) (hf:t.far ≠ 0) (bv:Nat) (W:World) (_hV:W.heap[bv]? = some (.cells (vwCells p q cap pw).toArray 270)) :
  CC 249 #[.pointer (some ⟨bv,0,none⟩),t.v] W (Pure (.iface 389 (.agg #[.I t.far])) W):=by
 refine cS func249 ?_;refine st ?_;refine zn (Lm rfl) (fun b3=>?_)
 refine Ly rfl ?_ (fun h=>absurd h (by simpa using hf))
 intro c0;clear c0;refine su ?_;refine lv (Lr (parts:=[(0,.tmp 9)]) rfl CY9 Cq3 rfl) ?_;refine lu (Lz rfl Dg0) ?_;exact rP
theorem Df2 (p:Pr) (q:OA) (cap:Nat) (pw:Int×Int) (t:Th) (hf:t.far=0) (bv:Nat) (W:World) (hV:W.heap[bv]? = some (.cells (vwCells p q cap pw).toArray 270)) :
  CC 249 #[.pointer (some ⟨bv,0,none⟩),t.v] W (Pure (.iface 391 (.agg #[.I p.near,.I p.far])) W):=by
 refine cS func249 ?_;refine st ?_;refine zn (Lm rfl) (fun b3=>?_)
 refine Ly rfl (fun h=>absurd h (by simpa using hf)) ?_;intro c0;clear c0;refine st ?_;refine Ab9 10 Ah8 (qC .nil) ?_;refine zw 0 ?_;refine zw 1 ?_;refine zw 2 ?_;refine zw 3 ?_;refine zv 4 rfl (Aa0 rfl hV (by simp) Ae0 rfl) ?_;refine zw 5 ?_;refine zw 6 ?_;refine zw 7 ?_;refine zw 8 ?_;refine zv 9 rfl (Aa0 rfl hV (by simp) Ae0 rfl) ?_;refine zt ?_;refine zo 10 rfl (Lr (parts:=[(0,.tmp 16),(1,.tmp 21)]) rfl CY8 Cq2 rfl) ?_;refine zo 11 rfl (Lz rfl Df9) ?_;refine zp 12 ?_;refine zd ?_;refine su ?_;exact rP
theorem Cs7 (f:Int) (h0:0≤f) (h1:f≤1073741824) (s:Int×Int) (g0:0≤s.1) (g1:s.1≤s.2) (g2:s.2≤2000) (W:World) :
  CC 316 #[.agg #[.I f],.agg #[.I s.1,.I s.2]] W (Pure (b2v (s.1 * f,(s.2 + 1) * f - 1)) W):=by
 have m1:=AX0 g0 (Int.le_trans g1 g2) h0 h1;have m2:=AX0 (a:=s.2 + 1) (A:=2001) (by omega) (by omega) h0 h1;refine cS func316 ?_;refine st ?_;refine zn (Lm rfl) (fun b2=>?_)
 refine zn (Lm rfl) (fun b3=>?_)
 refine zn (Lp Ac6) (fun b4=>?_)
 refine lu (Aa7 rfl rfl Ah4 (by decide) (by decide)) ?_;refine lv (Ka rfl rfl (Lq _ ⟨by omega,by omega⟩)) ?_;refine lu (Aa7 rfl rfl Ah4 (by decide) (by decide)) ?_;refine lu (Kb rfl rfl (Lq _ ⟨by omega,by omega⟩)) ?_;refine lv (Ka rfl rfl (Lq _ ⟨by omega,by omega⟩)) ?_;refine lv (Ad8 rfl rfl (Lq _ ⟨by omega,by omega⟩)) ?_;refine lv (Lr (parts:=[(0,.tmp 9),(1,.tmp 16)]) rfl Ac6 Ah9 rfl) ?_;refine sQ .here ?_;refine su ?_;exact Aa9 (.r1 rfl (.agg rfl mm0 Ah6 rfl)) (by first | rfl | simp)
theorem BV5 (f f':Int) (h0:0≤f) (h1:f≤1073741824) (h0':0≤f') (h1':f'≤1073741824) (s:Int×Int) (g0:0≤s.1) (g1:s.1≤s.2) (g2:s.2≤2000) (W:World) :
  CC 317 #[.agg #[.I f,.I f'],.agg #[.I s.1,.I s.2]] W (Pure (b2v (s.1 * f,(s.2 + 1) * f' - 1)) W):=by
 have m1:=AX0 g0 (Int.le_trans g1 g2) h0 h1;have m2:=AX0 (a:=s.2 + 1) (A:=2001) (by omega) (by omega) h0' h1';refine cS func317 ?_;refine st ?_;refine zn (Lm rfl) (fun b2=>?_)
 refine zn (Lm rfl) (fun b3=>?_)
 refine zn (Lp Ac6) (fun b4=>?_)
 refine lu (Aa7 rfl rfl Ah4 (by decide) (by decide)) ?_;refine lv (Ka rfl rfl (Lq _ ⟨by omega,by omega⟩)) ?_;refine lu (Aa7 rfl rfl Ah4 (by decide) (by decide)) ?_;refine lu (Kb rfl rfl (Lq _ ⟨by omega,by omega⟩)) ?_;refine lv (Ka rfl rfl (Lq _ ⟨by omega,by omega⟩)) ?_;refine lv (Ad8 rfl rfl (Lq _ ⟨by omega,by omega⟩)) ?_;refine lv (Lr (parts:=[(0,.tmp 9),(1,.tmp 16)]) rfl Ac6 Ah9 rfl) ?_;refine sQ .here ?_;refine su ?_;exact Aa9 (.r1 rfl (.agg rfl mm0 Ah6 rfl)) (by first | rfl | simp)
theorem Ai7 (p:Pr) (hp:p.Ok) (q:OA) (cap:Nat) (pw:Int×Int) (t:Th) (ht:t.Ok) (hf:t.far=0∨(p.near≤t.far∧t.far≤p.far)) (w0:Int×Int) (bv:Nat) (W:World) (hV:W.heap[bv]? = some (.cells (vwCells p q cap pw).toArray 270)) :
  CC 188 #[.pointer (some ⟨bv,0,none⟩),t.v,.agg #[.I w0.1,.I w0.2]] W (Pure (.tuple #[b2v (stillS p t w0).1,.bool (stillS p t w0).2]) W):=by
 have n1:=hp.n1;have n2:=hp.n2;have n3:=hp.n3
 by_cases h0:t.far=0
 · refine cS func188 ?_
   refine st ?_;refine zn (Lm rfl) (fun b4=>?_)
   refine zn (Lm rfl) (fun b5=>?_)
   refine zn (Lp Ac6) (fun b6=>?_)
   refine zc (zF rfl BY9) (fun w hm=>AN1 t ht w) ?_;refine zn (Lp Ac6) (fun b8=>?_)
   refine sQ .here ?_;refine st ?_
   refine Ac5 (dj:=17) (dp:=22) 5 rfl (fun g17=>by
    refine su ?_;refine Xe (zF rfl BY5) (fun w hm=>AN8 p hp q cap pw t ht bv w (hm.old_at hV (by simp))) ?_;refine sv ?_;exact zs g17
   ) (fun g17=>by
     iterate 4 refine nQ ?_
     refine sv ?_;exact zs g17
   ) ?_
   refine st ?_;refine cn rfl ?_ ?_
   ·intro c0'
    refine su ?_;refine sQ (.there .here) ?_;refine su ?_;exact Aa9 (.r2 rfl (.agg rfl mm1 Ah6 rfl) (.tmp rfl)) (by have e:stillS p t w0=(w0,false):=(by rcases c0' with h | h <;> simp [stillS,h]);rw [e];rfl)
   intro c0';have bd:=AP2 c0'.1;refine st ?_;refine Ab9 10 Ah8 (qF .nil) ?_;refine zw 0 ?_;refine zw 1 ?_;refine zw 2 ?_;refine zw 4 ?_;refine zA 3 ?_;refine Xd rfl (zF rfl CQ9) (fun w hm=>Df2 p q cap pw t h0 bv w (hm.old_at hV (by simp))) (Aa2 (qF .nil) (qF .nil) rfl ?_)
   refine zA 5 ?_;refine Xd rfl (Ag1 rfl rfl (fun w=>As4 _ w) Dy8) (fun w hm=>BV5 _ _ (by omega) (by omega) (by omega) (by omega) (shownS t) bd.1 bd.2.1 bd.2.2 w) (Aa2 (qF .nil) (qF .nil) rfl ?_)
   refine zA 6 ?_;refine Xf rfl (Lu (parts:=[(0,.tmp 29)]) rfl AG4 Ac6 rfl rfl rfl rfl) (fun b30=>(Aa2 (qF (qC .nil)) (qD (qD (qD (qD .nil)))) rfl ?_))
   refine zA 7 ?_;refine Xd rfl (zF rfl Au4) (fun w hm=>Af5 (_,_) [(_,_)] _ _ _ _ w (Lv (hm.at mm0) rfl) (by simp)) (Aa2 (qF (qC .nil)) (qF (qC .nil)) rfl ?_)
   refine zw 8 ?_;refine zw 9 ?_;refine zt ?_;refine zB 10 ?_;refine Xr rfl (Lt rfl rfl (.there (.there .here)) Ah6 rfl rfl) (Ab2 ?_)
   refine zp 11 ?_;refine zd ?_;refine su ?_;exact Aa9 (.r2 rfl (.agg rfl mm2 Ah6 rfl) (.tmp rfl)) (by have e:stillS p t w0=(nar w0 (powersS p t (shownS t)),isB (nar w0 (powersS p t (shownS t)))):=(by simp [stillS,c0'.1,c0'.2]);rw [e];simp only [powersS,h0,if_true];rfl)
 · refine cS func188 ?_
   refine st ?_;refine zn (Lm rfl) (fun b4=>?_)
   refine zn (Lm rfl) (fun b5=>?_)
   refine zn (Lp Ac6) (fun b6=>?_)
   refine zc (zF rfl BY9) (fun w hm=>AN1 t ht w) ?_;refine zn (Lp Ac6) (fun b8=>?_)
   refine sQ .here ?_;refine st ?_
   refine Ac5 (dj:=17) (dp:=22) 5 rfl (fun g17=>by
    refine su ?_;refine Xe (zF rfl BY5) (fun w hm=>AN8 p hp q cap pw t ht bv w (hm.old_at hV (by simp))) ?_;refine sv ?_;exact zs g17
   ) (fun g17=>by
     iterate 4 refine nQ ?_
     refine sv ?_;exact zs g17
   ) ?_
   refine st ?_;refine cn rfl ?_ ?_
   ·intro c0'
    refine su ?_;refine sQ (.there .here) ?_;refine su ?_;exact Aa9 (.r2 rfl (.agg rfl mm1 Ah6 rfl) (.tmp rfl)) (by have e:stillS p t w0=(w0,false):=(by rcases c0' with h | h <;> simp [stillS,h]);rw [e];rfl)
   intro c0';have bd:=AP2 c0'.1;refine st ?_;refine Ab9 10 Ah8 (qF .nil) ?_;refine zw 0 ?_;refine zw 1 ?_;refine zw 2 ?_;refine zw 4 ?_;refine zA 3 ?_;refine Xd rfl (zF rfl CQ9) (fun w hm=>Dv7 p q cap pw t h0 bv w (hm.old_at hV (by simp))) (Aa2 (qF .nil) (qF .nil) rfl ?_)
   refine zA 5 ?_;refine Xd rfl (Ag1 rfl rfl (fun w=>As5 _ w) Dy9) (fun w hm=>Cs7 _ (by omega) (by omega) (shownS t) bd.1 bd.2.1 bd.2.2 w) (Aa2 (qF .nil) (qF .nil) rfl ?_)
   refine zA 6 ?_;refine Xf rfl (Lu (parts:=[(0,.tmp 29)]) rfl AG4 Ac6 rfl rfl rfl rfl) (fun b30=>(Aa2 (qF (qC .nil)) (qD (qD (qD (qD .nil)))) rfl ?_))
   refine zA 7 ?_;refine Xd rfl (zF rfl Au4) (fun w hm=>Af5 (_,_) [(_,_)] _ _ _ _ w (Lv (hm.at mm0) rfl) (by simp)) (Aa2 (qF (qC .nil)) (qF (qC .nil)) rfl ?_)
   refine zw 8 ?_;refine zw 9 ?_;refine zt ?_;refine zB 10 ?_;refine Xr rfl (Lt rfl rfl (.there (.there .here)) Ah6 rfl rfl) (Ab2 ?_)
   refine zp 11 ?_;refine zd ?_;refine su ?_;exact Aa9 (.r2 rfl (.agg rfl mm2 Ah6 rfl) (.tmp rfl)) (by have e:stillS p t w0=(nar w0 (powersS p t (shownS t)),isB (nar w0 (powersS p t (shownS t)))):=(by simp [stillS,c0'.1,c0'.2]);rw [e];simp only [powersS,h0,if_false];rfl)
def misf (k:Int):Value:=.iface 349 (.agg #[.I k])
theorem AC3 (b:Bool) (e:Int) (W:World):CC 195 #[.bool b,.I e] W (Try misf (needX b e) W):=by
 refine cS func195 ?_;refine st ?_;refine cn rfl ?_ ?_
 ·intro c0'
  refine st ?_;refine lv (Lr (parts:=[(0,.tmp 6)]) rfl Bt5 Cq6 rfl) ?_;refine lv (Lz rfl Bv8) ?_;refine AA7 rfl ?_;exact Ae2 (k:=e) (by simp [needX,show b=false by simpa using c0'])
 intro c0';refine st ?_;exact At4 (.r0 rfl) (by simp [needX,show b=true by simpa using c0'])
theorem Bg6 (f:Th→Bool) (l:List Th) (q:OA) (b o cap:Nat) (fn:FuncId) (cp:LV) (W:World) (hS:Sl W q b o 9 (l.map Th.cells)) (hl:l.length≤100000000000) (he:Enters π fn)
  (hf:∀ t∈l,∀ w,Mem W [] [] w→CC fn ([t.v]++cp).toArray w (Pure (.bool (f t)) w)) :
  CC 285 #[.slice q l.length cap,.func (.func fn) #[] cp.toArray] W (Pure (.I (idxF f l)) W):=by
 refine cS func285 ?_;refine su ?_;refine Ac8 (l.length) (fun k q=>(8,.I (k:Int))::q) (fun _=>_) (fun _=>[]) (fun k=>(l.take k).any f=false) (by simp) rfl (zE 8 rfl rfl (zS 0 rfl (zS 1 rfl (zS 7 rfl (Sub.nil _))))) .nil ?_;intro k kN kI;refine st ?_;refine cn rfl ?_ ?_
 ·intro c0'
  have hk:k < l.length:=by omega
  refine st ?_;refine lv (Aa3 rfl rfl Ax9 (by omega) (by omega) (hS.ptrM hk)) ?_;refine lv (Aa5 rfl (fun w hm=>hS.loadM (by decide) hm (by simp) Ay5 hk)) ?_;refine Xe (Ab4 rfl rfl he) (fun w hm=>hf _ (List.getElem_mem hk) w hm.drop) ?_;refine st ?_;refine cn rfl ?_ ?_
  ·intro c1'
   refine su ?_;exact Aa9 rZ (by rw [AE2 f l k hk kI c1'])
  intro c1';refine st ?_;refine lA ?_;exact Ac2 (by omega) (AA1 hk kI c1') rfl (zE 8 rfl rfl (zS 0 rfl (zS 1 rfl (zS 7 rfl (Sub.nil _))))) .nil
 intro c0';obtain rfl:k=l.length:=by omega
 rw [List.take_length] at kI;refine Ls ?_;refine su ?_;refine Aa4 ?_;refine su ?_;exact Aa9 rZ (by rw [Ax0 f l kI])
theorem AS0 (f:Th→Bool) (l:List Th) (q:OA) (b o cap:Nat) (fn:FuncId) (cp:LV) (W:World) (hS:Sl W q b o 9 (l.map Th.cells)) (hl:l.length≤100000000000) (he:Enters π fn)
  (hf:∀ t∈l,∀ w,Mem W [] [] w→CC fn ([t.v]++cp).toArray w (Pure (.bool (f t)) w)) :
  CC 281 #[.slice q l.length cap,.func (.func fn) #[] cp.toArray] W (Pure (.bool (l.any f)) W):=by
 refine cS func281 ?_;refine st ?_;refine zc (zF rfl Dz4) (fun w hm=>Bg6 f l q b o cap fn cp w (hS.mono (by decide) hm (by simp)) hl he (fun t ht w2 hm2=>hf t ht w2 ((hm.drop).pass hm2))) ?_;exact Aa9 rZ (by rw [← AK6])
theorem BJ0 (p:Pr) (q:OA) (b o cap:Nat) (W:World) (hS:Sl W q b o 9 (p.things.map Th.cells)) (hl:p.things.length≤100000000000) :
  CC 266 #[p.v q cap] W (Pure (.bool (isPair p)) W):=by
 refine cS func266 ?_;refine st ?_;refine zn (Lm rfl) (fun b1=>?_)
 refine zn (Lp Da0) (fun b3=>?_)
 refine sQ .here ?_;refine su ?_;refine zc (zF rfl By2) (fun w hm=>Az7 ⟨_,_⟩ _ _ w) ?_
 refine Ab0 (dj:=10) (dp:=14) 4 rfl (fun g10=>by
  refine su ?_;refine Xe (zF rfl By2) (fun w hm=>Az7 ⟨_,_⟩ _ _ w) ?_;refine sv ?_;exact zs g10
 ) (fun g10=>by
   iterate 3 refine nQ ?_
   refine sv ?_;exact zs g10
 ) ?_
 refine st ?_
 refine Ab0 (dj:=15) (dp:=19) 4 rfl (fun g15=>by
  refine su ?_;refine Xe (zF rfl AU8) (fun w hm=>An8 _ _ _ w) ?_;refine sv ?_;exact zs g15
 ) (fun g15=>by
   iterate 3 refine nQ ?_
   refine sv ?_;exact zs g15
 ) ?_
 refine st ?_
 refine Ab0 (dj:=21) (dp:=25) 4 rfl (fun g21=>by
  refine su ?_;refine Xe (zF rfl AU8) (fun w hm=>An8 _ _ _ w) ?_;refine sv ?_;exact zs g21
 ) (fun g21=>by
   iterate 3 refine nQ ?_
   refine sv ?_;exact zs g21
 ) ?_
 refine st ?_
 refine Ab0 (dj:=26) (dp:=32) 6 rfl (fun g26=>by
  refine su ?_;refine Xe (zF rfl AU8) (fun w hm=>An8 _ _ _ w) ?_;refine sv ?_;exact zs g26
 ) (fun g26=>by
   iterate 5 refine nQ ?_
   refine sv ?_;exact zs g26
 ) ?_
 refine st ?_
 refine Ab0 (dj:=33) (dp:=38) 5 rfl (fun g33=>by
  refine lv (Lo rfl AK9) ?_;refine lv (Aa6 rfl mm1 AD3 rfl) ?_;refine Xa (Ae3 rfl Ax9) ?_;refine sv ?_;exact zs g33
 ) (fun g33=>by
   iterate 4 refine nQ ?_
   refine sv ?_;exact zs g33
 ) ?_
 refine st ?_
 refine Ab0 (dj:=39) (dp:=45) 6 rfl (fun g39=>by
  refine su ?_;refine Xe (zF rfl Dz6) (fun w hm=>AS0 (bad p) p.things q b o cap 280 [_,_] w (hS.mono (by decide) hm (by simp)) hl Dz7 (fun t ht w2 hm2=>CW2 p q cap t _ _ w2 (hm2.old_at (hm.at mm0) (by simp)) (hm2.old_at (hm.at mm1) (by simp)))) ?_;refine sv ?_;exact zs g39
 ) (fun g39=>by
   iterate 5 refine nQ ?_
   refine sv ?_;exact zs g39
 ) ?_
 refine su ?_;exact rP
theorem AU1 (p:Pr) (q:OA) (b o cap:Nat) (l:List Int) (q2:OA) (b2 o2 cap2:Nat) (W:World) (hS:Sl W q b o 9 (p.things.map Th.cells)) (hl:p.things.length≤100000000000) (hL:Sl W q2 b2 o2 1 (l.map fun n=>[.I n])) (hl2:l.length≤100000) :
  CC 229 #[p.v q cap,.slice q2 l.length cap2] W (TryN misf (openX p l) (fun _ b=>.pointer (some ⟨b,0,none⟩)) (fun _ b=>[(b,.cells (vwCells p q cap (0,0)).toArray 270)]) W):=by
 refine cS func229 ?_;refine st ?_;refine zn (Lm rfl) (fun b2=>?_)
 refine zc (zF rfl DA1) (fun w hm=>BJ0 p q b o cap w (hS.mono (by decide) hm (by simp)) hl) ?_;refine Xh (zF rfl Bi3) (fun w hm=>AC3 _ _ w) (fun e9 he9=>?_) (fun v9 hv9=>?_)
 ·obtain ⟨er9,rfl⟩:=Ac9 he9
  refine Aa1 ?_;exact Ai5 (by simp [openX,er9])
 obtain ⟨ok9,rfl⟩:=Ad9 hv9;refine su ?_;refine Ac8 (l.length) (fun k q=>(12,.I (k:Int))::q) (fun _=>_) (fun _=>[]) (fun k=>(l.take k).any (fun n=>!within n 0 ((p.things.length:Int) - 1))=false) (by simp) rfl (zE 12 rfl rfl (zS 2 rfl (zS 4 rfl (zS 10 rfl (zS 11 rfl (Sub.nil _)))))) (qC .nil) ?_;intro k kN kI;refine st ?_;refine cn rfl ?_ ?_
 ·intro c0'
  have hk:k < l.length:=by omega
  refine st ?_;refine lv (Aa3 rfl rfl Af6 (by omega) (by omega) (hL.ptrM hk)) ?_;refine lu (Aa5 rfl (fun w hm=>hL.loadM1 (by decide) hm (by simp) Ae0 hk (v:=.I l[k]) rfl)) ?_;refine lv (Ad8 rfl rfl (Lq _ ⟨by omega,by omega⟩)) ?_;refine zc (zF rfl AU8) (fun w hm=>An8 _ _ _ w) ?_;refine Xh (zF rfl Bi3) (fun w hm=>AC3 _ _ w) (fun e22 he22=>?_) (fun v22 hv22=>?_)
  ·obtain ⟨er22,rfl⟩:=Ac9 he22
   refine Ad0 ?_;refine Aa1 ?_;refine Aa1 ?_;refine Ad0 ?_;refine Aa1 ?_;exact Ai5 (by simp [openX,ok9,CW8 hk (f:=fun n=>!within n 0 ((p.things.length:Int) - 1)) (by simp [er22])])
  obtain ⟨ok22,rfl⟩:=Ad9 hv22;refine st ?_;refine lA ?_;exact Ac2 (by omega) (AA1 hk kI (by simp [ok22])) rfl (zE 12 rfl rfl (zS 2 rfl (zS 4 rfl (zS 10 rfl (zS 11 rfl (Sub.nil _)))))) (qC .nil)
 intro c0';obtain rfl:k=l.length:=by omega
 rw [List.take_length] at kI;refine Ls ?_;refine su ?_;refine Aa4 ?_;refine su ?_;refine lv (Lr (parts:=[(0,.tmp 24)]) rfl CZ3 Cq8 rfl) ?_;refine zn (Lm rfl) (fun b26=>?_)
 exact AL3 (a:=()) b26 rZ (by simp [openX,ok9,kI]) rfl (qC .nil)
theorem Bp3 (p:Pr) (hp:p.Ok) (q:OA) (b o cap:Nat) (pw0:Int×Int) (bv:Nat) (W:World) (hV:W.heap[bv]? = some (.cells (vwCells p q cap pw0).toArray 270)) (hS:Sl W q b o 9 (p.things.map Th.cells)) (hne:p.things.map Th.cells ≠ []→b ≠ bv) :
  CC 230 #[.pointer (some ⟨bv,0,none⟩)] W (TryU misf (lookX p) (.tuple #[]) bv (fun w=>.cells (vwCells p q cap w).toArray 270) W):=by
 have f1:=hp.f1;have f2:=hp.f2;have f3:=hp.f3;have b1:=hp.b1;have b2:=hp.b2;have b3:=hp.b3;have m1:=AX0 (a:=p.focal.lo) (b:=p.base.lo) (A:=50000) (B:=10000) (by omega) (by omega) (by omega) (by omega);have m2:=AX0 (a:=p.focal.hi) (b:=p.base.hi) (A:=50000) (B:=10000) (by omega) (by omega) (by omega) (by omega);have hlen:=hp.len;obtain ⟨w0,hw0⟩:∃ w0:Int×Int,w0=(p.focal.lo * p.base.lo,p.focal.hi * p.base.hi):=⟨_,rfl⟩;have hl0:lookS p=lookL p w0 p.things:=by rw [hw0];rfl
 have hbs:∀ ob:Obj,∀ ob':Obj,p.things.map Th.cells ≠ []→(b,ob) ∉ [(bv,ob')]:=fun ob ob' h=>by simp [hne h]
 refine Af9 hV func230 rfl rfl ?_;refine Kc ?_;refine st ?_;refine Ab9 28 Ah8 .nil ?_;refine zv 0 rfl (Aa8 rfl) ?_;refine zv 1 rfl (Aa8 rfl) ?_;refine zv 2 rfl (Aa8 rfl) ?_;refine zv 3 rfl (Lo rfl As9) ?_;refine zv 4 rfl (Lo rfl Bx6) ?_;refine zv 5 rfl (Lo rfl Az9) ?_;refine zv 6 rfl (Aa6 rfl mm0 Ae0 rfl) ?_;refine zv 7 rfl (Aa8 rfl) ?_;refine zv 8 rfl (Aa8 rfl) ?_;refine zv 9 rfl (Lo rfl As9) ?_;refine zv 10 rfl (Lo rfl Bx5) ?_;refine zv 11 rfl (Lo rfl Az9) ?_;refine zv 12 rfl (Aa6 rfl mm0 Ae0 rfl) ?_;refine zv 13 rfl (Ka rfl rfl (Lq _ ⟨by omega,by omega⟩)) ?_;refine zv 14 rfl (Aa8 rfl) ?_;refine zv 15 rfl (Aa8 rfl) ?_;refine zv 16 rfl (Lo rfl As9) ?_;refine zv 17 rfl (Lo rfl Bx6) ?_;refine zv 18 rfl (Lo rfl Al7) ?_;refine zv 19 rfl (Aa6 rfl mm0 Ae0 rfl) ?_;refine zv 20 rfl (Aa8 rfl) ?_;refine zv 21 rfl (Aa8 rfl) ?_;refine zv 22 rfl (Lo rfl As9) ?_;refine zv 23 rfl (Lo rfl Bx5) ?_;refine zv 24 rfl (Lo rfl Al7) ?_;refine zv 25 rfl (Aa6 rfl mm0 Ae0 rfl) ?_;refine zv 26 rfl (Ka rfl rfl (Lq _ ⟨by omega,by omega⟩)) ?_;refine zv 27 rfl (Lr (parts:=[(0,.tmp 19),(1,.tmp 32)]) rfl Ac6 Ah9 rfl) ?_;refine zt ?_;refine zp 28 ?_;refine zp 29 ?_;refine zB 30 ?_;refine Xr rfl (Ab7 rfl rfl .here Ah6 rfl rfl) (Ab2 ?_)
 refine zd ?_;refine st ?_;refine RunC.label ?_;refine su ?_;refine Ac8 (p.things.length) (fun k q=>(42,.I (k:Int))::q) (fun k=>[(bv,.cells (vwCells p q cap ((lookL p w0 (p.things.take k)).getD (0,0))).toArray 270)]) (fun _=>[]) (fun k=>(lookL p w0 (p.things.take k)).isSome=true) (by simp [lookL]) (by simp only [List.take_zero,lookL,hw0];rfl) (zE 42 rfl rfl (zS 0 rfl (zS 40 rfl (zS 41 rfl (Sub.nil _))))) .nil ?_;intro k kN kI;obtain ⟨wk,hwk⟩:=Option.isSome_iff_exists.1 kI;simp only [hwk,Option.getD_some];refine st ?_;refine cn rfl ?_ ?_
 ·intro c0'
  have hk:k < p.things.length:=by omega
  have hx:p.things.map Th.cells ≠ []:=by intro h;simp [List.map_eq_nil_iff] at h;simp [h] at hk
  have hth:=hp.ths _ (List.getElem_mem hk);obtain ⟨t,ht⟩:∃ t,p.things[k]=t:=⟨_,rfl⟩;rw [ht] at hth;refine st ?_;refine lv (Aa3 rfl rfl Ax9 (by omega) (by omega) (hS.ptrM hk)) ?_;refine lv (Aa5 rfl (fun w hm=>hS.loadX (by decide) hm (fun ob=>hbs ob _ hx) Ay5 hk ht)) ?_;refine zn (Lp Al0) (fun b3=>?_)
  refine sQ .here ?_;refine su ?_;refine cn rfl ?_ ?_
  ·intro c1'
   refine Ls ?_;refine Ac0 ?_;refine Aa4 ?_;refine st ?_;refine lA ?_;exact Ac2 (by omega) (by first | (simp [Al4 hk ht hwk,lookL,c1'];done) | simp [Al4 hk ht hwk,lookL,c1',ok60]) (by first | (simp [Al4 hk ht hwk,lookL,c1'];done) | (simp [Al4 hk ht hwk,lookL,c1',ok60];done) | (simp [Al4 hk ht hwk,lookL,c1',ok60];rfl)) (zE 42 rfl rfl (zS 0 rfl (zS 40 rfl (zS 41 rfl (Sub.nil _))))) .nil
  intro c1';refine Kd ?_;refine Ke ?_;refine Lx ?_
  apply Ak7 (J:=J1 _ _ _ _ _ _) 12 Ah8 (qC .nil)
  ·refine zw 0 ?_
   refine zw 1 ?_;refine zw 2 ?_;refine zw 3 ?_;refine zw 4 ?_;refine zw 5 ?_;refine Af7 (rs:=[6,10]) (by kernel_rfl) (by simp) (by kernel_rfl) (fun m hm=>?_)
   simp only [List.mem_cons,List.not_mem_nil,or_false] at hm
   rcases hm with rfl | rfl
   ·refine Xd rfl (zF rfl AB1) (fun w hm=>Ai7 p hp q cap wk t hth.1 hth.2 wk bv w (hm.at mm0)) (Aa2 (qC .nil) (qC .nil) rfl ?_)
    refine zw 7 ?_;refine zw 8 ?_;refine zw 9 ?_;refine zA 10 ?_;refine Xf rfl (Lp Ac6) (fun b4=>(Aa2 (qD .nil) (qC .nil) rfl ?_))
    refine zA 11 ?_;refine Xr rfl (Lt rfl rfl .here Ah6 rfl rfl) (Aa2 (qD .nil) (qC .nil) rfl ?_)
    refine zt ?_;refine zp 12 ?_;refine zd ?_;exact Af1 b4 (Ab3 _) (Pick.refl _)
   refine Xf rfl (Lp Ac6) (fun b4=>(Aa2 (qD .nil) (qC .nil) rfl ?_))
   refine zA 6 ?_;refine Xd rfl (zF rfl AB1) (fun w hm=>Ai7 p hp q cap wk t hth.1 hth.2 wk bv w (hm.at mm0)) (Aa2 (qD .nil) (qC .nil) rfl ?_)
   refine zw 7 ?_;refine zw 8 ?_;refine zw 9 ?_;refine zA 11 ?_;refine Xr rfl (Lt rfl rfl .here Ah6 rfl rfl) (Aa2 (qD .nil) (qC .nil) rfl ?_)
   refine zt ?_;refine zp 12 ?_;refine zd ?_;exact Af1 b4 (zS 5 rfl (zS 4 rfl (zS 58 rfl (zS 57 rfl (zS 49 rfl (zS 56 rfl (zS 55 rfl (zS 54 rfl (zS 53 rfl (zS 52 rfl (zS 51 rfl (zS 50 rfl (qU (qU (qU (Ab3 _)))))))))))))))) (qE .nil)
  refine J1.out (fun b4=>?_)
  refine st ?_;refine Xh (zF rfl Bi3) (fun w hm=>AC3 _ _ w) (fun e60 he60=>?_) (fun v60 hv60=>?_)
  ·obtain ⟨er60,rfl⟩:=Ac9 he60
   refine Aa1 ?_;refine Ad0 ?_;refine Aa1 ?_;refine Aa1 ?_;refine Ad0 ?_;refine Ae8 ?_;exact BQ4 (by rw [lookX,hl0,CJ5 hk ht hwk (by simp [lookL,c1',er60])])
  obtain ⟨ok60,rfl⟩:=Ad9 hv60;refine su ?_;refine Xs (Ab7 rfl rfl .here Ah6 rfl rfl) ?_;refine st ?_;refine lA ?_;exact Ac2 (by omega) (by first | (simp [Al4 hk ht hwk,lookL,c1'];done) | simp [Al4 hk ht hwk,lookL,c1',ok60]) (by first | (simp [Al4 hk ht hwk,lookL,c1'];done) | (simp [Al4 hk ht hwk,lookL,c1',ok60];done) | (simp [Al4 hk ht hwk,lookL,c1',ok60];rfl)) (zE 42 rfl rfl (zS 0 rfl (zS 40 rfl (zS 41 rfl (Sub.nil _))))) .nil
 intro c0';obtain rfl:k=p.things.length:=by omega
 rw [List.take_length] at hwk;refine Ls ?_;refine su ?_;refine Aa4 ?_;refine AC6 ?_;exact Cx9 (.r0 rfl) (a:=wk) (by rw [lookX,hl0,hwk]) rfl rfl
theorem Ay6 (p:Pr) (q:OA) (b o cap:Nat) (l:List Int) (q2:OA) (bb oo cap2:Nat) (W:World) (hS:Sl W q b o 9 (p.things.map Th.cells)) (hl:p.things.length≤100000000000) (hL:Sl W q2 bb oo 1 (l.map fun n=>[.I n])) (hl2:l.length≤100000) :
  CC 158 #[p.v q cap,.slice q2 l.length cap2] W (TryN misf (truthsX p l) (fun _ b=>.pointer (some ⟨b,0,none⟩)) (fun w b=>[(b,.cells (vwCells p q cap w).toArray 270)]) W):=by
 refine cS func158 ?_;refine st ?_;refine zn (Lm rfl) (fun b2=>?_)
 refine Xm (zF rfl BY6) (fun w hm=>AU1 p q b o cap l q2 bb oo cap2 w (hS.mono (by decide) hm (by simp)) hl (hL.mono (by decide) hm (by simp)) hl2) (fun e8 he8=>?_) (fun a8 ha8 b8=>?_)
 ·refine Aa1 ?_
  exact Ai5 (by simp [truthsX,he8])
 refine st ?_;refine Bk2 (zF rfl CR1) rfl rfl rfl (fun _=>.here) (fun w hm=>Bp3 p (An0 (Az1 ha8).1) q b o cap (0,0) _ w (hm.at mm0) (hS.mono (by decide) hm (by simp)) (hS.ne (by decide) hm mm0)) (fun e10 he10 o10=>?_) (fun a10 ha10=>?_)
 ·refine Aa1 ?_
  exact Ai5 (by simp [truthsX,ha8,he10])
 refine su ?_;exact AL3 (a:=a10) b8 rZ (by simp [truthsX,ha8,ha10]) rfl (qC .nil)
theorem Cb0 (b:Nat) (w:World):CallsD π 156 #[.pointer (some ⟨b,0,none⟩)] .returning w fun e u w'=>(∃ v,e = .returned v)∧u = .returning∧Mem w [] [] w':=by
 refine callsD_of_wpS func156 rfl fun c₀ cs hu=>?_
 refine wpS_seq ?_;refine wpS_region ?_;simp [wpOpsS,go_sem,recoverD,hu,ntmps156,Exit.thenS]
 refine wpS_of_wp ?_;refine BC0 20 [(0,.pointer (some ⟨b,0,none⟩)),(2,.nilIface)] w [] ?_ ?_
 · exact ⟨by simp,.consA (by simp) (.consA (by simp [Array.getElem?_append]) (Agree.nil _)),rfl,Mem.refl w⟩
 refine st ?_;refine lv (Ap3 rfl AL8) ?_;refine Ly rfl (fun h=>absurd h (by simp)) ?_;intro c0;clear c0;refine Kd ?_;intro a w2 s;exact ⟨s.defers,.returning,by rw [← hu],_,results_none rfl _ _ _,⟨_,rfl⟩,rfl,s.mem.drop⟩
theorem Ca9 (b:Nat) (k:Int) (x:Value) (w:World) (hb:w.heap[b]? = some (.cells #[x] 49 (0,0))):CallsD π 156 #[.pointer (some ⟨b,0,none⟩)] (.panicking [{ v:=misf k,recovered:=false }]) w fun e u w' =>
  (∃ v,e = .returned v)∧u = .panicking [{ v:=misf k,recovered:=true }]∧Mem w [(b,.cells #[.I k] 49 (0,0))] [] w':=by
 refine callsD_of_wpS func156 rfl fun c₀ cs hu=>?_
 refine wpS_seq ?_;refine wpS_region ?_;simp [wpOpsS,go_sem,recoverD,hu,ntmps156,Exit.thenS]
 refine wpS_of_wp ?_;refine BC0 20 [(0,.pointer (some ⟨b,0,none⟩)),(2,misf k)] w [(b,.cells #[x] 49 (0,0))] ?_ ?_
 · exact ⟨by simp,.consA (by simp) (.consA (by simp [Array.getElem?_append]) (Agree.nil _)),rfl,Mem.start hb⟩
 refine st ?_;refine lv (Aq6 rfl AL8) ?_;refine Ly rfl ?_ (fun h=>absurd h (by simp))
 intro c0;clear c0;refine st ?_;refine lv (Al8 rfl Bv8) ?_;refine zn (Lp Bt5) (fun b3=>?_)
 refine sQ .here ?_;refine st ?_;refine Ly rfl (fun h=>absurd h (by simp)) ?_;intro c1;clear c1;refine su ?_;refine Xs (Ab7 rfl rfl .here Af8 rfl rfl) ?_;refine Kf ?_;intro a w2 s;exact ⟨s.defers,.panicking [{ v:=misf k,recovered:=true }],rfl,_,results_none rfl _ _ _,⟨_,rfl⟩,rfl,s.mem.drop⟩
theorem Am8:Catches π 156 49 misf:=⟨Cb0,fun b k x w h=>Ca9 b k x w h⟩
theorem Cc2 (p:Pr) (n:Int) (q:OA) (b o cap:Nat) (W:World) (hS:Sl W q b o 9 (p.things.map Th.cells)) (hl:p.things.length≤100000000000) :
  CC 185 #[p.v q cap,.I n] W (Pure (.tuple #[b2v (shiftX p n).1,.I (shiftX p n).2]) W):=by
 refine Ae4 func185 rfl rfl ?_;refine st ?_;refine zn (Lm rfl) (fun b2=>?_)
 refine zn (Lp Ad6) (fun b4=>?_)
 refine zn (Lp Am5) (fun b5=>?_)
 refine RunL.defer rfl ?_;refine su ?_;refine zn (Lu (parts:=[(0,.tmp 7)]) rfl Af6 Al2 rfl rfl rfl rfl) (fun b8=>?_)
 refine Xm (zF rfl BY6) (fun w hm=>AU1 p q b o cap [_] _ _ _ _ w (hS.mono (by decide) hm (by simp)) hl (Sl.row1 (hm.at mm0)) (by simp)) (fun e9 he9=>?_) (fun a9 ha9 b9=>?_)
 ·refine Aa1 ?_
  exact At3 Am8 Ak9 (.there .here) (.r2 rfl (.agg rfl mm2 Ai6 rfl) (.one rfl mm1 Af8 rfl)) (by simp [b2v,shiftX,he9])
 have hp:=An0 (Az1 ha9).1;obtain ⟨k,rfl,hk⟩:=AJ9 ha9 (List.mem_singleton.2 rfl);obtain ⟨t,ht⟩:∃ t,p.things[k]=t:=⟨_,rfl⟩;have hth:=hp.ths _ (List.getElem_mem hk);rw [ht] at hth;refine su ?_;refine lv (Aa3 rfl rfl Ax9 (by omega) (by omega) (hS.ptrM hk)) ?_;refine lv (Aa5 rfl (fun w hm=>hS.loadX (by decide) hm (by simp) Ay5 hk ht)) ?_;refine zc (zF rfl By3) (fun w hm=>Av1 t hth.1 w) ?_;refine sQ (.there (.there (.there .here))) ?_;refine sQ (.there (.there .here)) ?_;refine su ?_;exact At2 Am8 Ak9 (.r2 rfl (.agg rfl mm3 Ai6 rfl) (.one rfl mm2 Af8 rfl)) (by simp [b2v,shiftX,ha9,Af0 hk ht])
theorem AF4 (p:Pr) (q:OA) (b o cap:Nat) (W:World) (hS:Sl W q b o 9 (p.things.map Th.cells)) (hl:p.things.length≤100000000000) :
  CC 110 #[p.v q cap] W (Pure (.tuple #[b2v (powerX p).1,.I (powerX p).2]) W):=by
 refine Ae4 func110 rfl rfl ?_;refine st ?_;refine zn (Lm rfl) (fun b1=>?_)
 refine zn (Lp Ad6) (fun b2=>?_)
 refine zn (Lp Am5) (fun b3=>?_)
 refine RunL.defer rfl ?_;refine su ?_;refine Xm (zF rfl By6) (fun w hm=>Ay6 p q b o cap [] _ 0 0 _ w (hS.mono (by decide) hm (by simp)) hl Sl.emp (by simp)) (fun e5 he5=>?_) (fun a5 ha5 b5=>?_)
 ·refine Aa1 ?_
  exact At3 Am8 Ak9 .here (.r2 rfl (.agg rfl mm1 Ai6 rfl) (.one rfl mm0 Af8 rfl)) (by simp [b2v,powerX,he5])
 refine su ?_;refine zc (zF rfl By7) (fun w hm=>Ay9 a5 w) ?_;refine sQ (.there (.there .here)) ?_;refine sQ (.there .here) ?_;refine su ?_;exact At2 Am8 Ak9 (.r2 rfl (.agg rfl mm2 Ai6 rfl) (.one rfl mm1 Af8 rfl)) (by simp [b2v,powerX,ha5])
theorem BP6 (p:Pr) (far:Int) (q:OA) (b o cap:Nat) (W:World) (hS:Sl W q b o 9 (p.things.map Th.cells)) (hl:p.things.length≤100000000000) :
  CC 209 #[p.v q cap,.I far] W (Pure (.tuple #[b2v (standsX p far).1,.I (standsX p far).2]) W):=by
 refine Ae4 func209 rfl rfl ?_;refine st ?_;refine zn (Lm rfl) (fun b2=>?_)
 refine zn (Lp Ad6) (fun b4=>?_)
 refine zn (Lp Am5) (fun b5=>?_)
 refine RunL.defer rfl ?_;refine su ?_;refine Xm (zF rfl BY6) (fun w hm=>AU1 p q b o cap [] _ 0 0 _ w (hS.mono (by decide) hm (by simp)) hl Sl.emp (by simp)) (fun e8 he8=>?_) (fun a8 ha8 b8=>?_)
 ·refine Aa1 ?_
  exact At3 Am8 Ak9 .here (.r2 rfl (.agg rfl mm1 Ai6 rfl) (.one rfl mm0 Af8 rfl)) (by simp [b2v,standsX,he8])
 have hp:=An0 (Az1 ha8).1;refine st ?_;refine Bs8 11 Ah8 (qF .nil) ?_;refine Xu (i:=0) rfl (Aa8 rfl) (PanQ.back rfl) (qF .nil) ?_;refine Xu (i:=1) rfl (Aa8 rfl) (PanQ.back rfl) (qF .nil) ?_;refine Xu (i:=2) rfl (Aa8 rfl) (PanQ.back rfl) (qF .nil) ?_;refine Xu (i:=3) rfl (Lo rfl As9) (PanQ.back rfl) (qF .nil) ?_;refine Xu (i:=4) rfl (Lo rfl Ci9) (PanQ.back rfl) (qF .nil) ?_;refine Xu (i:=5) rfl (Aa6 rfl mm0 Ae0 rfl) (PanQ.back rfl) (qF .nil) ?_;refine Xu (i:=6) rfl (Aa8 rfl) (PanQ.back rfl) (qF .nil) ?_;refine Xu (i:=7) rfl (Aa8 rfl) (PanQ.back rfl) (qF .nil) ?_;refine Xu (i:=8) rfl (Lo rfl As9) (PanQ.back rfl) (qF .nil) ?_;refine Xu (i:=9) rfl (Lo rfl Ci8) (PanQ.back rfl) (qF .nil) ?_;refine Xu (i:=10) rfl (Aa6 rfl mm0 Ae0 rfl) (PanQ.back rfl) (qF .nil) ?_;refine zt ?_;refine zq 11 rfl (zF rfl AU8) (fun w hm=>An8 _ _ _ w) ?_;refine zB 12 ?_;refine Xi rfl (zF rfl Bi3) (fun w hm=>AC3 _ _ w) (fun e21 he21=>?_) (fun v21 hv21=>(Ab2 ?_))
 ·obtain ⟨er21,rfl⟩:=Ac9 he21
  refine Ax8 (qU (qU (qU (Ab3 _)))) (qF .nil) ?_;refine Aa1 ?_;exact At3 Am8 Ak9 (.there .here) (.r2 rfl (.agg rfl mm2 Ai6 rfl) (.one rfl mm1 Af8 rfl)) (by simp [b2v,standsX,ha8,er21])
 obtain ⟨ok21,rfl⟩:=Ad9 hv21;refine zd ?_;refine AF9 ?_;refine st ?_;refine Bk2 (zF rfl CR1) rfl rfl rfl (fun _=>.here) (fun w hm=>Bp3 p hp q b o cap (0,0) _ w (hm.at mm0) (hS.mono (by decide) hm (by simp)) (hS.ne (by decide) hm mm0)) (fun e23 he23 o23=>?_) (fun a23 ha23=>?_)
 ·refine Aa1 ?_
  exact At3 Am8 Ak9 (.there .here) (.r2 rfl (.agg rfl mm2 Ai6 rfl) (.one rfl mm1 Af8 rfl)) (by simp [b2v,standsX,ha8,ok21,he23])
 have pb:=CJ6 hp ha23;have n1:=hp.n1;have hw:=ok21;simp only [within,Bool.and_eq_true,decide_eq_true_eq] at hw;refine st ?_;refine Ao2 17 Ah8 (qE (qD .nil)) ?_;refine zw 0 ?_;refine zw 1 ?_;refine zw 2 ?_;refine zv 3 rfl (Aa7 rfl rfl Ah4 (by decide) (by decide)) ?_;refine zw 4 ?_;refine zw 5 ?_;refine zv 6 rfl (Val.quo rfl rfl (by omega) (by omega) (Lq _ (Bi8 (by omega) (by omega) (by omega)))) ?_;refine zw 7 ?_;refine zw 8 ?_;refine zw 9 ?_;refine zv 10 rfl (Aa7 rfl rfl Ah4 (by decide) (by decide)) ?_;refine zw 11 ?_;refine zw 12 ?_;refine zv 13 rfl (Val.quo rfl rfl (by omega) (by omega) (Lq _ (Bi8 (by omega) (by omega) (by omega)))) ?_;refine zA 14 ?_;refine Xr rfl (Lt rfl rfl (.there (.there .here)) Ai6 rfl rfl) (Aa2 (qE (qD .nil)) (qE (qC .nil)) rfl ?_)
 refine zw 15 ?_;refine zA 16 ?_;refine Xr rfl (Lt rfl rfl (.there (.there .here)) Ae0 rfl rfl) (Aa2 (qE (qD .nil)) (qE (qC .nil)) rfl ?_)
 refine zt ?_;refine zp 17 ?_;refine zB 18 ?_;refine Xr rfl (Lt rfl rfl (.there (.there .here)) Ae0 rfl rfl) (Ab2 ?_)
 refine zB 19 ?_;refine Xr rfl (Lt rfl rfl (.there .here) Af8 rfl rfl) (Ab2 ?_)
 refine zd ?_;refine Ae5 ?_;refine su ?_;exact At2 Am8 Ak9 (.r2 rfl (.agg rfl mm2 Ai6 rfl) (.one rfl mm1 Af8 rfl)) (by simp [b2v,standsX,ha8,ok21,ha23])
theorem Co4 (p:Pr) (hp:p.Ok) (q:OA) (cap:Nat) (pw:Int×Int) (t:Th) (ht:t.Ok) (bv:Nat) (W:World) (hV:W.heap[bv]? = some (.cells (vwCells p q cap pw).toArray 270)) :
  CC 189 #[.pointer (some ⟨bv,0,none⟩),t.v] W (Pure (.bool (!levelS p t)) W):=by
 refine cS func189 ?_;refine st ?_;refine zn (Lm rfl) (fun b3=>?_)
 refine zc (zF rfl BY5) (fun w hm=>AN8 p hp q cap pw t ht bv w (hm.old_at hV (by simp))) ?_;exact rP
theorem BN9 (t:Th) (ht:t.Ok) (v:Value) (W:World) :
  CC 190 #[v,t.v] W (Pure (.bool (decide ((shift t).2 < 0))) W):=by
 refine cS func190 ?_;refine st ?_;refine zn (Lm rfl) (fun b3=>?_)
 refine zc (zF rfl By3) (fun w hm=>Av1 t ht w) ?_;refine lu (Val.field rfl BX8 rfl) ?_;exact rP
theorem Ca8 (p:Pr) (hp:p.Ok) (q:OA) (cap:Nat) (pw:Int×Int) (t:Th) (ht:t.Ok) (bv:Nat) (W:World) (hV:W.heap[bv]? = some (.cells (vwCells p q cap pw).toArray 270)) :
  CC 191 #[.pointer (some ⟨bv,0,none⟩),t.v] W (Pure (.bool (decide (2000 < (shift t).1∨pw.2 < (shift t).1 * p.near))) W):=by
 have n1:=hp.n1;have n2:=hp.n2;have n3:=hp.n3;obtain ⟨hsl,hsu⟩:=Cf7 ht;have mm:=CI7 hsl (show 0≤p.near by omega) (show p.near≤1073741824 by omega);refine cS func191 ?_;refine st ?_;refine zn (Lm rfl) (fun b3=>?_)
 refine zc (zF rfl By3) (fun w hm=>Av1 t ht w) ?_;refine lv (Val.field rfl BX9 rfl) ?_;refine Ab9 15 Ah8 (qC .nil) ?_;refine zw 0 ?_;refine zw 1 ?_;refine zw 2 ?_;refine Ap5 (dj:=11) rfl ?_ ?_
 ·intro g11
  have g11':=g11;clear g11;try simp only [nH] at g11'
  refine zN 3 ?_;refine zN 4 ?_;refine zN 5 ?_;refine zN 6 ?_;refine zN 7 ?_;refine zN 8 ?_;refine zN 9 ?_;refine zN 10 ?_;refine zN 11 ?_;refine zN 12 ?_;refine zN 13 ?_;refine zN 14 ?_;refine zt ?_;refine zB 15 ?_;refine Xx rfl (Ab2 ?_)
  refine zp 16 ?_;refine zp 17 ?_;refine zd ?_;refine su ?_;exact Aa9 rZ (by simp [g11'])
 intro g11;have g11':=g11;clear g11;try simp only [nH] at g11'
 refine zw 3 ?_;refine zw 4 ?_;refine zw 5 ?_;refine zw 6 ?_;refine zw 7 ?_;refine zv 8 rfl (Aa0 rfl hV (by simp) Ae0 rfl) ?_;refine zv 9 rfl (Ka rfl rfl (Lq _ ⟨by omega,by omega⟩)) ?_;refine zw 10 ?_;refine zw 11 ?_;refine zw 12 ?_;refine zv 13 rfl (Aa7 rfl rfl Ah4 (by decide) (by decide)) ?_;refine zv 14 rfl (Aa0 rfl hV (by simp) Ae0 rfl) ?_;refine zt ?_;refine zp 15 ?_;refine zp 16 ?_;refine zp 17 ?_;refine zd ?_;refine su ?_;exact Aa9 rZ (by simp [Int.not_lt.2 g11'])
theorem Cw4 (t:Th) (v:Value) (W:World):CC 192 #[v,t.v] W (Pure (.bool true) W):=by
 refine cS func192 ?_;refine st ?_;refine zn (Lm rfl) (fun b3=>?_)
 exact rP
theorem AJ2 (f:FuncId) (x:Value) (t:Th) (v:Value) (b6 b7:Nat) (W:World) (h6:W.heap[b6]? = some (.cells [x].toArray 271)) (h7:W.heap[b7]? = some (.cells t.cells.toArray 145)) (he:Enters π f)
  (hf:∀ w,Mem W [] [] w→CC f #[x,t.v] w (Pure v w)) :
  CC 194 #[.func (.func f) #[] #[],.pointer (some ⟨b6,0,none⟩),.pointer (some ⟨b7,0,none⟩)] W (Pure v W):=by
 refine cS func194 ?_;refine st ?_;refine lv (Aa0 rfl h6 (by simp) AW4 rfl) ?_;refine lv (Ag2 rfl h7 (by simp) Ay5 rfl) ?_;refine Xe (Ab4 rfl rfl he) (fun w hm=>hf w hm.drop) ?_;refine su ?_;exact rP
theorem AZ1 (l:List (Value×Bool)) (q:OA) (b o cap:Nat) (fn:FuncId) (cp:LV) (W:World) (hS:Sl W q b o 1 (l.map fun e=>[e.1])) (hl:l.length≤100000000000) (he:Enters π fn)
  (hf:∀ e∈l,∀ w,Mem W [] [] w→CC fn ([e.1]++cp).toArray w (Pure (.bool e.2) w)) :
  CC 193 #[.slice q l.length cap,.func (.func fn) #[] cp.toArray] W (Pure (.I (idxF (·.2) l)) W):=by
 refine cS func193 ?_;refine su ?_;refine Ac8 (l.length) (fun k q=>(8,.I (k:Int))::q) (fun _=>_) (fun _=>[]) (fun k=>(l.take k).any (·.2)=false) (by simp) rfl (zE 8 rfl rfl (zS 0 rfl (zS 1 rfl (zS 7 rfl (Sub.nil _))))) .nil ?_;intro k kN kI;refine st ?_;refine cn rfl ?_ ?_
 ·intro c0'
  have hk:k < l.length:=by omega
  refine st ?_;refine lv (Aa3 rfl rfl CD0 (by omega) (by omega) (hS.ptrM hk)) ?_;refine lv (Aa5 rfl (fun w hm=>hS.loadM1 (by decide) hm (by simp) Dn3 hk (v:=l[k].1) rfl)) ?_;refine Xe (Ab4 rfl rfl he) (fun w hm=>hf _ (List.getElem_mem hk) w hm.drop) ?_;refine st ?_;refine cn rfl ?_ ?_
  ·intro c1'
   refine su ?_;exact Aa9 rZ (by rw [AE2 (fun e:Value×Bool=>e.2) l k hk kI c1'])
  intro c1';refine st ?_;refine lA ?_;exact Ac2 (by omega) (AA1 (f:=fun e:Value×Bool=>e.2) hk kI c1') rfl (zE 8 rfl rfl (zS 0 rfl (zS 1 rfl (zS 7 rfl (Sub.nil _))))) .nil
 intro c0';obtain rfl:k=l.length:=by omega
 rw [List.take_length] at kI;refine Ls ?_;refine su ?_;refine Aa4 ?_;refine su ?_;exact Aa9 rZ (by rw [Ax0 (fun e:Value×Bool=>e.2) l kI])
theorem Bv3 (p:Pr) (hp:p.Ok) (q:OA) (cap:Nat) (pw:Int×Int) (t:Th) (ht:t.Ok) (bv bs b6 b7:Nat) (W:World) (hV:W.heap[bv]? = some (.cells (vwCells p q cap pw).toArray 270))
  (hR:W.heap[bs]? = some (.cells [.func (.func 189) #[] #[],.func (.func 190) #[] #[],.func (.func 191) #[] #[],.func (.func 192) #[] #[]].toArray 309))
  (h6:W.heap[b6]? = some (.cells [.pointer (some ⟨bv,0,none⟩)].toArray 271)) (h7:W.heap[b7]? = some (.cells t.cells.toArray 145)) :
  CC 193 #[.slice (some ⟨bs,0,none⟩) 4 4,.func (.func 194) #[] #[.pointer (some ⟨b6,0,none⟩),.pointer (some ⟨b7,0,none⟩)]] W
   (Pure (.I (idxF id [!levelS p t,decide ((shift t).2 < 0),decide (2000 < (shift t).1∨pw.2 < (shift t).1 * p.near),true])) W) :=
 AZ1 [(.func (.func 189) #[] #[],!levelS p t),(.func (.func 190) #[] #[],decide ((shift t).2 < 0)),(.func (.func 191) #[] #[],decide (2000 < (shift t).1∨pw.2 < (shift t).1 * p.near)),(.func (.func 192) #[] #[],true)]
  (some ⟨bs,0,none⟩) bs 0 4 194 [.pointer (some ⟨b6,0,none⟩),.pointer (some ⟨b7,0,none⟩)] W (Sl.row1 hR) (by simp) DD3 (fun e he w hm=>by
   simp only [List.mem_cons,List.not_mem_nil,or_false] at he
   rcases he with rfl | rfl | rfl | rfl
   · exact AJ2 _ _ t _ b6 b7 w (hm.old_at h6 (by simp)) (hm.old_at h7 (by simp)) DD8 (fun w2 hm2=>Co4 p hp q cap pw t ht bv w2 (hm2.old_at (hm.old_at hV (by simp)) (by simp)))
   · exact AJ2 _ _ t _ b6 b7 w (hm.old_at h6 (by simp)) (hm.old_at h7 (by simp)) DD7 (fun w2 hm2=>BN9 t ht _ w2)
   · exact AJ2 _ _ t _ b6 b7 w (hm.old_at h6 (by simp)) (hm.old_at h7 (by simp)) DD6 (fun w2 hm2=>Ca8 p hp q cap pw t ht bv w2 (hm2.old_at (hm.old_at hV (by simp)) (by simp)))
   · exact AJ2 _ _ t _ b6 b7 w (hm.old_at h6 (by simp)) (hm.old_at h7 (by simp)) DD5 (fun w2 hm2=>Cw4 t _ w2))
theorem BO6 (p:Pr) (n:Int) (q:OA) (b o cap:Nat) (W:World) (hS:Sl W q b o 9 (p.things.map Th.cells)) (hl:p.things.length≤100000000000) :
  CC 131 #[p.v q cap,.I n] W (Pure (.tuple #[.I (whyX p n).1,.I (whyX p n).2]) W):=by
 refine Ae4 func131 rfl rfl ?_;refine st ?_;refine zn (Lm rfl) (fun b2=>?_)
 refine zn (Lp Am5) (fun b5=>?_)
 refine RunL.defer rfl ?_;refine su ?_;refine zn (Lu (parts:=[(0,.tmp 12)]) rfl Af6 Al2 rfl rfl rfl rfl) (fun b13=>?_)
 refine Xm (zF rfl By6) (fun w hm=>Ay6 p q b o cap [_] _ _ _ _ w (hS.mono (by decide) hm (by simp)) hl (Sl.row1 (hm.at mm0)) (by simp)) (fun e14 he14=>?_) (fun a14 ha14 b14=>?_)
 ·refine Aa1 ?_
  exact At3 Am8 Ak9 (.there .here) (.r2 rfl (.tmp rfl) (.one rfl mm1 Af8 rfl)) (by simp [whyX,he14])
 obtain ⟨hp,hop,wb1,wb2,wb3⟩:=Ar7 ha14;obtain ⟨k,rfl,hk⟩:=AJ9 hop (List.mem_singleton.2 rfl);obtain ⟨t,ht⟩:∃ t,p.things[k]=t:=⟨_,rfl⟩;have hth:=hp.ths _ (List.getElem_mem hk);rw [ht] at hth;refine zn (Lp Cd9) (fun b6=>?_)
 refine sQ .here ?_;refine su ?_;refine lv (Aa3 rfl rfl Ax9 (by omega) (by omega) (hS.ptrM hk)) ?_;refine lv (Aa5 rfl (fun w hm=>hS.loadX (by decide) hm (by simp) Ay5 hk ht)) ?_;refine zn (Lp Al0) (fun b7=>?_)
 refine sQ .here ?_;refine nnx ?_;refine Lx ?_;refine Lx ?_
 apply Ar2 (J:=J1 _ _ _ _ _ _) 12 Ah8 (qF (qE .nil))
 ·refine zw 0 ?_
  refine zw 1 ?_;refine zw 2 ?_;refine zw 3 ?_;refine zw 4 ?_;refine zw 5 ?_;refine Af7 (rs:=[6,10]) (by kernel_rfl) (by simp) (by kernel_rfl) (fun m hm=>?_)
  simp only [List.mem_cons,List.not_mem_nil,or_false] at hm
  rcases hm with rfl | rfl
  ·refine Xd rfl (zF rfl AB1) (fun w hm=>Ai7 p hp q cap a14 t hth.1 hth.2 a14 _ w (hm.at mm2)) (Aa2 (qF (qE .nil)) (qF (qE .nil)) rfl ?_)
   refine zw 7 ?_;refine zw 8 ?_;refine zw 9 ?_;refine zA 10 ?_;refine Xf rfl (Lp Ac6) (fun b8=>(Aa2 (qD (qD (qD (qD (qD (qD .nil)))))) (qF (qE .nil)) rfl ?_))
   refine zA 11 ?_;refine Xr rfl (Lt rfl rfl .here Ah6 rfl rfl) (Aa2 (qD (qD (qD (qD (qD (qD .nil)))))) (qF (qE .nil)) rfl ?_)
   refine zt ?_;refine zp 12 ?_;refine zd ?_;refine Ae5 ?_;exact Af1 b8 (Ab3 _) (Pick.refl _)
  refine Xf rfl (Lp Ac6) (fun b8=>(Aa2 (qD (qD (qD (qD (qD (qD .nil)))))) (qF (qE .nil)) rfl ?_))
  refine zA 6 ?_;refine Xd rfl (zF rfl AB1) (fun w hm=>Ai7 p hp q cap a14 t hth.1 hth.2 a14 _ w (hm.at mm3)) (Aa2 (qD (qD (qD (qD (qD (qD .nil)))))) (qF (qE .nil)) rfl ?_)
  refine zw 7 ?_;refine zw 8 ?_;refine zw 9 ?_;refine zA 11 ?_;refine Xr rfl (Lt rfl rfl .here Ah6 rfl rfl) (Aa2 (qD (qD (qD (qD (qD (qD .nil)))))) (qF (qE .nil)) rfl ?_)
  refine zt ?_;refine zp 12 ?_;refine zd ?_;refine Ae5 ?_;exact Af1 b8 (zS 9 rfl (zS 8 rfl (zS 32 rfl (zS 31 rfl (zS 23 rfl (zS 30 rfl (zS 29 rfl (zS 28 rfl (zS 27 rfl (zS 26 rfl (zS 25 rfl (zS 24 rfl (qU (qU (qU (Ab3 _)))))))))))))))) (qF (qE (qC .nil)))
 refine J1.out (fun b8=>?_)
 refine st ?_;refine cn rfl ?_ ?_
 ·intro c0'
  refine st ?_;refine sQ (.there (.there (.there (.there (.there .here))))) ?_;refine su ?_;exact At2 Am8 Ak9 (.r2 rfl (.tmp rfl) (.one rfl mm5 Af8 rfl)) (by simp [whyX,ha14,Af0 hk ht,whyS,c0'])
 intro c0';refine st ?_;refine zn (Lu (parts:=[(0,.func 189),(1,.func 190),(2,.func 191),(3,.func 192)]) rfl CD0 CZ2 rfl rfl rfl rfl) (fun b34=>?_)
 refine Xe (zF rfl DD4) (fun w hm=>Bv3 p hp q cap a14 t hth.1 _ _ _ _ w (hm.at mm4) (hm.at mm0) (hm.at mm3) (hm.at mm2)) ?_;have ig:=Bg9 id [!levelS p t,decide ((shift t).2 < 0),decide (2000 < (shift t).1∨a14.2 < (shift t).1 * p.near),true];have il:=Bw5 id [!levelS p t,decide ((shift t).2 < 0),decide (2000 < (shift t).1∨a14.2 < (shift t).1 * p.near),true];simp only [List.length_cons,List.length_nil] at il;refine lA ?_;refine sQ (.there (.there (.there (.there (.there (.there .here)))))) ?_;refine su ?_;exact At2 Am8 Ak9 (.r2 rfl (.tmp rfl) (.one rfl mm6 Af8 rfl)) (by simp only [whyX,ha14,Af0 hk ht,whyS,c0',Bool.false_eq_true,if_false])
theorem Ar6 (p:Pr) (n:Int) (q:OA) (b o cap:Nat) (W:World) (hS:Sl W q b o 9 (p.things.map Th.cells)) (hl:p.things.length≤100000000000) :
  CC 134 #[p.v q cap,.I n] W (Pure (.tuple #[b2v (distX p n).1,.I (distX p n).2]) W):=by
 refine Ae4 func134 rfl rfl ?_;refine st ?_;refine zn (Lm rfl) (fun b2=>?_)
 refine zn (Lp Ad6) (fun b4=>?_)
 refine zn (Lp Am5) (fun b5=>?_)
 refine RunL.defer rfl ?_;refine su ?_;refine zn (Lu (parts:=[(0,.tmp 16)]) rfl Af6 Al2 rfl rfl rfl rfl) (fun b17=>?_)
 refine Xm (zF rfl By6) (fun w hm=>Ay6 p q b o cap [_] _ _ _ _ w (hS.mono (by decide) hm (by simp)) hl (Sl.row1 (hm.at mm0)) (by simp)) (fun e18 he18=>?_) (fun a18 ha18 b18=>?_)
 ·refine Aa1 ?_
  exact At3 Am8 Ak9 (.there .here) (.r2 rfl (.agg rfl mm2 Ai6 rfl) (.one rfl mm1 Af8 rfl)) (by simp [distX,he18,b2v])
 obtain ⟨hp,hop,wb1,wb2,wb3⟩:=Ar7 ha18;obtain ⟨k,rfl,hk⟩:=AJ9 hop (List.mem_singleton.2 rfl);obtain ⟨t,ht⟩:∃ t,p.things[k]=t:=⟨_,rfl⟩;have hth:=hp.ths _ (List.getElem_mem hk);rw [ht] at hth;have n1:=hp.n1;have n2:=hp.n2;have n3:=hp.n3;refine su ?_;refine lv (Aa3 rfl rfl Ax9 (by omega) (by omega) (hS.ptrM hk)) ?_;refine lv (Aa5 rfl (fun w hm=>hS.loadX (by decide) hm (by simp) Ay5 hk ht)) ?_;refine zn (Lp Al0) (fun b7=>?_)
 refine sQ .here ?_;refine nnx ?_;refine Lx ?_
 apply Ar2 (J:=J1 _ _ _ _ _ _) 12 Ah8 (qF (qE .nil))
 ·refine zw 0 ?_
  refine zw 1 ?_;refine zw 2 ?_;refine zw 3 ?_;refine zw 4 ?_;refine zw 5 ?_;refine Af7 (rs:=[6,10]) (by kernel_rfl) (by simp) (by kernel_rfl) (fun m hm=>?_)
  simp only [List.mem_cons,List.not_mem_nil,or_false] at hm
  rcases hm with rfl | rfl
  ·refine Xd rfl (zF rfl AB1) (fun w hm=>Ai7 p hp q cap a18 t hth.1 hth.2 a18 _ w (hm.at mm1)) (Aa2 (qF (qE .nil)) (qF (qE .nil)) rfl ?_)
   refine zw 7 ?_;refine zw 8 ?_;refine zw 9 ?_;refine zA 10 ?_;refine Xf rfl (Lp Ac6) (fun b8=>(Aa2 (qD (qD (qD (qD (qD (qD .nil)))))) (qF (qE .nil)) rfl ?_))
   refine zA 11 ?_;refine Xr rfl (Lt rfl rfl .here Ah6 rfl rfl) (Aa2 (qD (qD (qD (qD (qD (qD .nil)))))) (qF (qE .nil)) rfl ?_)
   refine zt ?_;refine zp 12 ?_;refine zd ?_;refine Ae5 ?_;exact Af1 b8 (Ab3 _) (Pick.refl _)
  refine Xf rfl (Lp Ac6) (fun b8=>(Aa2 (qD (qD (qD (qD (qD (qD .nil)))))) (qF (qE .nil)) rfl ?_))
  refine zA 6 ?_;refine Xd rfl (zF rfl AB1) (fun w hm=>Ai7 p hp q cap a18 t hth.1 hth.2 a18 _ w (hm.at mm2)) (Aa2 (qD (qD (qD (qD (qD (qD .nil)))))) (qF (qE .nil)) rfl ?_)
  refine zw 7 ?_;refine zw 8 ?_;refine zw 9 ?_;refine zA 11 ?_;refine Xr rfl (Lt rfl rfl .here Ah6 rfl rfl) (Aa2 (qD (qD (qD (qD (qD (qD .nil)))))) (qF (qE .nil)) rfl ?_)
  refine zt ?_;refine zp 12 ?_;refine zd ?_;refine Ae5 ?_;exact Af1 b8 (zS 9 rfl (zS 8 rfl (zS 36 rfl (zS 35 rfl (zS 27 rfl (zS 34 rfl (zS 33 rfl (zS 32 rfl (zS 31 rfl (zS 30 rfl (zS 29 rfl (zS 28 rfl (qU (qU (qU (Ab3 _)))))))))))))))) (qF (qE (qC .nil)))
 refine J1.out (fun b8=>?_)
 refine st ?_;refine Xh (zF rfl Bi3) (fun w hm=>AC3 _ _ w) (fun e38 he38=>?_) (fun v38 hv38=>?_)
 ·obtain ⟨er38,rfl⟩:=Ac9 he38
  refine Aa1 ?_;exact At3 Am8 Ak9 (.there (.there (.there (.there .here)))) (.r2 rfl (.agg rfl mm5 Ai6 rfl) (.one rfl mm4 Af8 rfl)) (by simp [distX,ha18,Af0 hk ht,er38,b2v])
 obtain ⟨ok38,rfl⟩:=Ad9 hv38;refine su ?_;refine cn rfl ?_ ?_
 ·intro c0'
  refine su ?_;refine lv (Lr (parts:=[(0,.tmp 43),(1,.tmp 45)]) rfl Ad6 Ak3 rfl) ?_;refine sQ (.there (.there (.there (.there (.there .here))))) ?_;refine sQ (.there (.there (.there (.there .here)))) ?_;refine su ?_;exact At2 Am8 Ak9 (.r2 rfl (.agg rfl mm5 Ai6 rfl) (.one rfl mm4 Af8 rfl)) (by simp [distX,ha18,Af0 hk ht,ok38,c0',b2v])
 intro c0';have sb:=AP2 (Bd3 ok38).1;refine su ?_;refine zc (zF rfl BY9) (fun w hm=>AN1 t hth.1 w) ?_;refine zn (Lp Ac6) (fun b10=>?_)
 refine sQ .here ?_;refine su ?_;refine lu (Aa7 rfl rfl Ah4 (by decide) (by decide)) ?_;refine cn rfl ?_ ?_
 ·intro c1'
  refine Ao2 7 Ah8 (qG .nil) ?_;refine zw 0 ?_;refine zw 1 ?_;refine zw 2 ?_;refine zv 3 rfl (Aa7 rfl rfl Ah4 (by decide) (by decide)) ?_;refine zw 4 ?_;refine zv 5 rfl (Aa7 rfl rfl Ah4 (by decide) (by decide)) ?_;refine zw 6 ?_;refine zt ?_;refine zo 7 rfl (Val.quo rfl rfl (by omega) (by omega) (Lq _ (Bi8 (by omega) (by omega) (by omega)))) ?_;refine zp 8 ?_;refine zd ?_;refine Ae5 ?_;refine Ke ?_;refine Lx ?_
  apply Ar2 (J:=J2 _ _ _ _ _ _) 30 Ah8 (qG .nil)
  ·refine zw 0 ?_
   refine zw 1 ?_;refine zw 2 ?_;refine zw 3 ?_;refine zw 4 ?_;refine zw 5 ?_;refine zw 6 ?_;refine zw 7 ?_;refine zw 8 ?_;refine zw 9 ?_;refine zv 10 rfl (Lr (parts:=[(0,.tmp 73),(1,.tmp 78)]) rfl Ac6 Ah9 rfl) ?_;refine zw 11 ?_;refine zw 12 ?_;refine zw 13 ?_;refine zv 14 rfl (Aa7 rfl rfl Ah4 (by decide) (by decide)) ?_;refine zw 15 ?_;refine zv 16 rfl (Aa7 rfl rfl Ah4 (by decide) (by decide)) ?_;refine zw 17 ?_;refine zv 18 rfl (Kb rfl rfl (Lq _ ⟨by omega,by omega⟩)) ?_;refine zv 19 rfl (Val.quo rfl rfl (by omega) (by omega) (Lq _ (Bi8 (by omega) (by omega) (by omega)))) ?_;refine zv 20 rfl (Kb rfl rfl (Lq _ (Cj8 (by omega) (by omega) (by omega)))) ?_;refine zw 21 ?_;refine zv 22 rfl (Lr (parts:=[(0,.tmp 89),(1,.tmp 90)]) rfl Ac6 Ah9 rfl) ?_;refine Af7 (rs:=[23,28]) (by kernel_rfl) (by simp) (by kernel_rfl) (fun m hm=>?_)
   simp only [List.mem_cons,List.not_mem_nil,or_false] at hm
   rcases hm with rfl | rfl
   ·refine Xf rfl (Lu (parts:=[(0,.tmp 91)]) rfl AG4 Ac6 rfl rfl rfl rfl) (fun b92=>(Aa2 (qG (qC .nil)) (qD (qD (qD (qD (qD (qD (qD (qD .nil)))))))) rfl ?_))
    refine Af7 (rs:=[24,28]) (by kernel_rfl) (by simp) (by kernel_rfl) (fun m hm=>?_)
    simp only [List.mem_cons,List.not_mem_nil,or_false] at hm
    rcases hm with rfl | rfl
    ·refine Xd rfl (zF rfl Au4) (fun w hm=>Af5 (_,_) [(_,_)] _ _ _ _ w (Lv (hm.at mm0) rfl) (by simp)) (Aa2 (qG (qC .nil)) (qG (qC .nil)) rfl ?_)
     refine zw 25 ?_;refine zw 26 ?_;refine zw 27 ?_;refine zA 28 ?_;refine Xf rfl (Lp Ac6) (fun b13=>(Aa2 (qD (qD (qD (qD (qD (qD (qD (qD (qD .nil))))))))) (qG (qC .nil)) rfl ?_))
     refine zA 29 ?_;refine Xr rfl (Lt rfl rfl .here Ah6 rfl rfl) (Aa2 (qD (qD (qD (qD (qD (qD (qD (qD (qD .nil))))))))) (qG (qC .nil)) rfl ?_)
     refine zt ?_;refine zp 30 ?_;refine zd ?_;refine Ae5 ?_;exact Ai1 b92 b13 (Ab3 _) (Pick.refl _)
    refine Xf rfl (Lp Ac6) (fun b13=>(Aa2 (qD (qD (qD (qD (qD (qD (qD (qD (qD .nil))))))))) (qG (qC .nil)) rfl ?_))
    refine zA 24 ?_;refine Xd rfl (zF rfl Au4) (fun w hm=>Af5 (_,_) [(_,_)] _ _ _ _ w (Lv (hm.at mm1) rfl) (by simp)) (Aa2 (qD (qD (qD (qD (qD (qD (qD (qD (qD .nil))))))))) (qG (qC .nil)) rfl ?_)
    refine zw 25 ?_;refine zw 26 ?_;refine zw 27 ?_;refine zA 29 ?_;refine Xr rfl (Lt rfl rfl .here Ah6 rfl rfl) (Aa2 (qD (qD (qD (qD (qD (qD (qD (qD (qD .nil))))))))) (qG (qC .nil)) rfl ?_)
    refine zt ?_;refine zp 30 ?_;refine zd ?_;refine Ae5 ?_;exact Ai1 b92 b13 (zS 14 rfl (zS 13 rfl (zS 95 rfl (zS 94 rfl (zS 68 rfl (zS 93 rfl (zS 92 rfl (zS 91 rfl (zS 90 rfl (zS 89 rfl (zS 88 rfl (zS 87 rfl (zS 86 rfl (zS 85 rfl (zS 84 rfl (zS 83 rfl (zS 82 rfl (zS 81 rfl (zS 80 rfl (zS 79 rfl (zS 78 rfl (zS 77 rfl (zS 76 rfl (zS 75 rfl (zS 74 rfl (zS 73 rfl (zS 72 rfl (zS 71 rfl (zS 70 rfl (zS 69 rfl (qU (qU (qU (qU (qU (qU (qU (qT (Ab3 _))))))))))))))))))))))))))))))))))))))) (qG (qE .nil))
   refine Xf rfl (Lp Ac6) (fun b13=>(Aa2 (qD (qD (qD (qD (qD (qD (qD (qD .nil)))))))) (qG .nil) rfl ?_))
   refine zA 23 ?_;refine Xf rfl (Lu (parts:=[(0,.tmp 91)]) rfl AG4 Ac6 rfl rfl rfl rfl) (fun b92=>(Aa2 (qC (qD (qD (qD (qD (qD (qD (qD (qD .nil))))))))) (qD (qD (qD (qD (qD (qD (qD (qD .nil)))))))) rfl ?_))
   refine zA 24 ?_;refine Xd rfl (zF rfl Au4) (fun w hm=>Af5 (_,_) [(_,_)] _ _ _ _ w (Lv (hm.at mm0) rfl) (by simp)) (Aa2 (qC (qD (qD (qD (qD (qD (qD (qD (qD .nil))))))))) (qG (qC .nil)) rfl ?_)
   refine zw 25 ?_;refine zw 26 ?_;refine zw 27 ?_;refine zA 29 ?_;refine Xr rfl (Lt rfl rfl (.there .here) Ah6 rfl rfl) (Aa2 (qC (qD (qD (qD (qD (qD (qD (qD (qD .nil))))))))) (qG (qC .nil)) rfl ?_)
   refine zt ?_;refine zp 30 ?_;refine zd ?_;refine Ae5 ?_;exact Ai1 b92 b13 (zS 14 rfl (zS 13 rfl (zS 95 rfl (zS 94 rfl (zS 68 rfl (zS 93 rfl (zS 92 rfl (zS 91 rfl (zS 90 rfl (zS 89 rfl (zS 88 rfl (zS 87 rfl (zS 86 rfl (zS 85 rfl (zS 84 rfl (zS 83 rfl (zS 82 rfl (zS 81 rfl (zS 80 rfl (zS 79 rfl (zS 78 rfl (zS 77 rfl (zS 76 rfl (zS 75 rfl (zS 74 rfl (zS 73 rfl (zS 72 rfl (zS 71 rfl (zS 70 rfl (zS 69 rfl (qU (qU (qU (qU (qU (qU (qU (qT (Ab3 _))))))))))))))))))))))))))))))))))))))) (qD (qG (qC .nil)))
  refine J2.out (fun b92 b13=>?_)
  refine su ?_;refine zc (zF rfl By7) (fun w hm=>Ay9 (_,_) w) ?_;refine sQ (.there (.there (.there (.there (.there (.there (.there (.there .here)))))))) ?_;refine sQ (.there (.there (.there (.there (.there (.there (.there .here))))))) ?_;refine su ?_;exact At2 Am8 Ak9 (.r2 rfl (.agg rfl mm8 Ai6 rfl) (.one rfl mm7 Af8 rfl)) (by simp [distX,ha18,Af0 hk ht,ok38,c0',b2v,c1'];exact ⟨rfl,rfl⟩)
 intro c1';refine Kd ?_;refine Ke ?_;refine Lx ?_
 apply Ar2 (J:=J2 _ _ _ _ _ _) 30 Ah8 (qG .nil)
 ·refine zw 0 ?_
  refine zw 1 ?_;refine zw 2 ?_;refine zw 3 ?_;refine zw 4 ?_;refine zw 5 ?_;refine zw 6 ?_;refine zw 7 ?_;refine zw 8 ?_;refine zw 9 ?_;refine zv 10 rfl (Lr (parts:=[(0,.tmp 73),(1,.tmp 78)]) rfl Ac6 Ah9 rfl) ?_;refine zw 11 ?_;refine zw 12 ?_;refine zw 13 ?_;refine zv 14 rfl (Aa7 rfl rfl Ah4 (by decide) (by decide)) ?_;refine zw 15 ?_;refine zv 16 rfl (Aa7 rfl rfl Ah4 (by decide) (by decide)) ?_;refine zw 17 ?_;refine zv 18 rfl (Kb rfl rfl (Lq _ ⟨by omega,by omega⟩)) ?_;refine zv 19 rfl (Val.quo rfl rfl (by omega) (by omega) (Lq _ (Bi8 (by omega) (by omega) (by omega)))) ?_;refine zv 20 rfl (Kb rfl rfl (Lq _ (Cj8 (by omega) (by omega) (by omega)))) ?_;refine zw 21 ?_;refine zv 22 rfl (Lr (parts:=[(0,.tmp 89),(1,.tmp 90)]) rfl Ac6 Ah9 rfl) ?_;refine Af7 (rs:=[23,28]) (by kernel_rfl) (by simp) (by kernel_rfl) (fun m hm=>?_)
  simp only [List.mem_cons,List.not_mem_nil,or_false] at hm
  rcases hm with rfl | rfl
  ·refine Xf rfl (Lu (parts:=[(0,.tmp 91)]) rfl AG4 Ac6 rfl rfl rfl rfl) (fun b92=>(Aa2 (qG (qC .nil)) (qD (qD (qD (qD (qD (qD (qD (qD .nil)))))))) rfl ?_))
   refine Af7 (rs:=[24,28]) (by kernel_rfl) (by simp) (by kernel_rfl) (fun m hm=>?_)
   simp only [List.mem_cons,List.not_mem_nil,or_false] at hm
   rcases hm with rfl | rfl
   ·refine Xd rfl (zF rfl Au4) (fun w hm=>Af5 (_,_) [(_,_)] _ _ _ _ w (Lv (hm.at mm0) rfl) (by simp)) (Aa2 (qG (qC .nil)) (qG (qC .nil)) rfl ?_)
    refine zw 25 ?_;refine zw 26 ?_;refine zw 27 ?_;refine zA 28 ?_;refine Xf rfl (Lp Ac6) (fun b13=>(Aa2 (qD (qD (qD (qD (qD (qD (qD (qD (qD .nil))))))))) (qG (qC .nil)) rfl ?_))
    refine zA 29 ?_;refine Xr rfl (Lt rfl rfl .here Ah6 rfl rfl) (Aa2 (qD (qD (qD (qD (qD (qD (qD (qD (qD .nil))))))))) (qG (qC .nil)) rfl ?_)
    refine zt ?_;refine zp 30 ?_;refine zd ?_;refine Ae5 ?_;exact Ai1 b92 b13 (Ab3 _) (Pick.refl _)
   refine Xf rfl (Lp Ac6) (fun b13=>(Aa2 (qD (qD (qD (qD (qD (qD (qD (qD (qD .nil))))))))) (qG (qC .nil)) rfl ?_))
   refine zA 24 ?_;refine Xd rfl (zF rfl Au4) (fun w hm=>Af5 (_,_) [(_,_)] _ _ _ _ w (Lv (hm.at mm1) rfl) (by simp)) (Aa2 (qD (qD (qD (qD (qD (qD (qD (qD (qD .nil))))))))) (qG (qC .nil)) rfl ?_)
   refine zw 25 ?_;refine zw 26 ?_;refine zw 27 ?_;refine zA 29 ?_;refine Xr rfl (Lt rfl rfl .here Ah6 rfl rfl) (Aa2 (qD (qD (qD (qD (qD (qD (qD (qD (qD .nil))))))))) (qG (qC .nil)) rfl ?_)
   refine zt ?_;refine zp 30 ?_;refine zd ?_;refine Ae5 ?_;exact Ai1 b92 b13 (zS 14 rfl (zS 13 rfl (zS 95 rfl (zS 94 rfl (zS 68 rfl (zS 93 rfl (zS 92 rfl (zS 91 rfl (zS 90 rfl (zS 89 rfl (zS 88 rfl (zS 87 rfl (zS 86 rfl (zS 85 rfl (zS 84 rfl (zS 83 rfl (zS 82 rfl (zS 81 rfl (zS 80 rfl (zS 79 rfl (zS 78 rfl (zS 77 rfl (zS 76 rfl (zS 75 rfl (zS 74 rfl (zS 73 rfl (zS 72 rfl (zS 71 rfl (zS 70 rfl (zS 69 rfl (qU (qU (qU (qU (qU (qU (qU (qT (Ab3 _))))))))))))))))))))))))))))))))))))))) (qG (qE .nil))
  refine Xf rfl (Lp Ac6) (fun b13=>(Aa2 (qD (qD (qD (qD (qD (qD (qD (qD .nil)))))))) (qG .nil) rfl ?_))
  refine zA 23 ?_;refine Xf rfl (Lu (parts:=[(0,.tmp 91)]) rfl AG4 Ac6 rfl rfl rfl rfl) (fun b92=>(Aa2 (qC (qD (qD (qD (qD (qD (qD (qD (qD .nil))))))))) (qD (qD (qD (qD (qD (qD (qD (qD .nil)))))))) rfl ?_))
  refine zA 24 ?_;refine Xd rfl (zF rfl Au4) (fun w hm=>Af5 (_,_) [(_,_)] _ _ _ _ w (Lv (hm.at mm0) rfl) (by simp)) (Aa2 (qC (qD (qD (qD (qD (qD (qD (qD (qD .nil))))))))) (qG (qC .nil)) rfl ?_)
  refine zw 25 ?_;refine zw 26 ?_;refine zw 27 ?_;refine zA 29 ?_;refine Xr rfl (Lt rfl rfl (.there .here) Ah6 rfl rfl) (Aa2 (qC (qD (qD (qD (qD (qD (qD (qD (qD .nil))))))))) (qG (qC .nil)) rfl ?_)
  refine zt ?_;refine zp 30 ?_;refine zd ?_;refine Ae5 ?_;exact Ai1 b92 b13 (zS 14 rfl (zS 13 rfl (zS 95 rfl (zS 94 rfl (zS 68 rfl (zS 93 rfl (zS 92 rfl (zS 91 rfl (zS 90 rfl (zS 89 rfl (zS 88 rfl (zS 87 rfl (zS 86 rfl (zS 85 rfl (zS 84 rfl (zS 83 rfl (zS 82 rfl (zS 81 rfl (zS 80 rfl (zS 79 rfl (zS 78 rfl (zS 77 rfl (zS 76 rfl (zS 75 rfl (zS 74 rfl (zS 73 rfl (zS 72 rfl (zS 71 rfl (zS 70 rfl (zS 69 rfl (qU (qU (qU (qU (qU (qU (qU (qT (Ab3 _))))))))))))))))))))))))))))))))))))))) (qD (qG (qC .nil)))
 refine J2.out (fun b92 b13=>?_)
 refine su ?_;refine zc (zF rfl By7) (fun w hm=>Ay9 (_,_) w) ?_;refine sQ (.there (.there (.there (.there (.there (.there (.there (.there .here)))))))) ?_;refine sQ (.there (.there (.there (.there (.there (.there (.there .here))))))) ?_;refine su ?_;exact At2 Am8 Ak9 (.r2 rfl (.agg rfl mm8 Ai6 rfl) (.one rfl mm7 Af8 rfl)) (by simp [distX,ha18,Af0 hk ht,ok38,c0',b2v,Int.not_lt.2 c1'];refine ⟨rfl,?_⟩;show p.far=min p.far p.far;omega)
theorem Ao7 (n lo hi:Int) (W:World):CC 183 #[.I n,.I lo,.I hi] W (Pure (.bool (within n lo hi)) W):=by
 refine cS func183 ?_;refine st ?_
 refine Ab0 (dj:=10) (dp:=14) 4 rfl (fun g10=>by
  refine sv ?_;exact zs g10
 ) (fun g10=>by
   iterate 3 refine nQ ?_
   refine sv ?_;exact zs g10
 ) ?_
 refine su ?_;exact rP
theorem Av3 (x1 x2 x3 x4:Int) (W:World):CC 181 #[.agg #[.I x1,.I x2,.I x3,.I x4]] W (Pure (.agg #[.I x1,.I x2,.I x3,.I x4]) W):=by
 refine cS func181 ?_;refine st ?_;refine zn (Lm rfl) (fun b1=>?_)
 refine zn (Lp Ay0) (fun b2=>?_)
 refine lv (Lr (parts:=[(0,.tmp 4),(1,.tmp 6),(2,.tmp 8),(3,.tmp 10)]) rfl Ay0 Bo3 rfl) ?_;refine sQ .here ?_;refine su ?_;exact Aa9 (.r1 rfl (.agg rfl mm0 AF6 rfl)) (by first | rfl | simp)
theorem Ca0 (x1 x2 x3 x4:Int) (W:World):CC 204 #[.agg #[.I x1,.I x2,.I x3,.I x4]] W (Pure (.agg #[.I x1,.I x2,.I x3,.I x4]) W):=by
 refine cS func204 ?_;refine st ?_;refine zn (Lm rfl) (fun b1=>?_)
 refine zn (Lp An3) (fun b2=>?_)
 iterate 4 refine lu (Aa7 rfl rfl Ah3 (by decide) (by decide)) ?_
 refine lv (Lr (parts:=[(0,.tmp 4),(1,.tmp 6),(2,.tmp 8),(3,.tmp 10)]) rfl An3 AG8 rfl) ?_;refine sQ .here ?_;refine su ?_;exact Aa9 (.r1 rfl (.agg rfl mm0 Bl5 rfl)) (by first | rfl | simp)
theorem AX2 (b:Int×Int) (W:World):CC 212 #[.agg #[.I b.1,.I b.2]] W (Pure (.bool (decide (b.2 < b.1))) W):=by
 refine cS func212 ?_;refine st ?_;refine zn (Lm rfl) (fun b1=>?_)
 exact rP
theorem Bf3 (b:Int×Int) (W:World):CC 213 #[.agg #[.I b.1,.I b.2]] W (Pure (.agg #[.I b.1,.I b.2]) W):=by
 refine cS func213 ?_;refine st ?_;refine zn (Lm rfl) (fun b1=>?_)
 refine zn (Lp Ad6) (fun b2=>?_)
 refine lv (Lr (parts:=[(0,.tmp 4),(1,.tmp 6)]) rfl Ad6 Ak3 rfl) ?_;refine sQ .here ?_;refine su ?_;exact Aa9 (.r1 rfl (.agg rfl mm0 Ai6 rfl)) (by first | rfl | simp)
theorem BW9 (n:Int) (W:World):CC 242 #[.I n] W (Pure (.bool (badM n)) W):=by
 refine cS func242 ?_;refine st ?_;refine zc (zF rfl Bi4) (fun w hm=>Ao7 _ _ _ w) ?_;exact rP
theorem AP8 (c:Cd) (q:OA) (cap:Nat) (n:Int) (b:Nat) (W:World) (hb:W.heap[b]? = some (.cells (c.cells q cap).toArray 28)):CC 182 #[.I n,.pointer (some ⟨b,0,none⟩)] W (Pure (.bool (badT c n)) W):=by
 refine cS func182 ?_;refine su ?_;refine lv (Aa0 rfl hb (by simp) Ae0 rfl) ?_;refine zc (zF rfl Bi4) (fun w hm=>Ao7 _ _ _ w) ?_;exact rP
theorem AZ2 (f:Int→Bool) (l:List Int) (q:OA) (b o cap:Nat) (fn:FuncId) (cp:LV) (W:World) (hS:Sl W q b o 1 (l.map fun n=>[.I n])) (hl:l.length≤100000000000) (he:Enters π fn)
  (hf:∀ t∈l,∀ w,Mem W [] [] w→CC fn ([Value.int .i64 t]++cp).toArray w (Pure (.bool (f t)) w)) :
  CC 243 #[.slice q l.length cap,.func (.func fn) #[] cp.toArray] W (Pure (.I (idxF f l)) W):=by
 refine cS func243 ?_;refine su ?_;refine Ac8 (l.length) (fun k q=>(8,.I (k:Int))::q) (fun _=>_) (fun _=>[]) (fun k=>(l.take k).any f=false) (by simp) rfl (zE 8 rfl rfl (zS 0 rfl (zS 1 rfl (zS 7 rfl (Sub.nil _))))) .nil ?_;intro k kN kI;refine st ?_;refine cn rfl ?_ ?_
 ·intro c0'
  have hk:k < l.length:=by omega
  refine st ?_;refine lv (Aa3 rfl rfl Af6 (by omega) (by omega) (hS.ptrM hk)) ?_;refine lv (Aa5 rfl (fun w hm=>hS.loadM1 (by decide) hm (by simp) Ae0 hk (v:=.I l[k]) rfl)) ?_;refine Xe (Ab4 rfl rfl he) (fun w hm=>hf _ (List.getElem_mem hk) w hm.drop) ?_;refine st ?_;refine cn rfl ?_ ?_
  ·intro c1'
   refine su ?_;exact Aa9 rZ (by rw [AE2 f l k hk kI c1'])
  intro c1';refine st ?_;refine lA ?_;exact Ac2 (by omega) (AA1 hk kI c1') rfl (zE 8 rfl rfl (zS 0 rfl (zS 1 rfl (zS 7 rfl (Sub.nil _))))) .nil
 intro c0';obtain rfl:k=l.length:=by omega
 rw [List.take_length] at kI;refine Ls ?_;refine su ?_;refine Aa4 ?_;refine su ?_;exact Aa9 rZ (by rw [Ax0 f l kI])
theorem An6 (f:Int→Bool) (l:List Int) (q:OA) (b o cap:Nat) (fn:FuncId) (cp:LV) (W:World) (hS:Sl W q b o 1 (l.map fun n=>[.I n])) (hl:l.length≤100000000000) (he:Enters π fn)
  (hf:∀ t∈l,∀ w,Mem W [] [] w→CC fn ([Value.int .i64 t]++cp).toArray w (Pure (.bool (f t)) w)) :
  CC 184 #[.slice q l.length cap,.func (.func fn) #[] cp.toArray] W (Pure (.bool (l.any f)) W):=by
 refine cS func184 ?_;refine st ?_;refine zc (zF rfl DB1) (fun w hm=>AZ2 f l q b o cap fn cp w (hS.mono (by decide) hm (by simp)) hl he (fun t ht w2 hm2=>hf t ht w2 ((hm.drop).pass hm2))) ?_;exact Aa9 rZ (by rw [← AK6])
theorem AX5 (c:Cd) (q:OA) (b o cap:Nat) (W:World) (hS:Sl W q b o 9 (c.p.things.map Th.cells)) (hl:c.p.things.length≤100000000000) :
  CC 180 #[c.v q cap] W (Pure (.tuple #[.bool (cardIs c),.I (powerX c.p).2]) W):=by
 refine cS func180 ?_;refine st ?_;refine zn (Lm rfl) (fun b1=>?_)
 refine zc (zF rfl Bz0) (fun w hm=>AF4 c.p q b o cap w (hS.mono (by decide) hm (by simp)) hl) ?_;refine zn (Lp Ad6) (fun b4=>?_)
 refine sQ .here ?_;refine su ?_;refine zc (zF rfl Bi4) (fun w hm=>Ao7 _ _ _ w) ?_
 refine Ab0 (dj:=18) (dp:=22) 4 rfl (fun g18=>by
  refine su ?_;refine Xe (zF rfl Bi4) (fun w hm=>Ao7 _ _ _ w) ?_;refine sv ?_;exact zs g18
 ) (fun g18=>by
   iterate 3 refine nQ ?_
   refine sv ?_;exact zs g18
 ) ?_
 refine st ?_
 refine Ab0 (dj:=23) (dp:=27) 4 rfl (fun g23=>by
  refine su ?_;refine Xe (zF rfl Bi4) (fun w hm=>Ao7 _ _ _ w) ?_;refine sv ?_;exact zs g23
 ) (fun g23=>by
   iterate 3 refine nQ ?_
   refine sv ?_;exact zs g23
 ) ?_
 refine su ?_
 refine Ab0 (dj:=32) (dp:=40) 8 rfl (fun g32=>by
  refine lv (Lo rfl Az8) ?_;refine lv (Lo rfl Az9) ?_;refine lv (Aa6 rfl mm1 Ae0 rfl) ?_;refine lv (Lo rfl Az8) ?_;refine lv (Lo rfl Al7) ?_;refine Xa (Aa6 rfl mm1 Ae0 rfl) ?_;refine sv ?_;exact zs g32
 ) (fun g32=>by
   iterate 7 refine nQ ?_
   refine sv ?_;exact zs g32
 ) ?_
 refine st ?_
 refine Ab0 (dj:=41) (dp:=46) 5 rfl (fun g41=>by
  refine lv (Lo rfl Az8) ?_;refine lv (Lo rfl Al7) ?_;refine Xa (Aa6 rfl mm1 Ae0 rfl) ?_;refine sv ?_;exact zs g41
 ) (fun g41=>by
   iterate 4 refine nQ ?_
   refine sv ?_;exact zs g41
 ) ?_
 refine st ?_
 refine Ab0 (dj:=49) (dp:=51) 2 rfl (fun g49=>by
  refine sv ?_;exact zs g49
 ) (fun g49=>by
   refine nQ ?_;refine sv ?_;exact zs g49
 ) ?_
 refine st ?_
 refine Ab0 (dj:=52) (dp:=54) 2 rfl (fun g52=>by
  refine sv ?_;exact zs g52
 ) (fun g52=>by
   refine nQ ?_;refine sv ?_;exact zs g52
 ) ?_
 refine st ?_
 refine Ab0 (dj:=55) (dp:=68) 13 rfl (fun g55=>by
  refine su ?_;refine zn (Lu (parts:=[(0,.tmp 57),(1,.tmp 59),(2,.tmp 61),(3,.tmp 63)]) rfl Af6 Al2 rfl rfl rfl rfl) (fun b64=>?_)
  refine Xe (zF rfl BZ0) (fun w hm=>An6 badM [c.prism,c.squeeze,c.front,c.deep] (some ⟨b64,0,none⟩) b64 0 4 242 [] w (Sl.row1 (hm.at mm0)) (by simp) DB2 (fun n _ w2 _=>BW9 n w2)) ?_;refine sv ?_;exact Ac1 (Kg rfl (qU (qU (qU (qS (Ad2 rfl (by rw [g55]) (Ab3 _))))))) (.cons _ (List.Sublist.refl _))
 ) (fun g55=>by
   iterate 12 refine nQ ?_
   refine sv ?_;exact zs g55
 ) ?_
 refine su ?_;exact Aa9 (.r2 rfl (.tmp rfl) (.tmp rfl)) (by simp [cardIs,sizesM,eyesM,Bool.and_assoc])
theorem De3 (p:Pr) (k:Nat):mIdx (entsV (seenK p k)) (k:Int)=none:=CJ3 fun e he=>by
 obtain ⟨x,hx,rfl⟩:=List.mem_map.1 he;obtain ⟨j,rfl,hj,_⟩:=AP4 p k x hx;simp only
 omega
theorem Ar4 (c:Cd) (l:List Tr) (k:Int) (hop:openM c l=k) (hk:k ≠ 0) (q:OA) (b o cap:Nat) (q2:OA) (b2 o2 cap2:Nat) (W:World) (hS:Sl W q b o 9 (c.p.things.map Th.cells)) (hl:c.p.things.length≤100000000000)
  (hL:Sl W q2 b2 o2 4 (l.map Tr.cells)) (hl2:l.length≤100000):CC 127 #[c.v q cap,.slice q2 l.length cap2] W (Pure (.tuple #[.pointer none,.I k]) W):=by
 refine cS func127 ?_;refine st ?_;refine zn (Lm rfl) (fun b2=>?_)
 refine zc (zF rfl CS0) (fun w hm=>AX5 c q b o cap w (hS.mono (by decide) hm (by simp)) hl) ?_;refine cn rfl ?_ ?_
 ·intro c0'
  refine su ?_;exact Aa9 (.r2 rfl (.tmp rfl) (.tmp rfl)) (by rw [← hop];simp [openM,c0'])
 intro c0';have hci:=Ax2 c0';have k2:=hci.1.c2;refine su ?_;refine Ac8 (l.length) (fun k_ q=>(27,.I (k_:Int))::q) (fun _=>_) (fun _=>[]) (fun k_=>(l.take k_).all (trIs c)=true) (by simp) rfl (zE 27 rfl rfl (zS 2 rfl (zS 4 rfl (zS 5 rfl (zS 7 rfl (zS 25 rfl (zS 26 rfl (Sub.nil _)))))))) (qC .nil) ?_;intro k_ k_N k_I;refine st ?_;refine cn rfl ?_ ?_
 ·intro c1'
  have hkl:k_ < l.length:=by omega
  obtain ⟨t,ht⟩:∃ t,l[k_]=t:=⟨_,rfl⟩;refine st ?_;refine lv (Aa3 rfl rfl Bd9 (by omega) (by omega) (hL.ptrM hkl)) ?_;refine lv (Aa5 rfl (fun w hm=>hL.loadX (by decide) hm (by simp) Bl5 hkl ht)) ?_;refine zn (Lp An3) (fun b9=>?_)
  refine sQ .here ?_;refine su ?_;refine zc (zF rfl By5) (fun w hm=>Av3 _ _ _ _ w) ?_;refine zn (Lp Ay0) (fun b10=>?_)
  refine sQ .here ?_;refine st ?_;refine lv (At1 rfl Ah3) ?_;refine zc (zF rfl BZ0) (fun w hm=>An6 (badT c) [t.ll,t.lr,t.rl,t.rr] (some ⟨b10,0,none⟩) b10 0 4 182 [_] w (Sl.row1 (hm.at mm0)) (by simp) CR9 (fun n _ w2 hm2=>AP8 c q cap n _ w2 (hm2.old_at (hm.at mm2) (by simp)))) ?_
  refine Ac5 (dj:=37) (dp:=49) 12 rfl (fun g37=>by
   have g37':=g37;try simp only [nH] at g37'
   obtain ⟨t1,t2,t3,t4,t5,t6,t7,t8⟩:=CW3 g37';refine lu (Aa7 rfl rfl Ah3 (by decide) (by decide)) ?_;refine lu (Aa7 rfl rfl Ah3 (by decide) (by decide)) ?_;refine lA ?_;refine lu (Aa7 rfl rfl Ah3 (by decide) (by decide)) ?_;refine lu (Aa7 rfl rfl Ah3 (by decide) (by decide)) ?_;refine Xa (Kb rfl rfl (Lq _ ⟨by omega,by omega⟩)) ?_;refine sv ?_;exact zs g37
  ) (fun g37=>by
    iterate 11 refine nQ ?_
    refine sv ?_;exact zs g37
  ) ?_
  refine st ?_;refine cn rfl ?_ ?_
  ·intro c2'
   have htr:trIs c t=false:=by (first | (simp [trIs] at c2' ⊢;grind) | simp_all [trIs])
   refine su ?_;exact Aa9 (.r2 rfl (.tmp rfl) (.tmp rfl)) (by rw [← hop];simp [openM,c0',DH7 (f:=trIs c) hkl (by rw [ht];exact htr)])
  intro c2';have htr:trIs c t=true:=by simp_all [trIs]
  refine st ?_;refine lA ?_;exact Ac2 (by omega) (Dm2 hkl k_I (by rw [ht];exact htr)) rfl (zE 27 rfl rfl (zS 2 rfl (zS 4 rfl (zS 5 rfl (zS 7 rfl (zS 25 rfl (zS 26 rfl (Sub.nil _)))))))) (qH .nil)
 intro c1';obtain rfl:k_=l.length:=by omega
 rw [List.take_length] at k_I;refine Ls ?_;refine su ?_;refine Aa4 ?_;refine Ke ?_;refine Lx ?_;refine csr ?_;refine vQ ?_;refine vQ ?_;refine nnx ?_;have h2k:(powerX c.p).2=k:=by rw [← hop];simp [openM,c0',k_I]
 refine Ly rfl ?_ (fun h=>absurd h (by simp [h2k,hk]))
 intro c3;clear c3;refine su ?_;exact Aa9 (.r2 rfl (.tmp rfl) (.tmp rfl)) (by rw [← hop];simp [openM,c0',k_I])
abbrev cdO (c:Cd) (q:OA) (cap m:Nat):Obj:=.cells (cdCells c q cap m).toArray 234 (0,0)
theorem AE0 (c:Cd) (l:List Tr) (h:openM c l=0) (q:OA) (b o cap:Nat) (q2:OA) (b2 o2 cap2:Nat) (W:World) (hS:Sl W q b o 9 (c.p.things.map Th.cells)) (hl:c.p.things.length≤100000000000)
  (hL:Sl W q2 b2 o2 4 (l.map Tr.cells)) (hl2:l.length≤100000):CC 127 #[c.v q cap,.slice q2 l.length cap2] W
  (News (fun b:Nat×Nat=>.tuple #[.pointer (some ⟨b.1,0,none⟩),.I 0]) (fun b=>[(b.1,cdO c q cap b.2),(b.2,mapO (mEnts c.p))]) W):=by
 obtain ⟨h1,h2,h3⟩:=AK0 h;have hci:=Ax2 h1;have k2:=hci.1.c2;refine cS func127 ?_;refine st ?_;refine zn (Lm rfl) (fun b2=>?_)
 refine zc (zF rfl CS0) (fun w hm=>AX5 c q b o cap w (hS.mono (by decide) hm (by simp)) hl) ?_;refine Ly rfl (fun h=>absurd h (by simp [h1])) ?_;intro c0;clear c0;refine su ?_;refine Ac8 (l.length) (fun k_ q=>(27,.I (k_:Int))::q) (fun _=>_) (fun _=>[]) (fun _=>True) trivial rfl (zE 27 rfl rfl (zS 2 rfl (zS 4 rfl (zS 5 rfl (zS 7 rfl (zS 25 rfl (zS 26 rfl (Sub.nil _)))))))) (qC .nil) ?_;intro k_ k_N k_I;clear k_I;refine st ?_;refine cn rfl ?_ ?_
 ·intro c1'
  have hkl:k_ < l.length:=by omega
  obtain ⟨t,ht⟩:∃ t,l[k_]=t:=⟨_,rfl⟩;have htr:trIs c t=true:=by rw [← ht];exact List.all_eq_true.1 h2 _ (List.getElem_mem hkl)
  obtain ⟨⟨t1,t2,t3,t4,t5,t6,t7,t8⟩,t9⟩:=Bd1 htr;refine st ?_;refine lv (Aa3 rfl rfl Bd9 (by omega) (by omega) (hL.ptrM hkl)) ?_;refine lv (Aa5 rfl (fun w hm=>hL.loadX (by decide) hm (by simp) Bl5 hkl ht)) ?_;refine zn (Lp An3) (fun b9=>?_)
  refine sQ .here ?_;refine su ?_;refine zc (zF rfl By5) (fun w hm=>Av3 _ _ _ _ w) ?_;refine zn (Lp Ay0) (fun b10=>?_)
  refine sQ .here ?_;refine st ?_;refine lv (At1 rfl Ah3) ?_;refine zc (zF rfl BZ0) (fun w hm=>An6 (badT c) [t.ll,t.lr,t.rl,t.rr] (some ⟨b10,0,none⟩) b10 0 4 182 [_] w (Sl.row1 (hm.at mm0)) (by simp) CR9 (fun n _ w2 hm2=>AP8 c q cap n _ w2 (hm2.old_at (hm.at mm2) (by simp)))) ?_
  refine Ac5 (dj:=37) (dp:=49) 12 rfl (fun g37=>by
   have g37':=g37;try simp only [nH] at g37'
   refine lu (Aa7 rfl rfl Ah3 (by decide) (by decide)) ?_;refine lu (Aa7 rfl rfl Ah3 (by decide) (by decide)) ?_;refine lA ?_;refine lu (Aa7 rfl rfl Ah3 (by decide) (by decide)) ?_;refine lu (Aa7 rfl rfl Ah3 (by decide) (by decide)) ?_;refine Xa (Kb rfl rfl (Lq _ ⟨by omega,by omega⟩)) ?_;refine sv ?_;exact zs g37
  ) (fun g37=>by
    iterate 11 refine nQ ?_
    refine sv ?_;exact zs g37
  ) ?_
  refine st ?_;refine Ly rfl (fun h=>absurd h (by simp_all [trIs])) ?_;intro c2;clear c2;refine st ?_;refine lA ?_;exact Ac2 (by omega) trivial rfl (zE 27 rfl rfl (zS 2 rfl (zS 4 rfl (zS 5 rfl (zS 7 rfl (zS 25 rfl (zS 26 rfl (Sub.nil _)))))))) (qH .nil)
 intro c1';obtain rfl:k_=l.length:=by omega
 refine Ls ?_;refine su ?_;refine Aa4 ?_;refine st ?_;refine Ly rfl (fun h=>absurd h (by simp [h3])) ?_;intro c3;clear c3;refine su ?_;refine zn New.makeMap (fun b55=>?_)
 refine lv (Lr (parts:=[(0,.tmp 54),(1,.tmp 55)]) rfl CZ4 Cq9 rfl) ?_;refine zn (Lm rfl) (fun b57=>?_)
 refine Ac8 (c.p.things.length) (fun k q=>(62,.I (k:Int))::q) (fun _=>_) (fun k=>[(b55,mapO (entsV (seenK c.p k)))]) (fun _=>True) trivial rfl (zE 62 rfl rfl (zS 2 rfl (zS 12 rfl (zS 61 rfl (Sub.nil _))))) (qD (qE .nil)) ?_;intro k kN kI;clear kI;refine st ?_;refine cn rfl ?_ ?_
 ·intro c4'
  have hk:k < c.p.things.length:=by omega
  refine su ?_;refine zc (zF rfl CT2) (fun w hm=>BO6 c.p _ q b o cap w (hS.mono (by decide) hm (by simp)) hl) ?_;refine cn rfl ?_ ?_
  ·intro c5'
   refine su ?_;refine zc (zF rfl DE0) (fun w hm=>Cc2 c.p _ q b o cap w (hS.mono (by decide) hm (by simp)) hl) ?_;refine zn (Lp Ad6) (fun b16=>?_)
   refine sQ .here ?_;refine st ?_;refine Ab9 10 Ah8 (qC (qD (qD .nil))) ?_;refine zw 0 ?_;refine zw 1 ?_;refine zw 2 ?_;refine zw 3 ?_;refine zw 4 ?_;refine zw 5 ?_;refine zw 6 ?_;refine zw 7 ?_;refine zw 8 ?_;refine zv 9 rfl (Lr (parts:=[(0,.tmp 87),(1,.tmp 89)]) rfl Ai2 An9 rfl) ?_;refine zt ?_;refine zB 10 ?_;refine Xr rfl (Cw8 rfl rfl rfl (.there .here) Az3 (De3 c.p k)) (Ab2 ?_)
   refine zd ?_;refine st ?_;refine lA ?_;exact Ac2 (by omega) trivial rfl (zE 62 rfl rfl (zS 2 rfl (zS 12 rfl (zS 61 rfl (Sub.nil _))))) (.cons (.there .here) (by first | (rw [AP3 c5'];simp [entsV];rfl) | (rw [AP3 c5'];simp [entsV]) | (rw [Cg0 c5'])) (qD (qD .nil)))
  intro c5';refine st ?_;refine lA ?_;exact Ac2 (by omega) trivial rfl (zE 62 rfl rfl (zS 2 rfl (zS 12 rfl (zS 61 rfl (Sub.nil _))))) (.cons .here (by first | (rw [AP3 c5'];simp [entsV];rfl) | (rw [AP3 c5'];simp [entsV]) | (rw [Cg0 c5'])) (qE .nil))
 intro c4';obtain rfl:k=c.p.things.length:=by omega
 refine Ls ?_;refine su ?_;refine Aa4 ?_;refine su ?_;exact Ld (chg:=[]) (.r2 rfl (.tmp rfl) (.tmp rfl)) (fun _ hm=>⟨(b57,b55),rfl,hm.pick (qD (qC .nil))⟩)
end Go.Q
