/- Printed by our programs. -/
import Derived.Test.YtbflhimigloapaaGreatDoorS03
import Derived.RecoverIn
import Derived.Test.YtbflhimigloapaaGreatDoorProg
import Derived.Shelf.Strings.Builder1
import Derived.Shelf.Strings.Builder2
import Derived.Shelf.Strings.OnBuilder
import Derived.Shelf.Strings.BuilderF
import Derived.Shelf.Strings.BuilderK
import Derived.Shelf.Strconv.Atoi
import Derived.Shelf.Strconv.Itoa0
import Derived.Shelf.Strconv.Itoa1
import Derived.Shelf.LaysM
import Derived.Shelf.Strconv.Itoa2
import Derived.Shelf.Strconv.Itoa3
import Derived.Shelf.Strconv.AtoiErrFast
import Derived.Shelf.Strconv.ParseIntEmpty
import Derived.Shelf.Strconv.AtoiFail
import Derived.Shelf.Strconv.Clone
import Derived.Shelf.Strconv.SyntaxError
import Derived.Shelf.LaysC
import Derived.Shelf.Strconv.ToError
import Derived.Shelf.Strconv.AtoiErr
import Derived.Shelf.Strconv.ErrVar
import Derived.Shelf.Strconv.Lower
import Derived.Shelf.Strconv.ParseUint10
import Derived.Shelf.Strconv.ParseUint10Empty
import Derived.Shelf.Strconv.ParseUint10Any
import Derived.Shelf.Strconv.ParseInt10
import Derived.Shelf.Strconv.AtoiLong
import Derived.Shelf.Strconv.AtoiInnerAll
import Derived.Shelf.Strconv.RangeError
import Derived.Shelf.Strconv.ToErrorRange
import Derived.Shelf.Strconv.AtoiAll
import Derived.Shelf.Strconv.ErrVarAll
import Derived.Shelf.Strings.Search1
import Derived.Shelf.Strings.Search2
import Derived.Shelf.Strings.Search3
import Derived.Shelf.Strings.Cut
import Derived.Shelf.Strings.Count
import Derived.Shelf.Strings.Shaped
import Derived.Shelf.GgClosure.StringsIndexFunc
import Derived.Ground.GgwProg
import Derived.Shelf.GgClosure.StringsIndexFuncTop
import Derived.Shelf.Strings.Split
import Derived.Shelf.Unicode.DecodeSlow
import Derived.Shelf.Unicode.DecodeAny
import Derived.Shelf.Strings.FuncGrows
import Derived.Shelf.Slices.Turned
import Derived.Lib.AtoiAllCases
import Derived.Lib.SplitLaws
set_option linter.unusedSimpArgs false
set_option linter.unusedVariables false
set_option linter.unusedSectionVars false
open Go.Proofs.Tryz
open Go.Proofs.Tryz renaming prog→π
namespace Go.Hp
open Go Go.Eng Go.Pw1
theorem AF7 (m:MxA):(fsX m.pl).length=m.cards.length:=by simp [fsX,MxA.pl]
theorem ne_eq (m:MxA):neX m.pl=(esX m).length:=rfl
theorem Cu0 (m:MxA):∀ f∈fsX m.pl,f < 2 ^ (esX m).length:=fun f hf=>by
 obtain ⟨t,_,rfl⟩:=List.mem_map.1 hf
 have:=Cj0 t (entriesX m.pl.boxes) 0
 rw [Nat.zero_add] at this;exact this
abbrev hpV (m:MxA) (bh bm:Nat) (x y:Eng.Own):Obj:=.cells [.slice m.q m.bxs.length m.cap,.slice m.q2 m.cards.length m.cap2,.slice (ownQ x) (esX m).length (ownC x),.slice (ownQ y) (fsX m.pl).length (ownC y),.map (some bm)].toArray 203 (0,0)
theorem Du9 {sz n:Nat} {x:Eng.Own} {xs:LV} (h:OwnOk sz x n xs) (hn:0 < n):ownQ x=some ⟨ownK x,0,none⟩:=by
 obtain ⟨b,c,r,rfl,_⟩:=h.has hn;rfl
theorem CD7 {l:List Nat} {y:Eng.Own} {w:World} {k:Nat} (hy:OwnOk 1 y k (setsV l).flatten) (hm:∀ b o,(b,o)∈ownB 122 y (setsV l).flatten→w.heap[b]? = some o):Sl w (ownQ y) (ownK y) 0 1 (setsV l) :=
 Am3 (f:=fun (x:Nat)=>[Value.int .u64 (x:Int)]) (fun _=>rfl) (by decide) hy hm
theorem Ct8 {m:MxA} {bh bm:Nat} {x y:Eng.Own} {w:World} (hX:mixedX m.pl=true) (hv:w.heap[bh]? = some (hpV m bh bm x y)) (hy:OwnOk 1 y (fsX m.pl).length (setsV (fsX m.pl)).flatten) (hm:∀ b o,(b,o)∈ownB 122 y (setsV (fsX m.pl)).flatten→w.heap[b]? = some o) :
  HpAt w bh bm m (esX m).length (ownQ x) (ownC x) (fsX m.pl) (ownQ y) (ownK y) (ownC y):=by
 obtain ⟨h1,h2,h3⟩:=Ao8 hX;exact ⟨hv,CD7 hy hm,AF7 m,by rw [AF7];exact h2,h3,Cu0 m⟩
abbrev HW (m:MxA):={ z:Hz×List ((Nat×Nat)×Value) // OwnOk 3 z.1.x (esX m).length ((esX m).map En.cells).flatten∧OwnOk 1 z.1.y (fsX m.pl).length (setsV (fsX m.pl)).flatten∧GoodM (esX m).length (fsX m.pl) z.2 }
theorem CV3 (m:MxA) (hX:mixedX m.pl=true):cntX m.pl≤429981696:=by
 obtain ⟨h1,h2,h3⟩:=Ao8 hX;exact CV4 (by rw [ne_eq];exact h3) (by rw [AF7];exact h2) 0
end Go.Hp
namespace Go.Q
open Go Go.Eng Go.Hp Go.Pw1
theorem AY1 (m:MxA) (hsm:MSm m) (W:World) (hM:MOk W m):CC 18 #[m.v] W (Pure (.tuple #[.I (CountX m.pl).1,.I (CountX m.pl).2]) W):=by
 cases hX:mixedX m.pl with
 | false =>
   have e:CountX m.pl=(0,1):=by unfold CountX;rw [hX];rfl
   rw [e];refine cS func18 ?_;refine st ?_;refine zn (Lm rfl) (fun b1=>?_)
   refine zc (zF rfl AX7) (fun w hm=>Bf0 m hsm w (hM.mono0 hm) hX) ?_;refine Ly rfl ?_ (fun h=>absurd h (by simp))
   intro c0;clear c0;refine su ?_;exact Aa9 (.r2 rfl (.tmp rfl) (.tmp rfl)) (by first | rfl | simp)
 | true =>
   have e:CountX m.pl=((cntX m.pl:Int),0):=by unfold CountX;rw [hX];rfl
   rw [e];refine cS func18 ?_;refine st ?_;refine zn (Lm rfl) (fun b1=>?_)
   refine Xl (zF rfl AX7) (fun w hm=>Aw8 m hsm w (hM.mono0 hm) hX) (fun z8=>?_)
   obtain ⟨⟨bh8,bm8,x8,y8⟩,hx8,hy8⟩:=z8;dsimp only;refine st ?_;refine Ly rfl (fun h=>absurd h (by simp)) ?_;intro c0;clear c0;refine st ?_;refine Xj (zF rfl Bq6) (fun w hm=>Ao1 bh8 w) (fun b15=>?_)
   refine Aw0 (Ab4 rfl rfl AO2) rfl rfl rfl (fun _=>(.there (.there (.there (.there .here))))) (fun w hm=>AK2 (fsX m.pl).length 0 m (esX m).length _ _ (fsX m.pl) _ _ _ (by omega) 0 (by decide) [] Bb1 bh8 bm8 b15.1 b15.2 w (Ct8 hX (hm.at mm3) hy8 (fun b o h=>hm.at (.tail _ (.tail _ (.tail _ (.tail _ (.tail _ ((by first | exact List.mem_append_left _ h | exact List.mem_append_right _ (List.mem_append_left _ h)))))))))) (hm.at mm4) (hm.at mm1) (hm.at mm0)) (fun x16 hx16=>?_)
   refine su ?_;exact Aa9 (.r2 rfl (.tmp rfl) (.tmp rfl)) (by first | rfl | simp)
theorem Db0 (m:MxA) (hsm:MSm m) (W:World) (hM:MOk W m) (hw:waysE m.pl ≠ 0):CC 124 #[m.v] W (Pure (.tuple #[.pointer none,.I (waysE m.pl)]) W):=by
 cases hX:mixedX m.pl with
 | false =>
   have e1:waysE m.pl=1:=by unfold waysE;rw [hX];rfl
   rw [e1];refine cS func124 ?_;refine st ?_;refine zn (Lm rfl) (fun b1=>?_)
   refine zc (zF rfl AX7) (fun w hm=>Bf0 m hsm w (hM.mono0 hm) hX) ?_;refine Ly rfl ?_ (fun h=>absurd h (by simp))
   intro c0;clear c0;refine su ?_;exact Aa9 (.r2 rfl (.tmp rfl) (.tmp rfl)) (by first | rfl | simp)
 | true =>
   have e0:cntX m.pl=0:=by
    unfold waysE at hw;rw [if_pos hX] at hw
    by_cases h:cntX m.pl=0
    · exact h
    · exact absurd (if_neg h) hw
   have e1:waysE m.pl=4:=by unfold waysE;rw [if_pos hX,if_pos e0]
   have e2:cntL (esX m).length (List.drop 0 (fsX m.pl)) 0=0:=e0;rw [e1];refine cS func124 ?_;refine st ?_;refine zn (Lm rfl) (fun b1=>?_)
   refine Xl (zF rfl AX7) (fun w hm=>Aw8 m hsm w (hM.mono0 hm) hX) (fun z8=>?_)
   obtain ⟨⟨bh8,bm8,x8,y8⟩,hx8,hy8⟩:=z8;dsimp only;refine st ?_;refine Ly rfl (fun h=>absurd h (by simp)) ?_;intro c0;clear c0;refine st ?_;refine Xj (zF rfl Bq6) (fun w hm=>Ao1 bh8 w) (fun b17=>?_)
   refine Aw0 (Ab4 rfl rfl AO2) rfl rfl rfl (fun _=>(.there (.there (.there (.there .here))))) (fun w hm=>AK2 (fsX m.pl).length 0 m (esX m).length _ _ (fsX m.pl) _ _ _ (by omega) 0 (by decide) [] Bb1 bh8 bm8 b17.1 b17.2 w (Ct8 hX (hm.at mm3) hy8 (fun b o h=>hm.at (.tail _ (.tail _ (.tail _ (.tail _ (.tail _ ((by first | exact List.mem_append_left _ h | exact List.mem_append_right _ (List.mem_append_left _ h)))))))))) (hm.at mm4) (hm.at mm1) (hm.at mm0)) (fun x18 hx18=>?_)
   refine st ?_;refine Ly rfl ?_ (fun h=>absurd h (by rw [e2];simp))
   intro c1;clear c1;refine su ?_;exact Aa9 (.r2 rfl (.tmp rfl) (.tmp rfl)) (by first | rfl | simp)
theorem Bm4 (m:MxA) (hsm:MSm m) (W:World) (hM:MOk W m) (hw:waysE m.pl=0):CC 124 #[m.v] W
  (News (fun z:HW m=>.tuple #[.pointer (some ⟨z.1.1.bh,0,none⟩),.I 0]) (fun z=>[(z.1.1.bh,hpV m z.1.1.bh z.1.1.bm z.1.1.x z.1.1.y),(z.1.1.bm,mapG z.1.2)] ++
   (ownB 122 z.1.1.y (setsV (fsX m.pl)).flatten++(ownB 205 z.1.1.x ((esX m).map En.cells).flatten++[]))) W):=by
 have hX:mixedX m.pl=true:=by
  cases h:mixedX m.pl with
  | true=>rfl
  | false=>unfold waysE at hw;rw [h] at hw;cases hw
 have e0:cntX m.pl ≠ 0:=fun h=>by
  unfold waysE at hw;rw [if_pos hX,if_pos h] at hw
  cases hw
 have e2:cntL (esX m).length (List.drop 0 (fsX m.pl)) 0 ≠ 0:=e0;refine cS func124 ?_;refine st ?_;refine zn (Lm rfl) (fun b1=>?_)
 refine Xl (zF rfl AX7) (fun w hm=>Aw8 m hsm w (hM.mono0 hm) hX) (fun z8=>?_)
 obtain ⟨⟨bh8,bm8,x8,y8⟩,hx8,hy8⟩:=z8;dsimp only;refine st ?_;refine Ly rfl (fun h=>absurd h (by simp)) ?_;intro c0;clear c0;refine st ?_;refine Xj (zF rfl Bq6) (fun w hm=>Ao1 bh8 w) (fun b17=>?_)
 refine Aw0 (Ab4 rfl rfl AO2) rfl rfl rfl (fun _=>(.there (.there (.there (.there .here))))) (fun w hm=>AK2 (fsX m.pl).length 0 m (esX m).length _ _ (fsX m.pl) _ _ _ (by omega) 0 (by decide) [] Bb1 bh8 bm8 b17.1 b17.2 w (Ct8 hX (hm.at mm3) hy8 (fun b o h=>hm.at (.tail _ (.tail _ (.tail _ (.tail _ (.tail _ ((by first | exact List.mem_append_left _ h | exact List.mem_append_right _ (List.mem_append_left _ h)))))))))) (hm.at mm4) (hm.at mm1) (hm.at mm0)) (fun x18 hx18=>?_)
 refine st ?_;refine Ly rfl (fun h=>absurd h (by simpa using e2)) ?_;intro c1;clear c1;refine su ?_;exact Ld (chg:=[]) (.r2 rfl (.tmp rfl) (.tmp rfl)) (fun _ hm=>⟨⟨(⟨bh8,bm8,x8,y8⟩,x18),hx8,hy8,hx18.1⟩,rfl,hm.pick (qI (qI (Pick.skip (Pick.skip (Pick.skip (Pick.refl _))))))⟩)
end Go.Q
namespace Go.Hp
open Go Go.Eng Go.Pw1
theorem BS2 {m:Mx} (hw:waysE m=0):mixedX m=true∧cntX m ≠ 0:=by
 have hX:mixedX m=true:=by
  cases h:mixedX m with
  | true=>rfl
  | false=>unfold waysE at hw;rw [h] at hw;cases hw
 exact ⟨hX,fun h=>by
  unfold waysE at hw;rw [if_pos hX,if_pos h] at hw
  cases hw⟩
end Go.Hp
namespace Go.Q
open Go Go.Eng Go.Hp Go.Pw1
theorem BZ6:Enters π 124:=eZ func124
theorem DA3:Enters π 260:=eZ func260
theorem DA2:Enters π 261:=eZ func261
theorem AO7:zeroB π 116=some [.pointer none]:=by kernel_rfl
end Go.Q
namespace Go.Hp
open Go Go.Eng Go.Pw1
def intsW (l:List Int):List (LV):=l.map fun x=>[.I x]
theorem AQ9 (l:List Int) (a:Int):(intsW (l++[a])).flatten=(intsW l).flatten++[.I a]:=by simp [intsW]
theorem CG5 {l:List Int} {a v:Int} {t:LV}:paste ((intsW (l++[a])).flatten++t) l.length [.I v]=some ((intsW (l++[v])).flatten++t):=by
 have:=AP6 (f:=fun (x:Int)=>[Value.int .i64 x]) (sz:=1) (fun _=>rfl) (a':=v) (j:=0) (vs:=[.I v]) (t:=t) (l:=l++[a]) (i:=l.length) (by simp) rfl
 simpa [intsW] using this
theorem BV4 {sz n:Nat} {x:Eng.Own} {xs ys:LV} (h:OwnOk sz x n xs) (hl:ys.length=xs.length):OwnOk sz x n ys :=
 ⟨by rw [hl];exact h.len,h.nil,fun b c r e=>by
  have:=h.cap b c r e
  rw [List.length_append] at this ⊢;rw [hl];exact this⟩
abbrev IO (l:List Int):={ x:Eng.Own // OwnOk 1 x l.length (intsW l).flatten }
end Go.Hp
namespace Go.Q
open Go Go.Eng Go.Hp Go.Pw1
theorem CH4 (m:MxA) (nE:Nat) (qe:OA) (ce:Nat) (fs:List Nat) (qf:OA) (bf cf:Nat) (c e a:Nat) (hc:c < fs.length) (he:e < nE) (bh bk b4 b6 b5:Nat) (W:World) (hH:HpAt W bh bk m nE qe ce fs qf bf cf)
  (h4:W.heap[b4]? = some (.cells [.pointer (some ⟨bh,0,none⟩)].toArray 116)) (h6:W.heap[b6]? = some (.cells [.I (c:Int)].toArray 3)) (h5:W.heap[b5]? = some (.cells [.I (a:Int)].toArray 3)) :
  CC 260 #[.I (e:Int),.pointer (some ⟨b4,0,none⟩),.pointer (some ⟨b6,0,none⟩),.pointer (some ⟨b5,0,none⟩)] W (Pure (.bool (decide (((shareL nE fs c e:Nat):Int)=(a:Int)))) W):=by
 have hv:=hH.v;refine cS func260 ?_;refine st ?_;refine Ab9 5 Ah8 .nil ?_;refine zv 0 rfl (Aa0 rfl h4 (by simp) AL9 rfl) ?_;refine zv 1 rfl (Aa0 rfl h6 (by simp) Ae0 rfl) ?_;refine zv 2 rfl (Aa8 rfl) ?_;refine zv 4 rfl (Aa0 rfl h5 (by simp) Ae0 rfl) ?_;refine zA 3 ?_;refine Xd rfl (zF rfl DA2) (fun w hm=>BU1 m nE qe ce fs qf bf cf c e hc he bh bk w ⟨hm.old_at hv (by simp),hH.sl.mono (by decide) hm (by simp),hH.len,hH.le,hH.ne,hH.lt⟩) (Aa2 .nil .nil rfl ?_)
 refine zt ?_;refine zp 5 ?_;refine zp 6 ?_;refine zd ?_;refine su ?_;exact rP
theorem Dc7 (m:MxA) (hsm:MSm m) (W:World) (hM:MOk W m) (hw:waysE m.pl ≠ 0):CC 216 #[m.v] W (Pure (.tuple #[.slice none 0 0,.I (waysE m.pl)]) W):=by
 refine cS func216 ?_;refine st ?_;refine zn (Lm rfl) (fun b1=>?_)
 refine zc (zF rfl BZ6) (fun w hm=>Db0 m hsm w (hM.mono0 hm) hw) ?_;refine zn (Lp AO7) (fun b4=>?_)
 refine sQ .here ?_;refine st ?_;refine Ly rfl ?_ (fun h=>absurd h (by simpa using hw))
 intro c0;clear c0;refine su ?_;exact Aa9 (.r2 rfl (.tmp rfl) (.tmp rfl)) (by first | rfl | simp)
theorem Cn8 (m:MxA) (hsm:MSm m) (W:World) (hM:MOk W m) (hw:waysE m.pl=0):CC 216 #[m.v] W
  (News (fun z:IO (SureX m.pl).1=>.tuple #[ownV z.1 (SureX m.pl).1.length,.I 0]) (fun z=>ownB 3 z.1 (intsW (SureX m.pl).1).flatten++[]) W):=by
 obtain ⟨hX,h0⟩:=BS2 hw;obtain ⟨h4,h8,h12⟩:=Ao8 hX;have hfl:=AF7 m;have e:(SureX m.pl).1=(List.range m.cards.length).map (sureC m.pl):=by unfold SureX;rw [if_pos hw];rfl
 have AH6:cntL (esX m).length (fsX m.pl) 0=cntX m.pl:=rfl;rw [e];refine cS func216 ?_;refine st ?_;refine zn (Lm rfl) (fun b1=>?_)
 refine Xl (zF rfl BZ6) (fun w hm=>Bm4 m hsm w (hM.mono0 hm) hw) (fun z11=>?_)
 obtain ⟨⟨⟨bh11,bm11,x11,y11⟩,l11⟩,hx11,hy11,hg11⟩:=z11;dsimp only;refine st ?_;refine zn (Lp AO7) (fun b4=>?_)
 refine sQ .here ?_;refine st ?_;refine Ly rfl (fun h=>absurd h (by simp)) ?_;intro c0;clear c0;refine su ?_;refine Xj (zF rfl Bq6) (fun w hm=>Ao1 bh11 w) (fun b18=>?_)
 refine Aw0 (Ab4 rfl rfl AO2) rfl rfl rfl (fun _=>(.there (.there (.there (.there (.there .here)))))) (fun w hm=>AK2 (fsX m.pl).length 0 m (esX m).length _ _ (fsX m.pl) _ _ _ (by omega) 0 (by decide) l11 hg11 bh11 bm11 b18.1 b18.2 w (Ct8 hX (hm.at mm4) hy11 (fun b o h=>hm.at (.tail _ (.tail _ (.tail _ (.tail _ (.tail _ (.tail _ ((by first | exact List.mem_append_left _ h | exact List.mem_append_right _ (List.mem_append_left _ h))))))))))) (hm.at mm5) (hm.at mm1) (hm.at mm0)) (fun x19 hx19=>?_)
 refine zn (Lp Al2) (fun b5=>?_)
 refine sQ .here ?_;refine su ?_;refine Af2 (X:=Eng.Own) (n0:=[(b4,_),(b5,_),(bh11,_),(bm11,_)]) (m.cards.length) (fun k x q=>(26,.I (k:Int))::(2,ownV x k)::q) (fun _ _=>_) (fun k x=>[]) (fun k x=>ownB 3 x (intsW ((List.range k).map (sureC m.pl))).flatten++(ownB 122 y11 (setsV (fsX m.pl)).flatten++(ownB 205 x11 ((esX m).map En.cells).flatten++[]))) (fun k x=>OwnOk 1 x k (intsW ((List.range k).map (sureC m.pl))).flatten) none OwnOk.start rfl (zE 26 rfl rfl (zE 2 rfl rfl (zS 4 rfl (zS 5 rfl (zS 25 rfl (Sub.nil _)))))) (qI (qC (qI (qI (Pick.skip (Pick.skip (Pick.skip (Pick.same rfl)))))))) ?_;intro k x kN kI;have hx1:=kI;refine st ?_;refine cn rfl ?_ ?_
 ·intro c1'
  have hk:k < m.cards.length:=by omega
  refine st ?_;refine zn (Lp Al2) (fun b6=>?_)
  refine sQ .here ?_;refine st ?_;refine zn (Lu (parts:=[(0,.const (.I (-1)))]) rfl Af6 Al2 rfl rfl rfl rfl) (fun b31=>?_)
  refine Kh (A:=[(b31,_),(b6,_),(b4,_),(b5,_),(bh11,_),(bm11,_)]) (B:=_) (x:=x) (ys:=[.I (-1)]) BO3 rfl rfl rfl hx1 rfl (fun h=>by cases h) (fun w hm=>Aj6 (hm.at mm0)) (Ao0 rfl) (by simp only [maxLen];omega) (by omega) rfl (fun z32 hz32=>?_)
  refine su ?_;refine Af2 (X:=Eng.Own) (n0:=[(b4,_),(b5,_),(b6,_),(bh11,_),(bm11,_)]) ((esX m).length) (fun j y q=>(38,.I (j:Int))::(2,ownV y (k + 1))::q) (fun _ _=>_) (fun j y=>[]) (fun j y=>ownB 3 y (intsW ((List.range k).map (sureC m.pl)++[lastP (sureP m.pl k) j])).flatten++(ownB 122 y11 (setsV (fsX m.pl)).flatten++(ownB 205 x11 ((esX m).map En.cells).flatten++[]))) (fun j y=>OwnOk 1 y (k + 1) (intsW ((List.range k).map (sureC m.pl)++[lastP (sureP m.pl k) j])).flatten) z32 (by rw [AQ9];exact hz32) rfl (zE 38 rfl rfl (zE 2 rfl rfl (zS 4 rfl (zS 5 rfl (zS 25 rfl (zS 26 rfl (zS 6 rfl (zS 7 rfl (zS 37 rfl (Sub.nil _)))))))))) (qH (qH (qD (qD (qD (Pick.skip (Pick.same (by rw [AQ9];rfl)))))))) ?_;intro j y jN jI;have hx1:=jI;refine st ?_;refine cn rfl ?_ ?_
  ·intro c2'
   have hj:j < (esX m).length:=by omega
   refine st ?_;refine Xe (Ab4 rfl rfl DA3) (fun w hm=>CH4 m (esX m).length _ _ (fsX m.pl) _ _ _ k j (cntX m.pl) (by omega) hj bh11 bm11 b4 b6 b5 w (Ct8 hX (hm.at mm3) hy11 (fun b o h=>hm.at (.tail _ (.tail _ (.tail _ (.tail _ (.tail _ ((by first | exact List.mem_append_right _ (List.mem_append_left _ h) | exact List.mem_append_right _ (List.mem_append_right _ (List.mem_append_left _ h))))))))))) (hm.at mm0) (hm.at mm2) (hm.at mm1)) ?_;refine st ?_;refine cn rfl ?_ ?_
   ·intro c3'
    have q3:lastP (sureP m.pl k) (j + 1)=(j:Int):=if_pos (decide_eq_true (Int.ofNat_inj.1 (by (show ((shareL (esX m).length (fsX m.pl) k j:Nat):Int)=((cntX m.pl:Nat):Int);simpa using c3'))));have hv2:=hx1;refine st ?_;refine Xa (Aa6 rfl mm2 Ae0 rfl) ?_;refine vQ ?_;obtain ⟨bx1,cx1,rx1,rfl,lx11,lx12,lx13⟩:=hx1.has (by omega);refine lv (Ab1 rfl rfl Af6 (by omega) (by omega)) ?_;refine Xs (Lt (cs:=(intsW ((List.range k).map (sureC m.pl)++[lastP (sureP m.pl k) j])).flatten++rx1) (cs':=(intsW ((List.range k).map (sureC m.pl)++[(j:Int)])).flatten++rx1) rfl rfl (.there (.there (.there (.there (.there .here))))) Ae0 rfl (by have h9:=CG5 (l:=(List.range k).map (sureC m.pl)) (a:=lastP (sureP m.pl k) j) (v:=(j:Int)) (t:=rx1);rw [List.length_map,List.length_range] at h9;rw [Nat.zero_add,Int.toNat_natCast,Nat.mul_one];exact h9)) ?_;refine st ?_;refine lA ?_;exact Ac3 (some (bx1,cx1,rx1)) (by omega) (by rw [q3];exact BV4 hv2 (by simp [intsW])) rfl (zE 38 rfl rfl (zE 2 rfl rfl (zS 4 rfl (zS 5 rfl (zS 25 rfl (zS 26 rfl (zS 6 rfl (zS 7 rfl (zS 37 rfl (Sub.nil _)))))))))) (qF (qC (.cons .here (by rw [q3]) (Pick.refl _))))
   intro c3';have q3:lastP (sureP m.pl k) (j + 1)=lastP (sureP m.pl k) j:=if_neg (fun h9=>absurd (congrArg (fun (n:Nat)=>(n:Int)) (of_decide_eq_true h9)) (by (show ¬ ((shareL (esX m).length (fsX m.pl) k j:Nat):Int)=((cntX m.pl:Nat):Int);simpa using c3')));have hv2:=hx1;refine st ?_;refine lA ?_;exact Ac3 y (by omega) (by rw [q3];exact hv2) rfl (zE 38 rfl rfl (zE 2 rfl rfl (zS 4 rfl (zS 5 rfl (zS 25 rfl (zS 26 rfl (zS 6 rfl (zS 7 rfl (zS 37 rfl (Sub.nil _)))))))))) (qF (qC (Pick.same (by rw [q3]))))
  intro c2';have hjn:j=(esX m).length:=by omega
  have hS2:(List.range (k + 1)).map (sureC m.pl)=(List.range k).map (sureC m.pl)++[lastP (sureP m.pl k) j]:=by (rw [List.range_succ,List.map_append,hjn];rfl)
  refine Ls ?_;refine su ?_;refine Aa4 ?_;refine st ?_;refine lA ?_;exact Ac3 y (by omega) (by rw [hS2];exact hx1) rfl (zE 26 rfl rfl (zE 2 rfl rfl (zS 4 rfl (zS 5 rfl (zS 25 rfl (Sub.nil _)))))) (qE (qD (qD (Pick.skip (Pick.same (by rw [hS2]))))))
 intro c1';have hkn:k=m.cards.length:=by omega
 subst hkn;refine Ls ?_;refine su ?_;refine Aa4 ?_;refine su ?_;exact Ld (chg:=[]) (.r2 rfl (.tmp rfl) (.tmp rfl)) (fun _ hm=>⟨⟨x,by simpa using hx1⟩,by simp,hm.pick (Pick.skip (Pick.skip (Pick.skip (Pick.skip (Pick.app .nil _)))))⟩)
end Go.Q
namespace Go.Hp
open Go Go.Eng Go.Pw1
def natI (l:List Nat):List Int:=l.map fun (x:Nat)=>(x:Int)
theorem AK3 (l:List Nat) (j:Nat):(intsW (natI (l++[j]))).flatten=(intsW (natI l)).flatten++[.I (j:Int)]:=by
 unfold natI;rw [List.map_append];exact AQ9 _ _
def canP (ne f:Nat) (fs:List Nat) (u i:Nat):Bool:=free f u i && decide (0 < cntL ne fs (u ||| 2 ^ i))
theorem Cu3 {ne f u j:Nat} {fs:List Nat} (h:∀ i,i < j→canP ne f fs u i=false) (hj:canP ne f fs u j=true) (hn:j < ne):firstL ne (f::fs) u=j::firstL ne fs (u ||| 2 ^ j):=by
 have e:(List.range ne).find? (fun i=>free f u i && decide (0 < cntL ne fs (u ||| 2 ^ i)))=some j:=by
  rw [List.find?_range_eq_some];exact ⟨hj,List.mem_range.2 hn,fun i hi=>by have:=h i hi;unfold canP at this;rw [this];rfl⟩
 show (match (List.range ne).find? (fun i=>free f u i && decide (0 < cntL ne fs (u ||| 2 ^ i))) with | some i=>i::firstL ne fs (u ||| 2 ^ i) | none=>firstL ne fs u)=_
 rw [e]
theorem Cu4 {ne f u:Nat} {fs:List Nat} (h:∀ i,i < ne→canP ne f fs u i=false):firstL ne (f::fs) u=firstL ne fs u:=by
 have e:(List.range ne).find? (fun i=>free f u i && decide (0 < cntL ne fs (u ||| 2 ^ i)))=none:=by
  rw [List.find?_range_eq_none];exact fun i hi=>by have:=h i hi;unfold canP at this;rw [this];rfl
 show (match (List.range ne).find? (fun i=>free f u i && decide (0 < cntL ne fs (u ||| 2 ^ i))) with | some i=>i::firstL ne fs (u ||| 2 ^ i) | none=>firstL ne fs u)=_
 rw [e]
theorem BD6 {p:Nat→Bool} {j:Nat} (h:∀ i,i < j→p i=false) (hj:p j=false):∀ i,i < j + 1→p i=false:=fun i hi=>by
 by_cases e:i=j
 · rw [e];exact hj
 · exact h i (by omega)
end Go.Hp
namespace Go.Q
open Go Go.Eng Go.Hp Go.Pw1
theorem BX5 (m:MxA) (hsm:MSm m) (W:World) (hM:MOk W m) (hw:waysE m.pl=0):CC 66 #[m.v] W
  (News (fun z:IO (FirstX m.pl).1=>.tuple #[ownV z.1 (FirstX m.pl).1.length,.I 0]) (fun z=>ownB 3 z.1 (intsW (FirstX m.pl).1).flatten++[]) W):=by
 obtain ⟨hX,h0⟩:=BS2 hw;obtain ⟨h4,h8,h12⟩:=Ao8 hX;have hfl:=AF7 m;have e:(FirstX m.pl).1=natI (firstL (esX m).length (fsX m.pl) 0):=by unfold FirstX;rw [if_pos hw];rfl
 rw [e];refine cS func66 ?_;refine st ?_;refine zn (Lm rfl) (fun b1=>?_)
 refine Kc ?_;refine su ?_;refine Xl (zF rfl BZ6) (fun w hm=>Bm4 m hsm w (hM.mono0 hm) hw) (fun z11=>?_)
 obtain ⟨⟨⟨bh11,bm11,x11,y11⟩,l11⟩,hx11,hy11,hg11⟩:=z11;dsimp only at hg11 ⊢;refine st ?_;refine Ly rfl (fun h=>absurd h (by simp)) ?_;intro c0;clear c0;refine st ?_;refine Xj (zF rfl Bq6) (fun w hm=>Ao1 bh11 w) (fun b18=>?_)
 refine st ?_;refine RunC.label ?_;refine su ?_;refine Af2 (X:=Eng.Own×Nat×List Nat×List ((Nat×Nat)×Value)) (n0:=[(b18.2,_),(b18.1,_),(bh11,_)]) (m.cards.length) (fun k x q=>(25,.I (k:Int))::(2,ownV x.1 x.2.2.1.length)::(6,.int .u64 ((x.2.1:Nat):Int))::q) (fun _ _=>_) (fun k x=>[(bm11,mapG x.2.2.2)]) (fun k x=>ownB 3 x.1 (intsW (natI x.2.2.1)).flatten++(ownB 122 y11 (setsV (fsX m.pl)).flatten++(ownB 205 x11 ((esX m).map En.cells).flatten++[]))) (fun k x=>OwnOk 1 x.1 x.2.2.1.length (intsW (natI x.2.2.1)).flatten∧x.2.1 < 2 ^ 12∧GoodM (esX m).length (fsX m.pl) x.2.2.2∧firstL (esX m).length (fsX m.pl) 0=x.2.2.1++firstL (esX m).length ((fsX m.pl).drop k) x.2.1∧x.2.2.1.length≤k) (none,0,[],l11) ⟨OwnOk.start,(by show (0:Nat) < 2 ^ 12;decide),hg11,rfl,Nat.le_refl _⟩ rfl (zE 25 rfl rfl (zE 2 rfl rfl (zE 6 rfl rfl (zS 4 rfl (zS 5 rfl (zS 24 rfl (Sub.nil _))))))) (.cons (.there (.there (.there (.there .here)))) rfl (qE (qD (Pick.skip (Pick.same rfl))))) ?_;intro k x kN kI;obtain ⟨X1,u,l,lm⟩:=x;obtain ⟨hx1,hu,hgm,hfe,hll⟩:=kI;dsimp only at hx1 hu hgm hfe hll ⊢;refine st ?_;refine cn rfl ?_ ?_
 ·intro c1'
  have hk:k < m.cards.length:=by omega
  have hk2:k < (fsX m.pl).length:=by omega
  obtain ⟨f,hf⟩:∃ f,(fsX m.pl)[k]=f:=⟨_,rfl⟩;have hdr:(fsX m.pl).drop k=f::(fsX m.pl).drop (k + 1):=by rw [CU3 hk2,hf]
  have hfl2:=Cu0 m f (hf ▸ List.getElem_mem hk2);have hfl3:2 ^ (esX m).length≤2 ^ 12:=Lk (by decide) h12;have hal:=Cb6 f u;refine su ?_;refine Af2 (X:=List ((Nat×Nat)×Value)) (n0:=[(b18.2,_),(b18.1,_),(bh11,_)]) ((esX m).length) (fun j y q=>(33,.I (j:Int))::q) (fun _ _=>_) (fun j y=>[(bm11,mapG y)]) (fun j y=>ownB 3 X1 (intsW (natI l)).flatten++(ownB 122 y11 (setsV (fsX m.pl)).flatten++(ownB 205 x11 ((esX m).map En.cells).flatten++[]))) (fun j y=>GoodM (esX m).length (fsX m.pl) y∧∀ i,i < j→canP (esX m).length f ((fsX m.pl).drop (k + 1)) u i=false) lm ⟨hgm,fun i hi=>absurd hi (Nat.not_lt_zero i)⟩ rfl (zE 33 rfl rfl (zS 4 rfl (zS 5 rfl (zS 24 rfl (zS 25 rfl (zS 2 rfl (zS 6 rfl (zS 7 rfl (zS 32 rfl (Sub.nil _)))))))))) (qF (Pick.same rfl)) ?_;intro j y jN jI;refine st ?_;refine cn rfl ?_ ?_
  ·intro c2'
   have hj:j < (esX m).length:=by omega
   have h2j:2 ^ j < 2 ^ 12:=Ll (by decide) (by omega);have huj:=Lj hu h2j;refine su ?_;refine lv (Aa3 rfl rfl Au7 (by omega) (by omega) (Du9 hy11 (by omega))) ?_;refine lv (Aa5 rfl (fun w hm=>(CD7 hy11 (fun b o h=>hm.at (.tail _ (.tail _ (.tail _ (.tail _ ((by first | exact List.mem_append_right _ (List.mem_append_left _ h) | exact List.mem_append_right _ (List.mem_append_right _ (List.mem_append_left _ h)))))))))).loadM1 (by decide) (Mem.refl w) (by simp) Bc9 hk2 (v:=.int .u64 (f:Int)) (by simp [hf]))) ?_;refine lv (Val.andNot (a:=f) (b:=u) rfl rfl (by show _ < 18446744073709551616;omega) (by show _ < 18446744073709551616;omega) (u64_in (by omega))) ?_;refine zc (zF rfl BZ8) (fun w hm=>Bh1 (andN f u) j (by omega) (by omega) w) ?_;refine BP8 (dj:=47) rfl ?_ ?_
   ·intro g47
    have g47':=g47;clear g47;try simp only [nH] at g47'
    have hfr:free f u j=true:=by (rw [AA2] at g47';exact g47')
    refine st ?_;refine lA ?_;refine lv (Ap2 (b:=j) rfl rfl (by show j≤64;omega) (u64_in (n:=2 ^ j) (by omega))) ?_;refine zn (Lu (parts:=[(0,.tmp 51),(1,.tmp 53)]) rfl Au7 Ay2 rfl rfl rfl rfl) (fun b54=>?_)
    refine zc (zF rfl AO1) (fun w hm=>Al3 u (2 ^ j) hu h2j b54 w (hm.at mm0)) ?_;refine Aw0 (Ab4 rfl rfl AO2) rfl rfl rfl (fun _=>(.there .here)) (fun w hm=>AK2 ((fsX m.pl).length - (k + 1)) (k + 1) m (esX m).length _ _ (fsX m.pl) _ _ _ (by omega) (u ||| 2 ^ j) huj y jI.1 bh11 bm11 b18.1 b18.2 w (Ct8 hX (hm.at mm4) hy11 (fun b o h=>hm.at (.tail _ (.tail _ (.tail _ (.tail _ (.tail _ ((by first | exact List.mem_append_right _ (List.mem_append_left _ h) | exact List.mem_append_right _ (List.mem_append_right _ (List.mem_append_left _ h))))))))))) (hm.at mm1) (hm.at mm3) (hm.at mm2)) (fun x56 hx56=>?_)
    refine vQ ?_;have hfr:=g47';rw [AA2] at hfr;refine st ?_;refine cn rfl ?_ ?_
    ·intro c3'
     have hcp:canP (esX m).length f ((fsX m.pl).drop (k + 1)) u j=true:=by (unfold canP;rw [show free f u j=true from hfr,Bool.true_and];exact decide_eq_true (by simpa using c3'))
     refine st ?_;refine Am2 (X:=Eng.Own) 8 (n0:=[(b54,_),(bm11,_),(b18.2,_),(b18.1,_),(bh11,_)]) (fun z q=>(2,ownV z (l.length + 1))::(6,.int .u64 ((u ||| 2 ^ j:Nat):Int))::q) (fun z=>[]) (fun z=>[]) (fun z=>ownB 3 z (intsW (natI (l++[j]))).flatten++(ownB 122 y11 (setsV (fsX m.pl)).flatten++(ownB 205 x11 ((esX m).map En.cells).flatten++[]))) (fun z=>OwnOk 1 z (l.length + 1) (intsW (natI (l++[j]))).flatten) Ah8 (qF (qC .nil)) (zS 4 rfl (zS 5 rfl (zS 24 rfl (zS 25 rfl (Sub.nil _))))) (qF (qC .nil)) ?_ ?_
     ·refine zw 0 ?_
      refine zw 1 ?_;refine zw 4 ?_;refine zw 5 ?_;refine zv 6 rfl (Ap2 (b:=j) rfl rfl (by show j≤64;omega) (u64_in (n:=2 ^ j) (by omega))) ?_;refine Af7 (rs:=[2,7]) (by kernel_rfl) (by simp) (by kernel_rfl) (fun m hm=>?_)
      simp only [List.mem_cons,List.not_mem_nil,or_false] at hm
      rcases hm with rfl | rfl
      ·refine Xf rfl (Lu (parts:=[(0,.tmp 60)]) rfl Af6 Al2 rfl rfl rfl rfl) (fun b61=>(Aa2 (qF (qE .nil)) (qD (qD (qD (qD (qD .nil))))) rfl ?_))
       refine Af7 (rs:=[3,7]) (by kernel_rfl) (by simp) (by kernel_rfl) (fun m hm=>?_)
       simp only [List.mem_cons,List.not_mem_nil,or_false] at hm
       rcases hm with rfl | rfl
       ·refine Kw (A:=[(b61,_),(b54,_),(bm11,_),(b18.2,_),(b18.1,_),(bh11,_)]) (B:=_) (x:=X1) (ys:=[.I (j:Int)]) rfl BO3 rfl rfl rfl hx1 rfl (fun h=>by cases h) (fun w hm=>Aj6 (hm.at mm0)) (Ao0 rfl) (by simp only [maxLen];omega) (by omega) rfl (fun z62 hz62=>(Aa2 (qF (qE .nil)) (qF (qE .nil)) rfl ?_))
        refine zA 7 ?_;refine Xf rfl (Lu (parts:=[(0,.tmp 63),(1,.tmp 65)]) rfl Au7 Ay2 rfl rfl rfl rfl) (fun b66=>(Aa2 (qF (qE (qC .nil))) (qD (qD (qD (qD (qD (qD .nil)))))) rfl ?_))
        refine zt ?_;refine zq 8 rfl (zF rfl AO1) (fun w hm=>Al3 u (2 ^ j) hu h2j b66 w (hm.at mm0)) ?_;refine zp 9 ?_;refine zp 10 ?_;refine zd ?_;exact Af4 z62 (by rw [AK3];exact hz62) rfl (zE 2 rfl rfl (zE 6 rfl rfl (zS 4 rfl (zS 5 rfl (zS 24 rfl (zS 25 rfl (Sub.nil _))))))) (qH (qH (qH (qH (qH (Pick.skip (Pick.skip (Pick.same (by rw [AK3])))))))))
       refine Xf rfl (Lu (parts:=[(0,.tmp 63),(1,.tmp 65)]) rfl Au7 Ay2 rfl rfl rfl rfl) (fun b66=>(Aa2 (qF (qE (qC .nil))) (qD (qD (qD (qD (qD (qD .nil)))))) rfl ?_))
       refine zA 3 ?_;refine Kw (A:=[(b66,_),(b61,_),(b54,_),(bm11,_),(b18.2,_),(b18.1,_),(bh11,_)]) (B:=_) (x:=X1) (ys:=[.I (j:Int)]) rfl BO3 rfl rfl rfl hx1 rfl (fun h=>by cases h) (fun w hm=>Aj6 (hm.at mm1)) (Ao0 rfl) (by simp only [maxLen];omega) (by omega) rfl (fun z62 hz62=>(Aa2 (qF (qE (qC .nil))) (qF (qE (qC .nil))) rfl ?_))
       refine zt ?_;refine zq 8 rfl (zF rfl AO1) (fun w hm=>Al3 u (2 ^ j) hu h2j b66 w (hm.at mm0)) ?_;refine zp 9 ?_;refine zp 10 ?_;refine zd ?_;exact Af4 z62 (by rw [AK3];exact hz62) rfl (zE 2 rfl rfl (zE 6 rfl rfl (zS 4 rfl (zS 5 rfl (zS 24 rfl (zS 25 rfl (Sub.nil _))))))) (qH (qH (qH (qH (qH (Pick.skip (Pick.skip (Pick.same (by rw [AK3])))))))))
      refine Xf rfl (Lu (parts:=[(0,.tmp 63),(1,.tmp 65)]) rfl Au7 Ay2 rfl rfl rfl rfl) (fun b66=>(Aa2 (qF (qE .nil)) (qD (qD (qD (qD (qD .nil))))) rfl ?_))
      refine zA 2 ?_;refine Xf rfl (Lu (parts:=[(0,.tmp 60)]) rfl Af6 Al2 rfl rfl rfl rfl) (fun b61=>(Aa2 (qF (qE (qC .nil))) (qD (qD (qD (qD (qD (qD .nil)))))) rfl ?_))
      refine zA 3 ?_;refine Kw (A:=[(b61,_),(b66,_),(b54,_),(bm11,_),(b18.2,_),(b18.1,_),(bh11,_)]) (B:=_) (x:=X1) (ys:=[.I (j:Int)]) rfl BO3 rfl rfl rfl hx1 rfl (fun h=>by cases h) (fun w hm=>Aj6 (hm.at mm0)) (Ao0 rfl) (by simp only [maxLen];omega) (by omega) rfl (fun z62 hz62=>(Aa2 (qF (qE (qC .nil))) (qF (qE (qC .nil))) rfl ?_))
      refine zt ?_;refine zq 8 rfl (zF rfl AO1) (fun w hm=>Al3 u (2 ^ j) hu h2j b66 w (hm.at mm1)) ?_;refine zp 9 ?_;refine zp 10 ?_;refine zd ?_;exact Af4 z62 (by rw [AK3];exact hz62) rfl (zE 2 rfl rfl (zE 6 rfl rfl (zS 4 rfl (zS 5 rfl (zS 24 rfl (zS 25 rfl (Sub.nil _))))))) (qH (qH (qH (qH (qH (Pick.skip (Pick.skip (Pick.same (by rw [AK3])))))))))
     intro z zI;have hx1:=zI;refine st ?_;refine Ls ?_;refine Ah5 rfl ?_;refine su ?_;refine Ah5 rfl ?_;refine Aa4 ?_;refine st ?_;refine lA ?_;exact Ac3 (z,u ||| 2 ^ j,l++[j],x56) (by omega) ⟨(by rw [List.length_append];exact hx1),huj,hx56.1,(by rw [hfe,hdr,Cu3 jI.2 hcp hj,List.append_assoc];rfl),(by simp;omega)⟩ rfl (zE 25 rfl rfl (zE 2 rfl (by first | rfl | simp) (zE 6 rfl rfl (zS 4 rfl (zS 5 rfl (zS 24 rfl (Sub.nil _))))))) (qD (qD (qD (qD (Pick.skip (Pick.refl _))))))
    intro c3';have hc3:¬ 0 < cntL (esX m).length ((fsX m.pl).drop (k + 1)) (u ||| 2 ^ j):=by simpa using c3'
    refine st ?_;refine lA ?_;exact Ac3 x56 (by omega) ⟨hx56.1,BD6 jI.2 (by unfold canP;rw [decide_eq_false hc3,Bool.and_false])⟩ rfl (zE 33 rfl rfl (zS 4 rfl (zS 5 rfl (zS 24 rfl (zS 25 rfl (zS 2 rfl (zS 6 rfl (zS 7 rfl (zS 32 rfl (Sub.nil _)))))))))) (qD (qD (qD (qD (Pick.skip (Pick.refl _))))))
   intro g47;have g47':=g47;clear g47;try simp only [nH] at g47'
   iterate 10 refine nQ ?_
   have hfr:=g47';rw [AA2] at hfr;refine st ?_;refine Ae9 rfl ?_;refine st ?_;refine lA ?_;exact Ac3 y (by omega) ⟨jI.1,BD6 jI.2 (by unfold canP;rw [show free f u j=false from hfr,Bool.false_and])⟩ rfl (zE 33 rfl rfl (zS 4 rfl (zS 5 rfl (zS 24 rfl (zS 25 rfl (zS 2 rfl (zS 6 rfl (zS 7 rfl (zS 32 rfl (Sub.nil _)))))))))) (qF (Pick.refl _))
  intro c2';have hjn:j=(esX m).length:=by omega
  refine Ls ?_;refine su ?_;refine Aa4 ?_;refine st ?_;refine lA ?_;exact Ac3 (X1,u,l,y) (by omega) ⟨hx1,hu,jI.1,(by rw [hfe,hdr,Cu4 (fun i hi=>jI.2 i (by omega))]),Nat.le_succ_of_le hll⟩ rfl (zE 25 rfl rfl (zE 2 rfl (by first | rfl | simp) (zE 6 rfl rfl (zS 4 rfl (zS 5 rfl (zS 24 rfl (Sub.nil _))))))) (qF (Pick.refl _))
 intro c1';have hkn:k=(fsX m.pl).length:=by omega
 rw [hkn,List.drop_length] at hfe;have hfe2:firstL (esX m).length (fsX m.pl) 0=l:=by (rw [hfe];simp [firstL])
 rw [hfe2];refine Ls ?_;refine su ?_;refine Aa4 ?_;refine su ?_;refine Ai8 ?_;exact Ld (chg:=[]) (.r2 rfl (.tmp rfl) (.tmp rfl)) (fun _ hm=>⟨⟨X1,by simpa [natI] using hx1⟩,by simp [natI],hm.pick (Pick.skip (Pick.skip (Pick.skip (Pick.skip (Pick.app .nil _)))))⟩)
theorem Bi2:Enters π 215:=eZ func215
end Go.Q
namespace Go.Hp
open Go Go.Eng Go.Pw1
def isK (k s:Nat):Bool:=decide (0 < s) && decide (pc s 12=k)
def setsP (n k:Nat):List Nat:=((List.range k).map (· + 1)).flatMap fun k=>(List.range (2 ^ n)).filter (isK k)
theorem CE0 (n:Nat):setsL n=setsP n n:=rfl
theorem BU3 (n k:Nat):setsP n (k + 1)=setsP n k++(List.range (2 ^ n)).filter (isK (k + 1)):=by
 unfold setsP;rw [List.range_succ,List.map_append,List.flatMap_append];simp
theorem CD9 (n k:Nat):(setsP n k).length≤k * 2 ^ n:=by
 induction k with
 | zero=>simp [setsP]
 | succ k ih =>
   rw [BU3,List.length_append,Nat.succ_mul]
   have:=List.length_filter_le (isK (k + 1)) (List.range (2 ^ n))
   rw [List.length_range] at this;omega
theorem Dx8 (k j:Nat):((List.range j).filter (isK k)).length≤j:=by
 have:=List.length_filter_le (isK k) (List.range j)
 rwa [List.length_range] at this
theorem BX6 {k j:Nat} (h:pc (j + 1) 12=k):(List.range (j + 2)).filter (isK k)=(List.range (j + 1)).filter (isK k)++[j + 1]:=by
 rw [List.range_succ,List.filter_append]
 have:isK k (j + 1)=true:=by unfold isK;rw [h];simp
 simp [this]
theorem Dp3 {k j:Nat} (h:¬ pc (j + 1) 12=k):(List.range (j + 2)).filter (isK k)=(List.range (j + 1)).filter (isK k):=by
 rw [List.range_succ,List.filter_append]
 have:isK k (j + 1)=false:=by unfold isK;rw [decide_eq_false h,Bool.and_false]
 simp [this]
theorem DW1 (k:Nat):(List.range (0 + 1)).filter (isK k)=[]:=by simp [isK]
theorem CD8 {n k:Nat} (hk:k < n):∃ r,setsL n=setsP n (k + 1)++r:=by
 refine ⟨((List.range (n - (k + 1))).map (fun i=>k + 1 + i + 1)).flatMap fun k=>(List.range (2 ^ n)).filter (isK k),?_⟩
 rw [CE0];unfold setsP;rw [← List.flatMap_append]
 congr 1
 have:List.range n=List.range (k + 1)++(List.range (n - (k + 1))).map (k + 1 + ·):=by rw [← List.range_add,show k + 1 + (n - (k + 1))=n by omega]
 rw [this,List.map_append,List.map_map];rfl
theorem Dd9 {n k j:Nat} (hk:k < n) (hj:j + 1 < 2 ^ n) (h:pc (j + 1) 12=k + 1):∃ r,setsP n k++(List.range (j + 1)).filter (isK (k + 1))++[j + 1]++r=setsL n:=by
 obtain ⟨r,hr⟩:=CD8 hk
 have:List.range (2 ^ n)=List.range (j + 2)++(List.range (2 ^ n - (j + 2))).map (j + 2 + ·):=by rw [← List.range_add,show j + 2 + (2 ^ n - (j + 2))=2 ^ n by omega]
 rw [BU3,this,List.filter_append,BX6 h] at hr;exact ⟨_,by rw [hr];simp only [List.append_assoc];rfl⟩
end Go.Hp
namespace Go.Q
open Go Go.Eng Go.Hp Go.Pw1
theorem Bw6 (s:Nat) (hs:s < 4096) (W:World):CC 271 #[.int .u64 (s:Int)] W (Pure (.I (oc s:Int)) W):=by
 have b1:=Do9 s;have b2':=CI1 s;have b3:=CH9 s;have b3':=CI0 s;have b4:=CH8 s;have b5:=CH7 s;have b6:=Do8 s;have h1:=Lh s 1;have h2:=Lh (oc1 s) 2;refine cS func271 ?_;refine st ?_;refine lv (Aj9 (a:=s) (b:=1) rfl rfl (by decide)) ?_;refine lv (Ku (a:=s >>> 1) (b:=6148914691236517205) rfl rfl (by show _ < 18446744073709551616;omega) (by decide) (u64_in (by have:=Lg (n:=s >>> 1) (m:=6148914691236517205);omega))) ?_;refine lv (Ku (a:=s) (b:=6148914691236517205) rfl rfl (by show _ < 18446744073709551616;omega) (by decide) (u64_in (by have:=Lg (n:=s) (m:=6148914691236517205);omega))) ?_;refine lv (Ah1 (oc1 s) rfl rfl rfl (u64_in (by omega))) ?_;refine lv (Aj9 (a:=oc1 s) (b:=2) rfl rfl (by decide)) ?_;refine lv (Ku (a:=oc1 s >>> 2) (b:=3689348814741910323) rfl rfl (by show _ < 18446744073709551616;omega) (by decide) (u64_in (by have:=Lg (n:=oc1 s >>> 2) (m:=3689348814741910323);omega))) ?_;refine lv (Ku (a:=oc1 s) (b:=3689348814741910323) rfl rfl (by show _ < 18446744073709551616;omega) (by decide) (u64_in (by have:=Lg (n:=oc1 s) (m:=3689348814741910323);omega))) ?_;refine lv (Ah1 (oc2 s) rfl rfl rfl (u64_in (by omega))) ?_;refine lv (Aj9 (a:=oc2 s) (b:=4) rfl rfl (by decide)) ?_;refine lv (Ah1 (oc3a s) rfl rfl rfl (u64_in (by omega))) ?_;refine lv (Ku (a:=oc3a s) (b:=1085102592571150095) rfl rfl (by show _ < 18446744073709551616;omega) (by decide) (u64_in (by have:=Lg (n:=oc3a s) (m:=1085102592571150095);omega))) ?_;refine lv (Aj9 (a:=oc3 s) (b:=8) rfl rfl (by decide)) ?_;refine lv (Ah1 (oc4 s) rfl rfl rfl (u64_in (by omega))) ?_;refine lv (Aj9 (a:=oc4 s) (b:=16) rfl rfl (by decide)) ?_;refine lv (Ah1 (oc5 s) rfl rfl rfl (u64_in (by omega))) ?_;refine lv (Aj9 (a:=oc5 s) (b:=32) rfl rfl (by decide)) ?_;refine lv (Ah1 (oc6 s) rfl rfl rfl (u64_in (by omega))) ?_;refine lv (Al5 rfl Cz6 BC9 (Lq _ ⟨by omega,by omega⟩)) ?_;refine lu (Ku (a:=oc6 s) (b:=127) rfl rfl (by show _ < 18446744073709551616;omega) (by decide) (Ak8 (by have:=Lg (n:=oc6 s) (m:=127);omega))) ?_;exact rP
theorem BX1 (s:Nat) (hs:s < 4096) (W:World):CC 250 #[.int .u64 (s:Int)] W (Pure (.I (pc s 12:Int)) W):=by
 rw [← DM8 hs];refine cS func250 ?_;refine st ?_;refine Ae9 rfl ?_;refine st ?_;refine zc (zF rfl CQ5) (fun w hm=>Bw6 s hs w) ?_;exact rP
theorem AB9 (s:Nat) (hs:s < 4096) (W:World):CC 215 #[.int .u64 (s:Int)] W (Pure (.I (pc s 12:Int)) W):=by
 refine cS func215 ?_;refine st ?_;refine zc (zF rfl CQ8) (fun w hm=>BX1 s hs w) ?_;exact rP
abbrev nCell (n:Nat):Obj:=.cells [.I (n:Int)].toArray 3 (0,0)
set_option maxHeartbeats 2000000 in
theorem Bn6 (n:Nat) (hn:n≤8) (b1:Nat) (w0:World) (nm:List Nat) (h0:w0.heap[b1]? = some (nCell n)) (hs:b1 < w0.heap.size∧b1 ∉ nm) :
  SeqStopsK (Fr none) 8 π 259 #[.pointer (some ⟨b1,0,none⟩)] (fun x:Nat=>#[.int .u64 ((x % 4096:Nat):Int)]) (KpX w0.heap.size nm) (fun xs=>xs=setsL n) (fun pre=>∃ r,pre++r=setsL n) 5000 w0:=by
 unfold SeqStopsK;intro l J Jx W hW hJ hJx hY hJ0;have h2n:2 ^ n≤2 ^ 8:=Lk (by decide) hn;have h2p:0 < 2 ^ n:=Li n;have hSn:W.heap[b1]? = some (nCell n):=(hW.block b1 hs.1).trans h0;have hJm:∀ {s:List Nat} {A C:World} {news:Blks},J s A→Mem A [] news C→J s C:=fun h hm=>hJ _ _ _ none h hm.grown (fun r e=>by cases e)
 have hJxm:∀ {s:List Nat} {A C:World} {news:Blks},Jx s A→Mem A [] news C→Jx s C:=fun h hm=>hJx _ _ _ none h hm.grown (fun r e=>by cases e)
 have hYY:∀ (pre:List Nat) (x:Nat) (A:World),J pre A→pre.length < 5000→A.heap[b1]? = some (nCell n)→YieldAt (Fr none) 8 π l #[.int .u64 ((x % 4096:Nat):Int)] A (fun e w'=>∃ y,e = .returned (.bool y)∧((y=true∧J (pre++[x]) w'∧w'.heap[b1]? = some (nCell n))∨(y=false∧Jx (pre++[x]) w'))):=fun pre x A h1 h2 h3 =>
  AM8 (hY pre x A h1 h2) (fun e w' hh=>by
   rcases hh with ⟨rfl,hh,hk⟩ | ⟨rfl,hh⟩
   · exact ⟨true,rfl,.inl ⟨rfl,hh,(hk b1 hs.1 hs.2).trans h3⟩⟩
   · exact ⟨false,rfl,.inr ⟨rfl,hh⟩⟩)
 refine AF1 (vs:=[.func (.yield l) #[] #[],.pointer (some ⟨b1,0,none⟩)]) func259 rfl rfl ?_ 8
 refine Ki ?_;refine Kj ?_;refine vR ?_;refine Kk ?_;refine Kl ?_;refine Km ?_;refine Ar0 (n) (fun k q=>(3,.I ((k + 1:Nat):Int))::q) (fun k Wk=>J (setsP n k) Wk∧Wk.heap[b1]? = some (nCell n)) (fun w hm=>⟨hJm hJ0 hm,hm.old_at hSn (by simp)⟩) (zE 3 rfl rfl (zS 0 rfl (zS 1 rfl (Sub.nil _)))) ?_;intro k Wk kN kI;obtain ⟨hJk,hSk⟩:=kI;refine Ki ?_;refine Ki ?_;refine Kj ?_;refine vR ?_;refine Xb (Aa0 rfl hSk (by simp) Ae0 rfl) ?_;refine vR ?_;refine Kk ?_;refine Kl ?_;refine Kn rfl ?_ ?_
 ·intro c0
  have c0':=c0;clear c0;try simp only [nH] at c0'
  have hk:k < n:=by omega
  have hpl:=CD9 n k;have hpl2:k * 2 ^ n≤8 * 2 ^ 8:=Nat.mul_le_mul (by omega) h2n;refine Ko ?_;refine Kl ?_;refine Ki ?_;refine Km ?_;refine Ki ?_;refine Kj ?_;refine vR ?_;refine Kk ?_;refine Kl ?_;refine Km ?_;refine Ar0 (2 ^ n - 1) (fun j q=>(4,.int .u64 ((j + 1:Nat):Int))::q) (fun j Wj=>J (setsP n k++(List.range (j + 1)).filter (isK (k + 1))) Wj∧Wj.heap[b1]? = some (nCell n)) (fun w hm=>⟨by rw [DW1,List.append_nil];exact hJm hJk hm,hm.old_at hSk (by simp)⟩) (zE 4 rfl rfl (zS 0 rfl (zS 1 rfl (zS 3 rfl (Sub.nil _))))) ?_;intro j Wj jN jI;obtain ⟨hJj,hSj⟩:=jI;refine Ki ?_;refine Ki ?_;refine Kj ?_;refine vR ?_;refine Xb (Aa0 rfl hSj (by simp) Ae0 rfl) ?_;refine Xb (Ap2 (b:=n) rfl rfl (by show n≤64;omega) (u64_in (n:=2 ^ n) (by omega))) ?_;refine vR ?_;refine Kk ?_;refine Kl ?_;refine Kn rfl ?_ ?_
  ·intro c1
   have c1':=c1;clear c1;try simp only [nH] at c1'
   have hj:j + 1 < 2 ^ n:=by omega
   have hfl:=Dx8 (k + 1) (j + 1);refine Ko ?_;refine Kl ?_;refine Ki ?_;refine Km ?_;refine Ki ?_;refine Kj ?_;refine vR ?_;refine Xt (zF rfl Bi2) (fun w hm=>AB9 (j + 1) (by omega) w) ?_
   iterate 3 refine vR ?_
   refine Bs1 (dj:=20) rfl ?_ ?_
   ·intro g20
    have g20':=g20;clear g20;try simp only [nH] at g20'
    refine vR ?_;refine vR ?_;refine RunLR.yield (RY:=fun y w'=>(y=true∧J (setsP n k++(List.range (j + 1)).filter (isK (k + 1))++[j + 1]) w'∧w'.heap[b1]? = some (nCell n))∨(y=false∧Jx (setsP n k++(List.range (j + 1)).filter (isK (k + 1))++[j + 1]) w')) (Ai4 rfl rfl) rfl rfl rfl (fun w hm=>(by have h9:=hYY _ (j + 1) w (hJm hJj hm) (by rw [List.length_append];omega) (hm.old_at hSj (by simp));rw [Nat.mod_eq_of_lt (show j + 1 < 4096 by omega)] at h9;exact h9)) ?_;intro y23 W23 h23;refine vR ?_;refine vR ?_;refine Kk ?_;refine Kl ?_;refine Kn rfl ?_ ?_
    ·intro c2
     have c2':=c2;clear c2;try simp only [nH] at c2'
     refine Kp ?_;refine Ad4 ?_;refine Ad1 ?_;refine Ad1 ?_;refine Ad4 ?_;refine Ad4 ?_;refine Ad1 ?_;refine Ad1 ?_;refine Ad4 ?_;intro a w2 s
     rcases h23 with ⟨h,_⟩ | ⟨_,hX2⟩
     ·rw [h] at c2';cases c2'
     exact ⟨s.defers,_,results_none rfl _ _ _,⟨_,rfl⟩,.inr ⟨_,Dd9 hk hj (by omega),hJxm hX2 s.mem⟩⟩
    intro c2;have c2':=c2;clear c2;try simp only [nH] at c2'
    refine Ko ?_;refine st ?_;refine Kl ?_;refine Kj ?_;refine vR ?_;refine Xb (Ah1 (a:=j + 1) (b:=1) (j + 1 + 1) rfl rfl rfl (u64_in (by omega))) ?_;refine vR ?_;refine Kk ?_;exact Al6 (by omega) (fun w hm=>(by first | exact ⟨by rw [Dp3 (by omega)];exact hJm hJj hm,hm.old_at hSj (by simp)⟩ | (rcases h23 with ⟨_,hJ2,hS2⟩ | ⟨h,_⟩;exact ⟨by rw [BX6 (by omega),← List.append_assoc];exact hJm hJ2 hm,hm.old_at hS2 (by simp)⟩;rw [h] at c2';cases c2'))) (zE 4 rfl rfl (zS 0 rfl (zS 1 rfl (zS 3 rfl (Sub.nil _)))))
   intro g20;have g20':=g20;clear g20;try simp only [nH] at g20'
   iterate 4 refine Bc0 rfl rfl rfl ?_
   refine vR ?_;refine Kk ?_;refine Kl ?_;refine AZ7 rfl ?_;refine Ko ?_;refine st ?_;refine Kl ?_;refine Kj ?_;refine vR ?_;refine Xb (Ah1 (a:=j + 1) (b:=1) (j + 1 + 1) rfl rfl rfl (u64_in (by omega))) ?_;refine vR ?_;refine Kk ?_;exact Al6 (by omega) (fun w hm=>(by first | exact ⟨by rw [Dp3 (by omega)];exact hJm hJj hm,hm.old_at hSj (by simp)⟩ | (rcases h23 with ⟨_,hJ2,hS2⟩ | ⟨h,_⟩;exact ⟨by rw [BX6 (by omega),← List.append_assoc];exact hJm hJ2 hm,hm.old_at hS2 (by simp)⟩;rw [h] at c2';cases c2'))) (zE 4 rfl rfl (zS 0 rfl (zS 1 rfl (zS 3 rfl (Sub.nil _)))))
  intro c1;have c1':=c1;clear c1;try simp only [nH] at c1'
  have hjn:j + 1=2 ^ n:=by omega
  have AH6:setsP n (k + 1)=setsP n k++(List.range (j + 1)).filter (isK (k + 1)):=by rw [BU3,hjn]
  refine Kq ?_;refine su ?_;refine Aa4 ?_;refine st ?_;refine Kl ?_;refine Kj ?_;refine vR ?_;refine Xb (Ah1 (a:=k + 1) (b:=1) (k + 1 + 1) rfl rfl rfl (Ak8 (by omega))) ?_;refine vR ?_;refine Kk ?_;exact Al6 (by omega) (fun w hm=>⟨by rw [AH6];exact hJm hJj hm,hm.old_at hSj (by simp)⟩) (zE 3 rfl rfl (zS 0 rfl (zS 1 rfl (Sub.nil _))))
 intro c0;have c0':=c0;clear c0;try simp only [nH] at c0'
 obtain rfl:k=n:=by omega
 refine Kq ?_;refine su ?_;refine Aa4 ?_;intro a w2 s;exact ⟨s.defers,_,results_none rfl _ _ _,⟨_,rfl⟩,.inl ⟨_,rfl,hJm hJk s.mem⟩⟩
theorem Bn7 (n:Nat) (W:World):CC 214 #[.I (n:Int)] W (News (fun b=>.func (.func 259) #[] #[.pointer (some ⟨b,0,none⟩)]) (fun b=>[(b,nCell n)]) W):=by
 refine cS func214 ?_;refine st ?_;refine zn (Lm rfl) (fun b1=>?_)
 exact Ld (chg:=[]) rZ (fun _ hm=>⟨b1,rfl,hm⟩)
theorem CR4:Enters π 214:=eZ func214
theorem CQ7:Enters π 259:=eZ func259
theorem Cz7:π.underlying 122=some (.int .u64):=by kernel_rfl
end Go.Q
namespace Go.Hp
open Go Go.Eng Go.Pw1
theorem Bm6 (s:Nat):∀ (l:List Nat) (i f:Nat),unionL s i (l++[f])=unionL s i l ||| (if s.testBit (i + l.length) then f else 0)
 | [],i,f=>by simp [unionL]
 | g::l,i,f=>by
   simp only [List.cons_append,unionL,Bm6 s l (i + 1) f,List.length_cons];rw [show i + 1 + l.length=i + (l.length + 1) by omega,Nat.or_assoc]
theorem Bu2 {s:Nat} {l:List Nat} (h:∀ f∈l,f < 2 ^ 12):∀ i,unionL s i l < 2 ^ 12:=by
 induction l with
 | nil=>intro i;exact (by decide:(0:Nat) < 2 ^ 12)
 | cons f l ih =>
   intro i;unfold unionL;refine Lj ?_ (ih (fun f hf=>h f (List.mem_cons_of_mem _ hf)) (i + 1))
   split
   · exact h f (List.mem_cons_self ..)
   · decide
theorem Bm5 {s k f:Nat} {l:List Nat} (hk:k < l.length) (hf:l[k]=f):unionL s 0 (l.take (k + 1))=unionL s 0 (l.take k) ||| (if s.testBit k then f else 0):=by
 rw [List.take_succ_eq_append_getElem hk,hf,Bm6,List.length_take,Nat.min_eq_left (Nat.le_of_lt hk),Nat.zero_add]
theorem BC6 {s k f:Nat} {l:List Nat} (hk:k < l.length) (hf:l[k]=f) (h:s.testBit k=true):unionL s 0 (l.take (k + 1))=unionL s 0 (l.take k) ||| f:=by rw [Bm5 hk hf,if_pos h]
theorem Cf0 {s k f:Nat} {l:List Nat} (hk:k < l.length) (hf:l[k]=f) (h:s.testBit k=false):unionL s 0 (l.take (k + 1))=unionL s 0 (l.take k):=by rw [Bm5 hk hf,if_neg (by simp [h]),Nat.or_zero]
theorem CK9 {fs pre:List Nat} {x:Nat} (h:∀ s∈pre,shortX fs (s % 4096)=false) (hx:shortX fs (x % 4096)=false):∀ s∈pre++[x],shortX fs (s % 4096)=false:=fun s hs=>by
 rcases List.mem_append.1 hs with hs | hs
 · exact h s hs
 · rw [List.mem_singleton.1 hs];exact hx
theorem BU2 {n s:Nat} (hn:n≤8) (h:s∈setsL n):s % 4096=s:=by
 unfold setsL at h;obtain ⟨k,_,h⟩:=List.mem_flatMap.1 h;have h1:=List.mem_range.1 (List.mem_filter.1 h).1;have h2:2 ^ n≤2 ^ 8:=Lk (by decide) hn;exact Nat.mod_eq_of_lt (by omega)
theorem Ce8 {m:MxA} (hX:mixedX m.pl=true) (h8:m.cards.length≤8) (h:∀ s∈setsL m.cards.length,shortX (fsX m.pl) (s % 4096)=false):WhyX m.pl=(0,0):=by
 have e:whyL (fsX m.pl)=none:=by
  unfold whyL;rw [AF7,List.find?_eq_none];intro s hs
  have:=h s hs
  rw [BU2 h8 hs] at this;simp [this]
 unfold WhyX;rw [if_pos hX,e]
theorem Ce7 {m:MxA} {pre rest:List Nat} {x:Nat} (hX:mixedX m.pl=true) (h8:m.cards.length≤8) (hr:pre++[x]++rest=setsL m.cards.length) (h:∀ s∈pre,shortX (fsX m.pl) (s % 4096)=false) (hx:shortX (fsX m.pl) (x % 4096)=true):WhyX m.pl=(((x % 4096:Nat):Int),11):=by
 have hxm:x % 4096=x:=BU2 h8 (by rw [← hr];simp)
 have e:whyL (fsX m.pl)=some x:=by
  unfold whyL;rw [AF7,← hr,List.append_assoc,List.find?_append]
  have h1:pre.find? (shortX (fsX m.pl))=none:=by
   rw [List.find?_eq_none];intro s hs
   have:=h s hs
   rw [BU2 h8 (by rw [← hr];simp [hs])] at this;simp [this]
  rw [hxm] at hx;rw [h1];simp [hx]
 unfold WhyX;rw [if_pos hX,e,hxm]
end Go.Hp
namespace Go.Q
open Go Go.Eng Go.Hp Go.Pw1
set_option maxHeartbeats 1000000 in
theorem Cm3 (m:MxA) (hsm:MSm m) (W:World) (hM:MOk W m) (hX:mixedX m.pl=true) (hc0:m.cards.length=0):CC 141 #[m.v] W (Pure (.tuple #[.I (WhyX m.pl).1,.I (WhyX m.pl).2]) W):=by
 obtain ⟨h4,h8,h12⟩:=Ao8 hX;have hfl:=AF7 m;have hall12:∀ f∈(fsX m.pl),f < 2 ^ 12:=fun f hf=>Ky (Cu0 m f hf) (Lk (by decide) h12)
 refine Ai0 func141 rfl rfl ?_;refine st ?_;refine zn (Lm rfl) (fun b1=>?_)
 refine zn (Lp Al2) (fun b2=>?_)
 refine zn (Lp Am5) (fun b3=>?_)
 refine Xl (zF rfl AX7) (fun w hm=>Aw8 m hsm w (hM.mono0 hm) hX) (fun z11=>?_)
 obtain ⟨⟨bh11,bm11,x11,y11⟩,hx11,hy11⟩:=z11;dsimp only;refine st ?_;refine zn (Lp AO7) (fun b4=>?_)
 refine sQ .here ?_;refine sQ (.there .here) ?_;refine su ?_;refine Ly rfl (fun h=>absurd h (by simp)) ?_;intro c0;clear c0;refine su ?_;refine Xj (zF rfl CR4) (fun w hm=>Bn7 m.cards.length w) (fun b23=>?_)
 refine st ?_;refine AY6 (α:=Nat) (Y:=Unit) (N:=5000) (S:=fun xs=>xs=setsL m.cards.length) (Sp:=fun pre=>∃ r,pre++r=setsL m.cards.length) [(b23,_),(b4,_),(b1,_),(bh11,_),(bm11,_)] (fun x=>[.int .u64 ((x % 4096:Nat):Int)]) (fun pre=>[(b2,.cells [.I 0].toArray 3),(b3,.cells [.I 0].toArray 49)]) (fun x y q=>(5,.int .u64 ((x % 4096:Nat):Int))::q) (fun x y=>[]) (fun e pre V=>e = .ret∧∃ pre0 x,pre=pre0++[x]∧(∀ s∈pre0,shortX (fsX m.pl) (s % 4096)=false)∧shortX (fsX m.pl) (x % 4096)=true∧V=[(b2,.cells [.I ((x % 4096:Nat):Int)].toArray 3),(b3,.cells [.I 11].toArray 49)]) (fun pre=>∀ s∈pre,shortX (fsX m.pl) (s % 4096)=false) (fun s hs=>by cases hs) (zS 2 rfl (zS 3 rfl (zS 4 rfl (Sub.nil _)))) (.cons (.there (.there (.there .here))) rfl (.cons (.there (.there .here)) rfl (.cons .here rfl (.cons .here rfl (.cons .here rfl (.cons .here rfl (.cons .here rfl .nil))))))) (fun _=>rfl) (fun _ _ _ hb=>by simp only [List.mem_cons,List.not_mem_nil,or_false,Prod.mk.injEq] at hb;rcases hb with ⟨_,rfl⟩ | ⟨_,rfl⟩ <;> rfl) (fun _ _ _ _ hb=>by cases hb) (fun _=>rfl) rfl rfl CQ7 (fun w hm=>Bn6 m.cards.length h8 b23 w _ (hm.at mm2) (hm.apart mm0)) ?_ ?_ ?_ ?_
 ·intro l1 pre x V1 hV1
  refine Ab6 ?_;refine st ?_;exact BB9 () rfl (zE 5 rfl rfl (zS 2 rfl (zS 3 rfl (zS 4 rfl (Sub.nil _))))) .nil
 ·intro l1 pre x y W1 hlen1 hIv1 hI1 hL1 hAp1
  have hv1_b23:=hI1.at mm2;have hn1_b23:=hAp1 _ (.inl ⟨_,mm0⟩);have hv1_b4:=hI1.at mm3;have hn1_b4:=hAp1 _ (.inl ⟨_,mm1⟩);have hv1_b1:=hI1.at mm4;have hn1_b1:=hAp1 _ (.inl ⟨_,mm2⟩);have hv1_bh11:=hI1.at mm5;have hn1_bh11:=hAp1 _ (.inl ⟨_,mm3⟩);have hv1_bm11:=hI1.at mm6;have hn1_bm11:=hAp1 _ (.inl ⟨_,mm4⟩);obtain ⟨s,hsx⟩:∃ s,x % 4096=s:=⟨_,rfl⟩;have hs4:s < 4096:=by omega
  have hua:=Bu2 (s:=s) hall12 0;rw [hsx];refine Km ?_;refine Ki ?_;refine Ab6 ?_;refine st ?_;refine Kl ?_;refine Ki ?_;refine Ki ?_;refine Ab6 ?_;refine lu (Aa0 rfl hv1_b4 (Az2 rfl hn1_b4) AL9 rfl) ?_;refine lu (Aa0 rfl hv1_bh11 (Az2 rfl hn1_bh11) Bm7 rfl) ?_;refine Kl ?_;refine Km ?_;refine Bk7 ((fsX m.pl).length) (fun k q=>(30,.int .i64 (k:Int))::(6,.int .u64 ((unionL s 0 ((fsX m.pl).take k):Nat):Int))::q) (fun _=>_) (fun _=>[]) (fun _=>True) trivial rfl (zE 30 rfl rfl (zE 6 rfl rfl (zS 2 rfl (zS 3 rfl (zS 4 rfl (zS 5 rfl (zS 28 rfl (zS 29 rfl (Sub.nil _))))))))) .nil ?_;intro k kN kI;clear kI;refine Ki ?_;refine Ab6 ?_;refine st ?_;refine Kl ?_;refine Ki ?_;refine Kn rfl (fun h=>absurd h (by simp;omega)) ?_;intro c1;clear c1;have hkn:k=(fsX m.pl).length:=by omega
  simp only [hkn,List.take_length];refine Kq ?_;refine su ?_;refine Aa4 ?_;refine Kl ?_;refine Ki ?_;refine Ab6 ?_;refine st ?_;refine zc (zF rfl Bi2) (fun w hm=>AB9 (unionL s 0 (fsX m.pl)) hua w) ?_;refine zc (zF rfl Bi2) (fun w hm=>AB9 s hs4 w) ?_;refine Kl ?_;refine Kn rfl ?_ ?_
  ·intro c3
   have c3':=c3;clear c3;try simp only [nH] at c3'
   have hsh:shortX (fsX m.pl) (x % 4096)=true:=by (rw [hsx];exact decide_eq_true (by omega))
   refine Ki ?_;refine Ab6 ?_;refine st ?_;refine lv (Al5 rfl Cz7 BC9 (Lq _ ⟨by omega,by omega⟩)) ?_;refine Xs (Ab7 rfl rfl .here Ae0 rfl rfl) ?_;refine Xs (Ab7 rfl rfl (.there .here) Af8 rfl rfl) ?_;refine st ?_;refine Kl ?_;refine Kp ?_;refine Ad4 ?_;refine AM6 ?_;exact AM5 [(b2,_),(b3,_)] [] ⟨rfl,pre,x,rfl,hIv1,hsh,(by rw [hsx])⟩ rfl
  intro c3;have c3':=c3;clear c3;try simp only [nH] at c3'
  have hsh:shortX (fsX m.pl) (x % 4096)=false:=by (rw [hsx];exact decide_eq_false (by omega))
  refine Ko ?_;refine st ?_;refine Bs5 (CK9 hIv1 hsh) ?_;exact Aq9 [] rfl
 ·intro xs bD0 hXS hXI
  obtain rfl:=hXS;have e9:WhyX m.pl=(0,0):=Ce8 hX h8 hXI;rw [e9];refine st ?_;refine sQ (.there .here) ?_;refine sQ (.there (.there .here)) ?_;refine su ?_;exact Ap4 [bD0] (qG .nil) (.r2 rfl (.one rfl mm0 Ae0 rfl) (.one rfl mm1 Af8 rfl)) (AD9 (by rfl))
 intro c pre V' bD0 hSp hNm hSt;obtain ⟨rfl,pre0,x,rfl,hbef,hsh,rfl⟩:=hSt;obtain ⟨rest,hrest⟩:=hSp;have e9:WhyX m.pl=(((x % 4096:Nat):Int),11):=Ce7 hX h8 hrest hbef hsh;rw [e9];refine su ?_;exact Ap4 [bD0] (qG .nil) (.r2 rfl (.one rfl mm0 Ae0 rfl) (.one rfl mm1 Af8 rfl)) (AD9 (by rfl))
set_option maxHeartbeats 1000000 in
theorem BX0 (m:MxA) (hsm:MSm m) (W:World) (hM:MOk W m) (hX:mixedX m.pl=true) (hc0:0 < m.cards.length):CC 141 #[m.v] W (Pure (.tuple #[.I (WhyX m.pl).1,.I (WhyX m.pl).2]) W):=by
 obtain ⟨h4,h8,h12⟩:=Ao8 hX;have hfl:=AF7 m;have hall12:∀ f∈(fsX m.pl),f < 2 ^ 12:=fun f hf=>Ky (Cu0 m f hf) (Lk (by decide) h12)
 refine Ai0 func141 rfl rfl ?_;refine st ?_;refine zn (Lm rfl) (fun b1=>?_)
 refine zn (Lp Al2) (fun b2=>?_)
 refine zn (Lp Am5) (fun b3=>?_)
 refine Xl (zF rfl AX7) (fun w hm=>Aw8 m hsm w (hM.mono0 hm) hX) (fun z11=>?_)
 obtain ⟨⟨bh11,bm11,x11,y11⟩,hx11,hy11⟩:=z11;obtain ⟨bf11,cf11,rf11,e11,-,-,-⟩:=OwnOk.has hy11 (by omega);dsimp only at e11;subst e11;dsimp only;refine st ?_;refine zn (Lp AO7) (fun b4=>?_)
 refine sQ .here ?_;refine sQ (.there .here) ?_;refine su ?_;refine Ly rfl (fun h=>absurd h (by simp)) ?_;intro c0;clear c0;refine su ?_;refine Xj (zF rfl CR4) (fun w hm=>Bn7 m.cards.length w) (fun b23=>?_)
 refine st ?_;refine AY6 (α:=Nat) (Y:=Unit) (N:=5000) (S:=fun xs=>xs=setsL m.cards.length) (Sp:=fun pre=>∃ r,pre++r=setsL m.cards.length) [(b23,_),(b4,_),(b1,_),(bh11,_),(bm11,_),(bf11,_)] (fun x=>[.int .u64 ((x % 4096:Nat):Int)]) (fun pre=>[(b2,.cells [.I 0].toArray 3),(b3,.cells [.I 0].toArray 49)]) (fun x y q=>(5,.int .u64 ((x % 4096:Nat):Int))::q) (fun x y=>[]) (fun e pre V=>e = .ret∧∃ pre0 x,pre=pre0++[x]∧(∀ s∈pre0,shortX (fsX m.pl) (s % 4096)=false)∧shortX (fsX m.pl) (x % 4096)=true∧V=[(b2,.cells [.I ((x % 4096:Nat):Int)].toArray 3),(b3,.cells [.I 11].toArray 49)]) (fun pre=>∀ s∈pre,shortX (fsX m.pl) (s % 4096)=false) (fun s hs=>by cases hs) (zS 2 rfl (zS 3 rfl (zS 4 rfl (Sub.nil _)))) (.cons (.there (.there (.there .here))) rfl (.cons (.there (.there .here)) rfl (.cons .here rfl (.cons .here rfl (.cons .here rfl (.cons .here rfl (.cons .here rfl (.cons .here rfl .nil)))))))) (fun _=>rfl) (fun _ _ _ hb=>by simp only [List.mem_cons,List.not_mem_nil,or_false,Prod.mk.injEq] at hb;rcases hb with ⟨_,rfl⟩ | ⟨_,rfl⟩ <;> rfl) (fun _ _ _ _ hb=>by cases hb) (fun _=>rfl) rfl rfl CQ7 (fun w hm=>Bn6 m.cards.length h8 b23 w _ (hm.at mm2) (hm.apart mm0)) ?_ ?_ ?_ ?_
 ·intro l1 pre x V1 hV1
  refine Ab6 ?_;refine st ?_;exact BB9 () rfl (zE 5 rfl rfl (zS 2 rfl (zS 3 rfl (zS 4 rfl (Sub.nil _))))) .nil
 ·intro l1 pre x y W1 hlen1 hIv1 hI1 hL1 hAp1
  have hv1_b23:=hI1.at mm2;have hn1_b23:=hAp1 _ (.inl ⟨_,mm0⟩);have hv1_b4:=hI1.at mm3;have hn1_b4:=hAp1 _ (.inl ⟨_,mm1⟩);have hv1_b1:=hI1.at mm4;have hn1_b1:=hAp1 _ (.inl ⟨_,mm2⟩);have hv1_bh11:=hI1.at mm5;have hn1_bh11:=hAp1 _ (.inl ⟨_,mm3⟩);have hv1_bm11:=hI1.at mm6;have hn1_bm11:=hAp1 _ (.inl ⟨_,mm4⟩);have hv1_bf11:=hI1.at mm7;have hn1_bf11:=hAp1 _ (.inl ⟨_,mm5⟩);obtain ⟨s,hsx⟩:∃ s,x % 4096=s:=⟨_,rfl⟩;have hs4:s < 4096:=by omega
  have hua:=Bu2 (s:=s) hall12 0;rw [hsx];have hSf:Sl W1 (some ⟨bf11,0,none⟩) bf11 0 1 (setsV (fsX m.pl)):=CC1 (z:=(bf11,cf11,rf11)) hv1_bf11;refine Km ?_;refine Ki ?_;refine Ab6 ?_;refine st ?_;refine Kl ?_;refine Ki ?_;refine Ki ?_;refine Ab6 ?_;refine lu (Aa0 rfl hv1_b4 (Az2 rfl hn1_b4) AL9 rfl) ?_;refine lu (Aa0 rfl hv1_bh11 (Az2 rfl hn1_bh11) Bm7 rfl) ?_;refine Kl ?_;refine Km ?_;refine Bk7 ((fsX m.pl).length) (fun k q=>(30,.int .i64 (k:Int))::(6,.int .u64 ((unionL s 0 ((fsX m.pl).take k):Nat):Int))::q) (fun _=>_) (fun _=>[]) (fun _=>True) trivial rfl (zE 30 rfl rfl (zE 6 rfl rfl (zS 2 rfl (zS 3 rfl (zS 4 rfl (zS 5 rfl (zS 28 rfl (zS 29 rfl (Sub.nil _))))))))) .nil ?_;intro k kN kI;clear kI;refine Ki ?_;refine Ab6 ?_;refine st ?_;refine Kl ?_;refine Ki ?_;refine Kn rfl ?_ ?_
  ·intro c1
   have c1':=c1;clear c1;try simp only [nH] at c1'
   have hk:k < (fsX m.pl).length:=by omega
   obtain ⟨f,hf⟩:∃ f,(fsX m.pl)[k]=f:=⟨_,rfl⟩;have hf12:=hall12 f (hf ▸ List.getElem_mem hk);have hu:=Bu2 (s:=s) (fun x hx=>hall12 x (List.mem_of_mem_take hx)) 0 (l:=(fsX m.pl).take k);refine Ko ?_;refine Kl ?_;refine Ki ?_;refine Km ?_;refine Ki ?_;refine Ab6 ?_;refine st ?_;refine lv (Ab1 rfl rfl Au7 (by omega) (by omega)) ?_;refine lv (Aa5 rfl (fun w hm=>hSf.loadM1 (by decide) hm (Az2 rfl hn1_bf11) Bc9 hk (v:=.int .u64 (f:Int)) (by simp [hf]))) ?_;refine Kl ?_;refine Ki ?_;refine Ab6 ?_;refine st ?_;refine zc (zF rfl BZ8) (fun w hm=>Bh1 s k (by omega) (by omega) w) ?_;refine Kl ?_;refine Kn rfl ?_ ?_
   ·intro c2
    have c2':=c2;clear c2;try simp only [nH] at c2'
    refine Ab6 ?_;refine st ?_;refine zn (Lu (parts:=[(0,.tmp 38),(1,.tmp 39)]) rfl Au7 Ay2 rfl rfl rfl rfl) (fun b40=>?_)
    refine zc (zF rfl AO1) (fun w hm=>Al3 (unionL s 0 ((fsX m.pl).take k)) f hu hf12 b40 w (hm.at mm2)) ?_;refine Kl ?_;refine Ab6 ?_;refine lA ?_;exact Ac2 (by omega) trivial rfl (zE 30 rfl rfl (zE 6 rfl (by first | rw [BC6 hk hf c2'] | rw [Cf0 hk hf c2']) (zS 2 rfl (zS 3 rfl (zS 4 rfl (zS 5 rfl (zS 28 rfl (zS 29 rfl (Sub.nil _))))))))) .nil
   intro c2;have c2':=c2;clear c2;try simp only [nH] at c2'
   refine Ko ?_;refine st ?_;refine Kl ?_;refine Ab6 ?_;refine lA ?_;exact Ac2 (by omega) trivial rfl (zE 30 rfl rfl (zE 6 rfl (by first | rw [BC6 hk hf c2'] | rw [Cf0 hk hf c2']) (zS 2 rfl (zS 3 rfl (zS 4 rfl (zS 5 rfl (zS 28 rfl (zS 29 rfl (Sub.nil _))))))))) .nil
  intro c1;have c1':=c1;clear c1;try simp only [nH] at c1'
  have hkn:k=(fsX m.pl).length:=by omega
  simp only [hkn,List.take_length];refine Kq ?_;refine su ?_;refine Aa4 ?_;refine Kl ?_;refine Ki ?_;refine Ab6 ?_;refine st ?_;refine zc (zF rfl Bi2) (fun w hm=>AB9 (unionL s 0 (fsX m.pl)) hua w) ?_;refine zc (zF rfl Bi2) (fun w hm=>AB9 s hs4 w) ?_;refine Kl ?_;refine Kn rfl ?_ ?_
  ·intro c3
   have c3':=c3;clear c3;try simp only [nH] at c3'
   have hsh:shortX (fsX m.pl) (x % 4096)=true:=by (rw [hsx];exact decide_eq_true (by omega))
   refine Ki ?_;refine Ab6 ?_;refine st ?_;refine lv (Al5 rfl Cz7 BC9 (Lq _ ⟨by omega,by omega⟩)) ?_;refine Xs (Ab7 rfl rfl .here Ae0 rfl rfl) ?_;refine Xs (Ab7 rfl rfl (.there .here) Af8 rfl rfl) ?_;refine st ?_;refine Kl ?_;refine Kp ?_;refine Ad4 ?_;refine AM6 ?_;exact AM5 [(b2,_),(b3,_)] [] ⟨rfl,pre,x,rfl,hIv1,hsh,(by rw [hsx])⟩ rfl
  intro c3;have c3':=c3;clear c3;try simp only [nH] at c3'
  have hsh:shortX (fsX m.pl) (x % 4096)=false:=by (rw [hsx];exact decide_eq_false (by omega))
  refine Ko ?_;refine st ?_;refine Bs5 (CK9 hIv1 hsh) ?_;exact Aq9 [] rfl
 ·intro xs bD0 hXS hXI
  obtain rfl:=hXS;have e9:WhyX m.pl=(0,0):=Ce8 hX h8 hXI;rw [e9];refine st ?_;refine sQ (.there .here) ?_;refine sQ (.there (.there .here)) ?_;refine su ?_;exact Ap4 [bD0] (qG (qC .nil)) (.r2 rfl (.one rfl mm0 Ae0 rfl) (.one rfl mm1 Af8 rfl)) (AD9 (by rfl))
 intro c pre V' bD0 hSp hNm hSt;obtain ⟨rfl,pre0,x,rfl,hbef,hsh,rfl⟩:=hSt;obtain ⟨rest,hrest⟩:=hSp;have e9:WhyX m.pl=(((x % 4096:Nat):Int),11):=Ce7 hX h8 hrest hbef hsh;rw [e9];refine su ?_;exact Ap4 [bD0] (qG (qC .nil)) (.r2 rfl (.one rfl mm0 Ae0 rfl) (.one rfl mm1 Af8 rfl)) (AD9 (by rfl))
set_option maxHeartbeats 1000000 in
theorem Cy5 (m:MxA) (hsm:MSm m) (W:World) (hM:MOk W m):CC 141 #[m.v] W (Pure (.tuple #[.I (WhyX m.pl).1,.I (WhyX m.pl).2]) W):=by
 cases hX:mixedX m.pl with
 | false =>
   have e:WhyX m.pl=(0,1):=by unfold WhyX;rw [hX];rfl
   rw [e];refine Ai0 func141 rfl rfl ?_;refine st ?_;refine zn (Lm rfl) (fun b1=>?_)
   refine zn (Lp Al2) (fun b2=>?_)
   refine zn (Lp Am5) (fun b3=>?_)
   refine zc (zF rfl AX7) (fun w hm=>Bf0 m hsm w (hM.mono0 hm) hX) ?_;refine zn (Lp AO7) (fun b4=>?_)
   refine sQ .here ?_;refine sQ (.there .here) ?_;refine su ?_;refine Ly rfl ?_ (fun h=>absurd h (by simp))
   intro c0;clear c0;refine st ?_;refine Ao2 2 Ah8 (qE (qD .nil)) ?_;refine zw 0 ?_;refine zA 1 ?_;refine Xr rfl (Lt rfl rfl (.there (.there .here)) Ae0 rfl rfl) (Aa2 (qE (qD .nil)) (qE (qC .nil)) rfl ?_)
   refine zt ?_;refine zB 2 ?_;refine Xr rfl (Lt rfl rfl (.there .here) Af8 rfl rfl) (Ab2 ?_)
   refine zd ?_;refine Ae5 ?_;refine su ?_;exact Ap4 [] (qF .nil) (.r2 rfl (.one rfl mm2 Ae0 rfl) (.one rfl mm1 Af8 rfl)) (AD9 (by first | rfl | simp))
 | true =>
   obtain ⟨h4,h8,h12⟩:=Ao8 hX;have hfl:=AF7 m;have hall12:∀ f∈(fsX m.pl),f < 2 ^ 12:=fun f hf=>Ky (Cu0 m f hf) (Lk (by decide) h12)
   rcases Kz m.cards.length with hc0 | hc0
   · exact Cm3 m hsm W hM hX hc0
   · exact BX0 m hsm W hM hX hc0
theorem Al1:Enters π 30:=eZ func30
theorem CI5:(π.underlying 90).any (fun t=>match t with | .interface _=>false | _=>true)=true:=by kernel_rfl
theorem CF5:placesB π 90=some [(0,1)]:=by kernel_rfl
theorem Cy1:zeroB π 90=some [.I 0]:=by kernel_rfl
open Go.Dk
def dmis (k:Int):Value:=.iface 90 (.agg #[.I k])
theorem Ad7 (b:Bool) (e:Int) (W:World):CC 30 #[.bool b,.I e] W (Try dmis (needX b e) W):=by
 refine cS func30 ?_;refine st ?_;refine cn rfl ?_ ?_
 ·intro c0'
  refine st ?_;refine lv (Lr (parts:=[(0,.tmp 6)]) rfl Cy1 CF5 rfl) ?_;refine lv (Lz rfl CI5) ?_;refine AA7 rfl ?_;exact Ae2 (k:=e) (by simp [needX,show b=false by simpa using c0'])
 intro c0';refine st ?_;exact At4 (.r0 rfl) (by simp [needX,show b=true by simpa using c0'])
def fineX (e:Int):Except Int Value:=if e=0 then .ok (.tuple #[]) else .error e
theorem Au3 {e:Int} {v:Value} (h:fineX e = .ok v):e=0∧v = .tuple #[]:=by
 unfold fineX at h
 split at h
 · cases h;exact ⟨by assumption,rfl⟩
 · cases h
theorem An2 {e k:Int} (h:fineX e = .error k):e ≠ 0∧k=e:=by
 unfold fineX at h
 split at h
 · cases h
 · cases h;exact ⟨by assumption,rfl⟩
theorem Ah2 (e:Int) (W:World):CC 132 #[.I e] W (Try dmis (fineX e) W):=by
 refine cS func132 ?_;refine st ?_;refine Xh (zF rfl Al1) (fun w hm=>Ad7 _ _ w) (fun e5 he5=>?_) (fun v5 hv5=>?_)
 ·obtain ⟨er5,rfl⟩:=Ac9 he5
  exact Ae2 (by simp_all [fineX])
 obtain ⟨ok5,rfl⟩:=Ad9 hv5;refine st ?_;exact At4 (.r0 rfl) (by simp_all [fineX])
end Go.Q
namespace Go.Dk
open Go Go.Eng Go.Pw1 Go.Hp
structure VwX where
 p:Pr
 t:Eng.Own
 cuts:Tr
 up:Bool
structure BoX where
 colour:Int
 t:Eng.Own
 titles:List Str
structure DkX where
 v:Eng.Own
 vs:List VwX
 b:Eng.Own
 bs:List BoX
 c:Eng.Own
 cs:List Tn
def VwX.pl (v:VwX):Vw:=⟨v.p,v.cuts,v.up⟩
def BoX.pl (x:BoX):Bx:=⟨x.colour,x.titles⟩
def DkX.pl (d:DkX):Bn:=⟨d.vs.map VwX.pl,⟨d.bs.map BoX.pl,d.cs⟩⟩
def VwX.cells (v:VwX):LV:=[.I v.p.focal.lo,.I v.p.focal.hi,.I v.p.base.lo,.I v.p.base.hi,.I v.p.tilt,.I v.p.near,.I v.p.far,ownV v.t v.p.things.length,
 .I v.cuts.ll,.I v.cuts.lr,.I v.cuts.rl,.I v.cuts.rr,.bool v.up]
def BoX.cells (x:BoX):LV:=[.I x.colour,ownV x.t x.titles.length]
def strsC (l:List Str):LV:=l.map fun s=>.string (bs s)
structure DkOk (d:DkX):Prop where
 v:OwnOk 13 d.v d.vs.length (d.vs.map VwX.cells).flatten
 vs:∀ x∈d.vs,OwnOk 9 x.t x.p.things.length (x.p.things.map Th.cells).flatten
 b:OwnOk 2 d.b d.bs.length (d.bs.map BoX.cells).flatten
 bs:∀ x∈d.bs,OwnOk 1 x.t x.titles.length (strsC x.titles)
 c:OwnOk 3 d.c d.cs.length (d.cs.map Tn.cells).flatten
 few:d.vs.length≤4∧d.bs.length≤4∧d.cs.length≤8
 things:∀ x∈d.vs,x.p.things.length≤12
 ti:∀ x∈d.bs,x.titles.length≤1000∧∀ t∈x.titles,t.length≤1000000
 tx:∀ t∈d.cs,t.number.length≤1000000∧t.text.length≤1000000
def DkX.cells (d:DkX) (c:Cd):LV:=[ownV d.v d.vs.length,ownV d.b d.bs.length,ownV d.c d.cs.length]++(bareC c).cells none 0++[.bool true]
end Go.Dk
namespace Go.Q
open Go Go.Eng Go.Pw1 Go.Hp Go.Dk
abbrev vwB (v:VwX):Blks:=ownB 145 v.t (v.p.things.map Th.cells).flatten
abbrev boB (x:BoX):Blks:=ownB 9 x.t (strsC x.titles)
abbrev dkB (d:DkX):Blks:=ownB 46 d.v (d.vs.map VwX.cells).flatten++((d.vs.map vwB).flatten++(ownB 65 d.b (d.bs.map BoX.cells).flatten++((d.bs.map boB).flatten++ownB 165 d.c (d.cs.map Tn.cells).flatten)))
abbrev dkO (d:DkX) (c:Cd):Obj:=.cells (d.cells c).toArray 88 (0,0)
theorem DP7:Enters π 85:=eZ func85
end Go.Q
namespace Go.Dk
open Go Go.Eng Go.Pw1 Go.Hp
def wordR (c:Int):Bool:=(decide (97≤c) && decide (c≤122)) || (decide (48≤c) && decide (c≤57)) || decide (c=63) || decide (c=42)
end Go.Dk
namespace Go.Q
open Go Go.Eng Go.Pw1 Go.Hp Go.Dk
theorem Bz3 (c:Int) (W:World):CC 85 #[.int .i32 c] W (Pure (.bool (wordR c)) W):=by
 refine cS func85 ?_;refine st ?_
 refine Ab0 (dj:=5) (dp:=8) 3 rfl (fun g5=>by
  refine sv ?_;exact zs g5
 ) (fun g5=>by
   refine nQ ?_;refine nQ ?_;refine sv ?_;exact zs g5
 ) ?_
 refine st ?_
 refine Ac5 (dj:=9) (dp:=16) 7 rfl (fun g9=>by
  refine st ?_
  refine Ab0 (dj:=12) (dp:=15) 3 rfl (fun g12=>by
   refine sv ?_;exact zs g12
  ) (fun g12=>by
    refine nQ ?_;refine nQ ?_;refine sv ?_;exact zs g12
  ) ?_
  refine sv ?_;exact zs g9
 ) (fun g9=>by
   iterate 6 refine nQ ?_
   refine sv ?_;exact zs g9
 ) ?_
 refine st ?_
 refine Ac5 (dj:=17) (dp:=20) 3 rfl (fun g17=>by
  refine sv ?_;exact zs g17
 ) (fun g17=>by
   refine nQ ?_;refine nQ ?_;refine sv ?_;exact zs g17
 ) ?_
 refine st ?_
 refine Ac5 (dj:=21) (dp:=24) 3 rfl (fun g21=>by
  refine sv ?_;exact zs g21
 ) (fun g21=>by
   refine nQ ?_;refine nQ ?_;refine sv ?_;exact zs g21
 ) ?_
 refine su ?_;exact Aa9 rZ (by unfold wordR;rfl)
theorem BG4 (c:Int) (W:World):CC 84 #[.int .i32 c] W (Pure (.bool (!wordR c)) W):=by
 refine cS func84 ?_;refine st ?_;refine zc (zF rfl DP7) (fun w hm=>Bz3 c w) ?_;exact rP
theorem Di7:fieldB π 46 2=some 12:=by kernel_rfl
instance:Fld π 46 2 12:=⟨Di7⟩
end Go.Q
namespace Go.Dk
open Go Go.Eng Go.Pw1 Go.Hp
theorem Cf9 (c:Cd):(seenX c).2=1 ↔ cardIs c=false:=by
 unfold seenX openM
 cases h:cardIs c with
 | false=>simp
 | true =>
   have h1:=(Ax2 h).2;simp only [if_true,List.all_nil,Bool.true_eq_false,iff_false]
   split
   · simp
   · exact h1
end Go.Dk
namespace Go.Proofs
open Go.Shelf
def lays156_ren:Go.Shelf.Ren:=⟨fun | 156=>187 | 165=>245 | 166=>246 | 169=>247 | 240=>268 | 241=>269 | 276=>282 | 277=>283 | n=>n,fun | 31=>29 | 9=>9 | 3=>3 | 4=>4 | 0=>0 | 20=>20 | 72=>365 | 76=>56 | 70=>363 | 37=>176 | 75=>55 | 127=>344 | 164=>409 | 5=>5 | 80=>366 | n=>n,fun | n=>n⟩
theorem Tryz.lays156:Go.Proofs.Lays.n156 π lays156_ren:={
 mixed:=by kernel_rfl
 f156:=func187.trans (congrArg some (by kernel_rfl))
 f165:=func245.trans (congrArg some (by kernel_rfl))
 f166:=func246.trans (congrArg some (by kernel_rfl))
 f169:=func247.trans (congrArg some (by kernel_rfl))
 f240:=func268.trans (congrArg some (by kernel_rfl))
 f241:=func269.trans (congrArg some (by kernel_rfl))
 f276:=func282.trans (congrArg some (by kernel_rfl))
 f277:=func283.trans (congrArg some (by kernel_rfl))
 t0:=underlying0
 a0:=isAgg0
 z0:=sizeOf0
 v0:=zeroValue0
 t3:=underlying3
 a3:=isAgg3
 z3:=sizeOf3
 v3:=zeroValue3
 t4:=underlying4
 a4:=isAgg4
 z4:=sizeOf4
 v4:=zeroValue4
 t9:=underlying9
 a9:=isAgg9
 z9:=sizeOf9
 v9:=zeroValue9
 t20:=underlying20
 a20:=isAgg20
 z20:=sizeOf20
 v20:=zeroValue20
 t31:=underlying29
 a31:=isAgg29
 z31:=sizeOf29
 v31:=zeroValue29
 t37:=underlying176
 a37:=isAgg176
 z37:=sizeOf176
 v37:=zeroValue176
 t70:=underlying363
 a70:=isAgg363
 z70:=sizeOf363
 v70:=zeroValue363
 t72:=underlying365
 a72:=isAgg365
 z72:=sizeOf365
 v72:=zeroValue365
 t75:=underlying55
 a75:=isAgg55
 z75:=sizeOf55
 v75:=zeroValue55
 t76:=underlying56
 a76:=isAgg56
 z76:=sizeOf56
 v76:=zeroValue56
 t127:=underlying344
 a127:=isAgg344
 z127:=sizeOf344
 v127:=zeroValue344
 t164:=underlying409
 a164:=isAgg409
 z164:=sizeOf409
 v164:=zeroValue409 }
theorem Tryz.Builder_Extra_156:Builder.Extra π lays156_ren:={
 sizeBuilder:=by kernel_rfl
 liesBuilder:=by kernel_rfl
 t5:=underlying5
 a5:=isAgg5
 z5:=sizeOf5
 v5:=zeroValue5
 infoByte:=by kernel_rfl
 cellsByte:=by kernel_rfl
 sizeByte:=by kernel_rfl
 neB5:=by decide }
open Go.RowKit in
theorem Tryz.strings_Join_none (a:OA) (c:Nat) (sep:ByteArray) (w:World) :
  CC 187 #[.slice a 0 c,.string sep] w fun e w'=>e = .returned (.string ⟨#[]⟩)∧w'=w:=Any.strings_Join_none lays156 Tryz.Builder_Extra_156 a c sep w
open Go.RowKit in
theorem Tryz.strings_Join (bk o c:Nat) (xs:List ByteArray) (sep:ByteArray) (w:World) (hcells:∀ (j:Nat) x,xs[j]? = some x→w.cell? ⟨bk,o + j,none⟩=some (.string x)) (hbk:bk < w.heap.size) (hN:xs.length≤140737488355328) (hcap:xs.length≤c) (hlen:(Lib.join (xs.map (·.data.toList)) sep.data.toList).length≤140737488355328) :
  CC 187 #[.slice (some ⟨bk,o,none⟩) xs.length c,.string sep] w fun e w'=>e = .returned (.string ⟨(Lib.join (xs.map (·.data.toList)) sep.data.toList).toArray⟩)∧Below w.heap.size w w':=Any.strings_Join lays156 Tryz.Builder_Extra_156 bk o c xs sep w hcells hbk hN hcap hlen
def laysM171_ren:Go.Shelf.Ren:=⟨fun | 171=>12 | 243=>35 | 246=>100 | 283=>143 | 284=>144 | 285=>145 | 286=>146 | 129=>218 | 317=>217 | 318=>219 | 319=>220 | 320=>221 | 337=>262 | 338=>263 | n=>n,fun | 3=>3 | 9=>9 | 2=>2 | 4=>4 | 171=>250 | 0=>0 | 53=>251 | 37=>176 | 5=>5 | 173=>254 | 212=>339 | 51=>340 | 20=>20 | 213=>341 | 46=>121 | 232=>406 | 233=>407 | n=>n,fun | 17=>2 | 18=>6 | 19=>7 | n=>n⟩
theorem Tryz.laysM171:Go.Proofs.LaysM.n171 π laysM171_ren:={
 mixed:=by kernel_rfl
 f129:=func218.trans (congrArg some (by kernel_rfl))
 f171:=func12.trans (congrArg some (by kernel_rfl))
 f243:=func35.trans (congrArg some (by kernel_rfl))
 f246:=func100.trans (congrArg some (by kernel_rfl))
 f283:=func143.trans (congrArg some (by kernel_rfl))
 f284:=func144.trans (congrArg some (by kernel_rfl))
 f285:=func145.trans (congrArg some (by kernel_rfl))
 f286:=func146.trans (congrArg some (by kernel_rfl))
 f317:=func217.trans (congrArg some (by kernel_rfl))
 f318:=func219.trans (congrArg some (by kernel_rfl))
 f319:=func220.trans (congrArg some (by kernel_rfl))
 f320:=func221.trans (congrArg some (by kernel_rfl))
 f337:=func262.trans (congrArg some (by kernel_rfl))
 f338:=func263.trans (congrArg some (by kernel_rfl))
 t0:=underlying0
 a0:=isAgg0
 z0:=sizeOf0
 v0:=zeroValue0
 t2:=underlying2
 a2:=isAgg2
 z2:=sizeOf2
 v2:=zeroValue2
 t3:=underlying3
 a3:=isAgg3
 z3:=sizeOf3
 v3:=zeroValue3
 t4:=underlying4
 a4:=isAgg4
 z4:=sizeOf4
 v4:=zeroValue4
 t5:=underlying5
 a5:=isAgg5
 z5:=sizeOf5
 v5:=zeroValue5
 t9:=underlying9
 a9:=isAgg9
 z9:=sizeOf9
 v9:=zeroValue9
 t20:=underlying20
 a20:=isAgg20
 z20:=sizeOf20
 v20:=zeroValue20
 t37:=underlying176
 a37:=isAgg176
 z37:=sizeOf176
 v37:=zeroValue176
 t46:=underlying121
 a46:=isAgg121
 z46:=sizeOf121
 v46:=zeroValue121
 t51:=underlying340
 a51:=isAgg340
 z51:=sizeOf340
 v51:=zeroValue340
 t53:=underlying251
 a53:=isAgg251
 z53:=sizeOf251
 v53:=zeroValue251
 t171:=underlying250
 a171:=isAgg250
 z171:=sizeOf250
 v171:=zeroValue250
 t173:=underlying254
 a173:=isAgg254
 z173:=sizeOf254
 v173:=zeroValue254
 t212:=underlying339
 a212:=isAgg339
 z212:=sizeOf339
 v212:=zeroValue339
 t213:=underlying341
 a213:=isAgg341
 z213:=sizeOf341
 t232:=underlying406
 a232:=isAgg406
 z232:=sizeOf406
 v232:=zeroValue406
 t233:=underlying407
 a233:=isAgg407
 z233:=sizeOf407
 v233:=zeroValue407
 g17:=by kernel_rfl
 g18:=by kernel_rfl
 g19:=by kernel_rfl
 i0:=by kernel_rfl
 i2:=by kernel_rfl
 i3:=by kernel_rfl
 i4:=by kernel_rfl
 i5:=by kernel_rfl
 i9:=by kernel_rfl
 i20:=by kernel_rfl
 i37:=by kernel_rfl
 i46:=by kernel_rfl
 i51:=by kernel_rfl
 i53:=by kernel_rfl
 i171:=by kernel_rfl
 i173:=by kernel_rfl
 i212:=by kernel_rfl
 i232:=by kernel_rfl
 i233:=by kernel_rfl
 m17:=by kernel_rfl
 m18:=by kernel_rfl
 m19:=by kernel_rfl }
open Go.RowKit Go.Sort Go.Lib in
theorem Tryz.strconv_Itoa (n:Int) (h0:-9223372036854775808≤n) (h1:n≤9223372036854775807) (w:World) (htab:Lib.TabIs π w "internal/strconv.uint64pow10" .u64 Lib.pow10Tab) :
  CC 12 #[.I n] w fun e w'=>e = .returned (.string ⟨(Lib.itoa n).toArray⟩)∧∃ k os,w'=grow (w.drewN k) os:=Any.strconv_Itoa laysM171 n h0 h1 w htab
def laysC172_ren:Go.Shelf.Ren:=⟨fun | 172=>14 | 244=>37 | 245=>38 | 247=>104 | 279=>105 | 280=>106 | 281=>107 | 282=>108 | 287=>151 | 316=>152 | 171=>12 | 205=>153 | 321=>227 | 322=>228 | 243=>35 | 246=>100 | 283=>143 | 284=>144 | 285=>145 | 286=>146 | 129=>218 | 317=>217 | 318=>219 | 319=>220 | 320=>221 | 337=>262 | 338=>263 | n=>n,fun | 9=>9 | 3=>3 | 75=>55 | 76=>56 | 4=>4 | 5=>5 | 167=>175 | 37=>176 | 0=>0 | 85=>177 | 2=>2 | 168=>179 | 53=>251 | 175=>259 | 46=>121 | 210=>263 | 127=>344 | 145=>347 | 143=>345 | 21=>21 | 171=>250 | 173=>254 | 212=>339 | 51=>340 | 20=>20 | 213=>341 | 232=>406 | 233=>407 | 80=>366 | n=>n,fun | 15=>0 | 16=>1 | 17=>2 | 18=>6 | 19=>7 | n=>n⟩
theorem Tryz.laysC172:Go.Proofs.LaysC.n172 π laysC172_ren:={
 mixed:=by kernel_rfl
 f129:=func218.trans (congrArg some (by kernel_rfl))
 f171:=func12.trans (congrArg some (by kernel_rfl))
 f172:=func14.trans (congrArg some (by kernel_rfl))
 f205:=func153.trans (congrArg some (by kernel_rfl))
 f243:=func35.trans (congrArg some (by kernel_rfl))
 f244:=func37.trans (congrArg some (by kernel_rfl))
 f245:=func38.trans (congrArg some (by kernel_rfl))
 f246:=func100.trans (congrArg some (by kernel_rfl))
 f247:=func104.trans (congrArg some (by kernel_rfl))
 f279:=func105.trans (congrArg some (by kernel_rfl))
 f280:=func106.trans (congrArg some (by kernel_rfl))
 f281:=func107.trans (congrArg some (by kernel_rfl))
 f282:=func108.trans (congrArg some (by kernel_rfl))
 f283:=func143.trans (congrArg some (by kernel_rfl))
 f284:=func144.trans (congrArg some (by kernel_rfl))
 f285:=func145.trans (congrArg some (by kernel_rfl))
 f286:=func146.trans (congrArg some (by kernel_rfl))
 f287:=func151.trans (congrArg some (by kernel_rfl))
 f316:=func152.trans (congrArg some (by kernel_rfl))
 f317:=func217.trans (congrArg some (by kernel_rfl))
 f318:=func219.trans (congrArg some (by kernel_rfl))
 f319:=func220.trans (congrArg some (by kernel_rfl))
 f320:=func221.trans (congrArg some (by kernel_rfl))
 f321:=func227.trans (congrArg some (by kernel_rfl))
 f322:=func228.trans (congrArg some (by kernel_rfl))
 f337:=func262.trans (congrArg some (by kernel_rfl))
 f338:=func263.trans (congrArg some (by kernel_rfl))
 t0:=underlying0
 a0:=isAgg0
 z0:=sizeOf0
 v0:=zeroValue0
 t2:=underlying2
 a2:=isAgg2
 z2:=sizeOf2
 v2:=zeroValue2
 t3:=underlying3
 a3:=isAgg3
 z3:=sizeOf3
 v3:=zeroValue3
 t4:=underlying4
 a4:=isAgg4
 z4:=sizeOf4
 v4:=zeroValue4
 t5:=underlying5
 a5:=isAgg5
 z5:=sizeOf5
 v5:=zeroValue5
 t9:=underlying9
 a9:=isAgg9
 z9:=sizeOf9
 v9:=zeroValue9
 t20:=underlying20
 a20:=isAgg20
 z20:=sizeOf20
 v20:=zeroValue20
 t21:=underlying21
 a21:=isAgg21
 z21:=sizeOf21
 v21:=zeroValue21
 t37:=underlying176
 a37:=isAgg176
 z37:=sizeOf176
 v37:=zeroValue176
 t46:=underlying121
 a46:=isAgg121
 z46:=sizeOf121
 v46:=zeroValue121
 t51:=underlying340
 a51:=isAgg340
 z51:=sizeOf340
 v51:=zeroValue340
 t53:=underlying251
 a53:=isAgg251
 z53:=sizeOf251
 v53:=zeroValue251
 t75:=underlying55
 a75:=isAgg55
 z75:=sizeOf55
 v75:=zeroValue55
 t76:=underlying56
 a76:=isAgg56
 z76:=sizeOf56
 v76:=zeroValue56
 t85:=underlying177
 a85:=isAgg177
 z85:=sizeOf177
 v85:=zeroValue177
 t127:=underlying344
 a127:=isAgg344
 z127:=sizeOf344
 v127:=zeroValue344
 t143:=underlying345
 a143:=isAgg345
 z143:=sizeOf345
 v143:=zeroValue345
 t145:=underlying347
 a145:=isAgg347
 z145:=sizeOf347
 v145:=zeroValue347
 t167:=underlying175
 a167:=isAgg175
 z167:=sizeOf175
 v167:=zeroValue175
 t168:=underlying179
 a168:=isAgg179
 z168:=sizeOf179
 v168:=zeroValue179
 t171:=underlying250
 a171:=isAgg250
 z171:=sizeOf250
 v171:=zeroValue250
 t173:=underlying254
 a173:=isAgg254
 z173:=sizeOf254
 v173:=zeroValue254
 t175:=underlying259
 a175:=isAgg259
 z175:=sizeOf259
 v175:=zeroValue259
 t210:=underlying263
 a210:=isAgg263
 z210:=sizeOf263
 v210:=zeroValue263
 t212:=underlying339
 a212:=isAgg339
 z212:=sizeOf339
 v212:=zeroValue339
 t213:=underlying341
 a213:=isAgg341
 z213:=sizeOf341
 t232:=underlying406
 a232:=isAgg406
 z232:=sizeOf406
 v232:=zeroValue406
 t233:=underlying407
 a233:=isAgg407
 z233:=sizeOf407
 v233:=zeroValue407
 g15:=by kernel_rfl
 g16:=by kernel_rfl
 g17:=by kernel_rfl
 g18:=by kernel_rfl
 g19:=by kernel_rfl
 t80:=underlying366
 a80:=isAgg366
 z80:=sizeOf366
 v80:=zeroValue366
 i0:=by kernel_rfl
 i2:=by kernel_rfl
 i3:=by kernel_rfl
 i4:=by kernel_rfl
 i5:=by kernel_rfl
 i9:=by kernel_rfl
 i20:=by kernel_rfl
 i21:=by kernel_rfl
 i37:=by kernel_rfl
 i46:=by kernel_rfl
 i51:=by kernel_rfl
 i53:=by kernel_rfl
 i75:=by kernel_rfl
 i76:=by kernel_rfl
 i80:=by kernel_rfl
 i85:=by kernel_rfl
 i127:=by kernel_rfl
 i143:=by kernel_rfl
 i145:=by kernel_rfl
 i167:=by kernel_rfl
 i168:=by kernel_rfl
 i171:=by kernel_rfl
 i173:=by kernel_rfl
 i175:=by kernel_rfl
 i210:=by kernel_rfl
 i212:=by kernel_rfl
 i232:=by kernel_rfl
 i233:=by kernel_rfl
 m15:=by kernel_rfl
 m16:=by kernel_rfl
 m17:=by kernel_rfl
 m18:=by kernel_rfl
 m19:=by kernel_rfl
 c0:=by kernel_rfl
 c2:=by kernel_rfl
 c3:=by kernel_rfl
 c4:=by kernel_rfl
 c5:=by kernel_rfl
 c9:=by kernel_rfl
 c20:=by kernel_rfl
 c21:=by kernel_rfl
 c37:=by kernel_rfl
 c46:=by kernel_rfl
 c51:=by kernel_rfl
 c53:=by kernel_rfl
 c75:=by kernel_rfl
 c76:=by kernel_rfl
 c80:=by kernel_rfl
 c85:=by kernel_rfl
 c127:=by kernel_rfl
 c143:=by kernel_rfl
 c145:=by kernel_rfl
 c167:=by kernel_rfl
 c168:=by kernel_rfl
 c171:=by kernel_rfl
 c173:=by kernel_rfl
 c175:=by kernel_rfl
 c210:=by kernel_rfl
 c212:=by kernel_rfl
 c213:=by kernel_rfl
 c232:=by kernel_rfl
 c233:=by kernel_rfl }
open Go.RowKit in
theorem Tryz.strconv_Atoi_ok (s:ByteArray) (hmax:s.size≤9223372036854775806) (v:Int) (h:Lib.atoiAll s.data.toList = .ok v) (w:World) :
  CC 14 #[.string s] w fun e w'=>e = .returned (.tuple #[.I v,.nilIface])∧(w'=w∨∃ t,w'=Lib.bytesWorld w 5 t):=Any.strconv_Atoi_ok laysC172 s hmax v h w
open Go.RowKit in
theorem Tryz.strconv_Atoi_syntax (s:ByteArray) (hlim:s.size≤281474976710656) (h:Lib.atoiAll s.data.toList=Lib.atoiAll []) (ev:Value) (w:World) (hv:w.cell? ⟨0,0,none⟩=some ev) (hev:ev = .nilIface∨∃ te pe,ev = .iface te pe) :
  CC 14 #[.string s] w fun e w'=>∃ N,e = .returned (.tuple #[.I (0),.iface 179 (.pointer (some ⟨N,0,none⟩))])∧w.heap.size≤N∧w'.heap[N]? = some (.cells #[.string ⟨#[65,116,111,105]⟩,.string s,ev] 263 (0,0))∧Below w.heap.size w w':=Any.strconv_Atoi_syntax laysC172 s hlim h ev w hv hev
open Go.RowKit in
theorem Tryz.strconv_Atoi_range (s:ByteArray) (hlim:s.size≤281474976710656) (h:Lib.atoiAll s.data.toList = .range) (ev:Value) (w:World) (hv:w.cell? ⟨1,0,none⟩=some ev) (hev:ev = .nilIface∨∃ te pe,ev = .iface te pe) :
  CC 14 #[.string s] w fun e w'=>∃ N,e = .returned (.tuple #[.I (Lib.atoiSat s.data.toList),.iface 179 (.pointer (some ⟨N,0,none⟩))])∧w.heap.size≤N∧w'.heap[N]? = some (.cells #[.string ⟨#[65,116,111,105]⟩,.string s,ev] 263 (0,0))∧Below w.heap.size w w':=Any.strconv_Atoi_range laysC172 s hlim h ev w hv hev
def laysGw17_ren:Go.Shelf.Ren:=⟨fun | 17=>83 | 15=>128 | 20=>186 | n=>n,fun | 9=>9 | 23=>169 | 4=>4 | 3=>3 | 0=>0 | 21=>21 | n=>n,fun | n=>n⟩
theorem Tryz.laysGw17:Go.Proofs.LaysGw.n17 π laysGw17_ren:={
 mixed:=by kernel_rfl
 f15:=func128.trans (congrArg some (by kernel_rfl))
 f17:=func83.trans (congrArg some (by kernel_rfl))
 f20:=func186.trans (congrArg some (by kernel_rfl))
 t0:=underlying0
 a0:=isAgg0
 z0:=sizeOf0
 v0:=zeroValue0
 i0:=by kernel_rfl
 t3:=underlying3
 a3:=isAgg3
 z3:=sizeOf3
 v3:=zeroValue3
 i3:=by kernel_rfl
 t4:=underlying4
 a4:=isAgg4
 z4:=sizeOf4
 v4:=zeroValue4
 i4:=by kernel_rfl
 t9:=underlying9
 a9:=isAgg9
 z9:=sizeOf9
 v9:=zeroValue9
 i9:=by kernel_rfl
 t21:=underlying21
 a21:=isAgg21
 z21:=sizeOf21
 v21:=zeroValue21
 i21:=by kernel_rfl
 t23:=underlying169
 a23:=isAgg169
 z23:=sizeOf169
 v23:=zeroValue169
 i23:=by kernel_rfl }
def lays146_ren:Go.Shelf.Ren:=⟨fun | 146=>13 | 221=>36 | 268=>101 | 138=>102 | 143=>103 | 195=>147 | 197=>148 | 218=>149 | 219=>150 | 260=>222 | 217=>223 | 225=>224 | 224=>225 | 267=>226 | 266=>264 | 314=>265 | n=>n,fun | 9=>9 | 31=>29 | 3=>3 | 4=>4 | 0=>0 | 105=>256 | 21=>21 | 5=>5 | 46=>121 | 119=>382 | 139=>385 | 138=>384 | 146=>386 | 51=>340 | n=>n,fun | 1=>3 | 3=>4 | 4=>5 | n=>n⟩
theorem Tryz.lays146:Go.Proofs.Lays.n146 π lays146_ren:={
 mixed:=by kernel_rfl
 f138:=func102.trans (congrArg some (by kernel_rfl))
 f143:=func103.trans (congrArg some (by kernel_rfl))
 f146:=func13.trans (congrArg some (by kernel_rfl))
 f195:=func147.trans (congrArg some (by kernel_rfl))
 f197:=func148.trans (congrArg some (by kernel_rfl))
 f217:=func223.trans (congrArg some (by kernel_rfl))
 f218:=func149.trans (congrArg some (by kernel_rfl))
 f219:=func150.trans (congrArg some (by kernel_rfl))
 f221:=func36.trans (congrArg some (by kernel_rfl))
 f224:=func225.trans (congrArg some (by kernel_rfl))
 f225:=func224.trans (congrArg some (by kernel_rfl))
 f260:=func222.trans (congrArg some (by kernel_rfl))
 f266:=func264.trans (congrArg some (by kernel_rfl))
 f267:=func226.trans (congrArg some (by kernel_rfl))
 f268:=func101.trans (congrArg some (by kernel_rfl))
 f314:=func265.trans (congrArg some (by kernel_rfl))
 t0:=underlying0
 a0:=isAgg0
 z0:=sizeOf0
 v0:=zeroValue0
 t3:=underlying3
 a3:=isAgg3
 z3:=sizeOf3
 v3:=zeroValue3
 t4:=underlying4
 a4:=isAgg4
 z4:=sizeOf4
 v4:=zeroValue4
 t5:=underlying5
 a5:=isAgg5
 z5:=sizeOf5
 v5:=zeroValue5
 t9:=underlying9
 a9:=isAgg9
 z9:=sizeOf9
 v9:=zeroValue9
 t21:=underlying21
 a21:=isAgg21
 z21:=sizeOf21
 v21:=zeroValue21
 t31:=underlying29
 a31:=isAgg29
 z31:=sizeOf29
 v31:=zeroValue29
 t46:=underlying121
 a46:=isAgg121
 z46:=sizeOf121
 v46:=zeroValue121
 t51:=underlying340
 a51:=isAgg340
 z51:=sizeOf340
 v51:=zeroValue340
 t105:=underlying256
 a105:=isAgg256
 z105:=sizeOf256
 v105:=zeroValue256
 t119:=underlying382
 a119:=isAgg382
 z119:=sizeOf382
 t138:=underlying384
 a138:=isAgg384
 z138:=sizeOf384
 v138:=zeroValue384
 t139:=underlying385
 a139:=isAgg385
 z139:=sizeOf385
 v139:=zeroValue385
 t146:=underlying386
 a146:=isAgg386
 z146:=sizeOf386
 v146:=zeroValue386
 g1:=by kernel_rfl
 g3:=by kernel_rfl
 g4:=by kernel_rfl }
open Go.RowKit Go.Lib in
theorem Tryz.strings_Split (s sep:ByteArray) (m:Int) (w:World) (hs:s.size < 4294967281) (hm:w.cell? ⟨3,0,none⟩=some (.I m)) (h1:1≤sep.size) :
  CC 13 #[.string s,.string sep] w fun e w' =>
   e = .returned (.slice (some ⟨w.heap.size,0,none⟩) (Lib.countB s sep + 1) (Lib.countB s sep + 1))∧w'=w.alloc (.cells ((Lib.splitB sep 0 (Lib.countB s sep) s).map Value.string).toArray 9):=Any.strings_Split lays146 (by kernel_rfl) s sep m w hs hm h1
open Go.RowKit Go.Lib in
theorem Tryz.strings_ContainsFunc_grows (g:Nat) (lb:Array Value) (eg:∀ args w,(callFunc g args).run π w = .ok (.enter g args) w) (p:Nat→Bool) (s:ByteArray) (w:World) (hp:PredGrows π g lb p w) :
  CC 83 #[.string s,.func (.func g) #[] lb] w fun e w'=>e = .returned (.bool (decide (0≤Lib.idxFunc p true s)))∧Below w.heap.size w w':=Any.strings_ContainsFunc_grows laysGw17 g lb eg p s w hp
end Go.Proofs
namespace Go.Q
open Go Go.Eng
theorem CS9:Enters π 14:=eZ func14
theorem DP8:Enters π 84:=eZ func84
end Go.Q
namespace Go.Dk
open Go Go.Eng Go.RowKit Go.Hp Go.Pw1
structure Lw (P:Program) (W:World):Prop where
 mx:∃ m:Int,W.cell? ⟨3,0,none⟩=some (.I m)
 tab:Lib.TabIs P W "internal/strconv.uint64pow10" .u64 Lib.pow10Tab
 syn:∃ ev,W.cell? ⟨0,0,none⟩=some ev∧(ev = .nilIface∨∃ te pe,ev = .iface te pe)
 ran:∃ ev,W.cell? ⟨1,0,none⟩=some ev∧(ev = .nilIface∨∃ te pe,ev = .iface te pe)
theorem Bz9 {W w:World} {news:Blks} {p:Addr} {v:Value} (hm:Mem W [] news w) (h:W.cell? p=some v):w.cell? p=some v:=by
 have hp:p.block < W.heap.size:=by
  unfold World.cell? at h
  rcases Lc p.block W.heap.size with h2 | h2
  · exact h2
  · rw [Array.getElem?_eq_none h2] at h;cases h
 rw [hm.cell hp (by simp)];exact h
theorem Ds9 {P:Program} {W w:World} {news:Blks} {s:String} {v:Array Value} (hm:Mem W [] news w) (h:W.var? P s=some v):w.var? P s=some v:=by
 unfold World.var? at h ⊢
 cases hg:P.globalNamed s with
 | none=>rw [hg] at h;cases h
 | some g =>
   rw [hg] at h;simp only [Option.bind_some] at h ⊢
   rcases Lc g W.heap.size with h2 | h2
   · rw [hm.old g h2 (by simp)];exact h
   · rw [Array.getElem?_eq_none h2] at h;cases h
theorem Lw.mono {P:Program} {W w:World} {news:Blks} (h:Lw P W) (hm:Mem W [] news w):Lw P w :=
 ⟨let ⟨m,h1⟩:=h.mx;⟨m,Bz9 hm h1⟩,Ds9 hm h.tab,let ⟨m,h1,h2⟩:=h.syn;⟨m,Bz9 hm h1,h2⟩,let ⟨m,h1,h2⟩:=h.ran;⟨m,Bz9 hm h1,h2⟩⟩
theorem Dg8 {w:World} (os:Array Obj):Mem w [] [] (Sort.grow w os) :=
 ⟨rfl,rfl,rfl,by simp [Sort.grow],fun k hk _=>by simp [Sort.grow,Array.getElem?_append_left hk],fun _ _ h=>(by cases h),fun _ _ h=>(by cases h),by simp⟩
theorem CI9 {w:World} {t:ByteArray}:Mem w [] [] (Lib.bytesWorld w 5 t):=by
 unfold Lib.bytesWorld;refine ⟨rfl,rfl,rfl,by simp [World.freeze],fun k hk _=>?_,fun _ _ h=>(by cases h),fun _ _ h=>(by cases h),by simp⟩
 have h2:k ≠ w.heap.size:=by omega
 unfold World.freeze
 split
 · exact Below.heap_alloc _ _ _ hk
 · show ((w.drew.alloc _).heap.modify w.heap.size _)[k]? = _
   rw [Array.getElem?_modify,if_neg (fun e=>h2 e.symm)];exact Below.heap_alloc _ _ _ hk
def numV (s:Str):Except Int Value:=match numX s with
 | some n=>.ok (.int .i64 n)
 | none=>.error 8
theorem Bv7 {s:Str} {v:Value} (h:numV s = .ok v):∃ n,numX s=some n∧v = .I n:=by
 unfold numV at h
 split at h
 · cases h;exact ⟨_,by assumption,rfl⟩
 · cases h
theorem Ba9 {s:Str} {k:Int} (h:numV s = .error k):numX s=none∧k=8:=by
 unfold numV at h
 split at h
 · cases h
 · cases h;exact ⟨by assumption,rfl⟩
theorem Dv9 {s:Str} {n:Int} (h:numX s=some n):0≤n∧n≤9223372036854775807:=by
 unfold numX at h
 split at h
 · rename_i m hm
   split at h
   · rename_i hc
     cases h
     exact ⟨hc.2.1,(Lib.atoiAll_bounds hm).2⟩
   · cases h
 · cases h
theorem CU9 (s:ByteArray) (i:Nat) (h:(s.get! i).toNat < 128):Utf8.decode s i=((s.get! i).toNat,1):=by
 unfold Utf8.decode;simp only [Nat.add_zero];rw [if_pos h]
theorem CV0 (s:ByteArray) (i:Nat) (h:¬ (s.get! i).toNat < 128):128≤(Utf8.decode s i).1:=by
 unfold Utf8.decode;simp only [Nat.add_zero];rw [if_neg h]
 repeat' split
 all_goals first | (simp only [Utf8.runeError];decide) | (rename_i h1;first | (have:=h1;omega) | (simp only [Bool.and_eq_true,decide_eq_true_eq] at h1;omega))
theorem Cm0 (c:UInt8):wordR (c.toNat:Int)=wordB c:=by
 unfold wordR wordB
 congr 1
 · congr 1
   · congr 1
     · congr 1 <;> exact decide_eq_decide.2 (by omega)
     · congr 1 <;> exact decide_eq_decide.2 (by omega)
   · exact decide_eq_decide.2 (by omega)
 · exact decide_eq_decide.2 (by omega)
theorem Da7 {n:Nat} (h:128≤n):wordR (n:Int)=false:=by
 unfold wordR;simp;omega
theorem Da8 {c:UInt8} (h:wordB c=true):c.toNat < 128:=by
 unfold wordB at h;simp at h;omega
theorem DO0 {s:Str} {i:Nat} {c:UInt8} (h:s[i]? = some c):(bs s).get! i=c:=by
 unfold bs ByteArray.get!;simp [h]
theorem BJ7 (s:Str):∀ (f pos:Nat),s.length≤pos + f→decide (0≤Lib.idxFuncFrom (fun r=>!wordR (r:Int)) true (bs s) f pos) = !(s.drop pos).all wordB
 | 0,pos,h=>by
   rw [List.drop_eq_nil_of_le (by omega)];simp [Lib.idxFuncFrom]
 | f + 1,pos,h=>by
   have hsz:(bs s).size=s.length:=by simp [bs,ByteArray.size]
   unfold Lib.idxFuncFrom;rw [hsz]
   by_cases hp:pos < s.length
   · rw [if_pos hp,List.drop_eq_getElem_cons hp,List.all_cons]
     have hg:=DO0 (List.getElem?_eq_getElem hp)
     by_cases hlo:(s[pos]).toNat < 128
     · rw [CU9 _ _ (by rw [hg];exact hlo),hg]
       dsimp only;rw [Cm0]
       cases hw:wordB s[pos] with
       | true =>
         rw [if_neg (by simp),Bool.true_and];exact BJ7 s f (pos + 1) (by omega)
       | false =>
         rw [if_pos (by simp)];simp
     · have h1:=CV0 (bs s) pos (by rw [hg];exact hlo)
       rw [Da7 h1,if_pos (by simp)]
       have:wordB s[pos]=false:=by
        cases hw:wordB s[pos] with
        | true=>exact absurd (Da8 hw) hlo
        | false=>rfl
       rw [this];simp
   · rw [if_neg hp,List.drop_eq_nil_of_le (by omega)]
     simp
theorem Dh6 (s:Str):decide (0≤Lib.idxFunc (fun r=>!wordR (r:Int)) true (bs s)) = !s.all wordB:=by
 have h:=BJ7 s s.length 0 (by omega);unfold Lib.idxFunc;rw [show (bs s).size=s.length by simp [bs,ByteArray.size]];exact h
end Go.Dk
namespace Go.Q
open Go Go.Eng Go.Dk Go.RowKit Go.Hp Go.Pw1
theorem Ax1 (n:Int) (h:-9223372036854775808≤n∧n≤9223372036854775807) (W:World) (hL:Lw π W):CC 12 #[.I n] W (Pure (.string (bs (Lib.itoa n))) W) :=
 Ag8 (strconv_Itoa n h.1 h.2 W hL.tab) (by
  rintro e w' ⟨rfl,k,os,rfl⟩
  refine ⟨rfl,?_⟩
  have h1:∀ k,Mem W [] [] (W.drewN k):=fun k=>⟨rfl,rfl,rfl,Nat.le_refl _,fun _ _ _=>rfl,fun _ _ h=>(by cases h),fun _ _ h=>(by cases h),by simp⟩
  exact (h1 k).pass (Dg8 os))
theorem Ct5 (q:OA) (b o c:Nat) (xs:List Str) (sep:Str) (W:World) (hS:Sl W q b o 1 (xs.map fun x=>[.string (bs x)])) (hN:xs.length≤140737488355328) (hc:xs.length≤c) (hl:(Lib.join xs sep).length≤140737488355328) :
  CC 187 #[.slice q xs.length c,.string (bs sep)] W (Pure (.string (bs (Lib.join xs sep))) W):=by
 cases xs with
 | nil=>exact Ag8 (strings_Join_none q c (bs sep) W) (by rintro e w' ⟨rfl,rfl⟩;exact ⟨rfl,Mem.refl _⟩)
 | cons x xs =>
   have hq:=hS.ptr (i:=0) (by simp);have e1:((x::xs).map bs).map (·.data.toList)=x::xs:=by rw [List.map_map];exact List.map_id' _
   have h0:=strings_Join b o c ((x::xs).map bs) (bs sep) W (fun j y hj=>by
    obtain ⟨hj1,hj2⟩:=List.getElem?_eq_some_iff.1 hj;have hj3:j < (x::xs).length:=by simpa using hj1
    have h1:=hS.cell j (by simpa using hj3) 0 (by decide);rw [List.getElem_map] at h1;rw [List.getElem_map] at hj2;rw [Nat.mul_one,Nat.add_zero] at h1;rw [h1,← hj2];rfl) (by
    have h1:=hS.cell 0 (by simp) 0 (by decide);rw [List.getElem_map] at h1;unfold World.cell? at h1
    rcases Lc b W.heap.size with h2 | h2
    · exact h2
    · simp only [Array.getElem?_eq_none h2] at h1
      simp at h1) (by simpa using hN) (by simpa using hc) (by rw [e1];exact hl)
   rw [e1] at h0;rw [hq];have e2:((x::xs).map bs).length=(x::xs).length:=by simp
   rw [e2] at h0;exact Ag8 h0 (by rintro e w' ⟨rfl,h⟩;exact ⟨rfl,Mem.of_below h⟩)
theorem DO2:∃ ms,π.underlying 55=some (.interface ms):=⟨_,underlying55⟩
theorem AS3 (s:Str) (h:s.length≤281474976710656) (v:Int) (hv:Lib.atoiAll s = .ok v) (W:World):CC 14 #[.string (bs s)] W (Pure (.tuple #[.I v,.nilIface]) W) :=
 Ag8 (strconv_Atoi_ok (bs s) (Kt h (by decide)) v hv W) (by
  rintro e w' ⟨rfl,rfl | ⟨t,rfl⟩⟩
  · exact ⟨rfl,Mem.refl _⟩
  · exact ⟨rfl,CI9⟩)
theorem BA8 (s:Str) (h:s.length≤281474976710656) (hv:∀ v,Lib.atoiAll s ≠ .ok v) (W:World) (hL:Lw π W):CC 14 #[.string (bs s)] W (News (fun z:Int×Nat=>.tuple #[.I z.1,.iface 179 (.pointer (some ⟨z.2,0,none⟩))]) (fun _=>[]) W):=by
 cases hr:Lib.atoiAll s with
 | ok v=>exact absurd hr (hv v)
 | range =>
   obtain ⟨ev,h1,h2⟩:=hL.ran;exact Ag8 (strconv_Atoi_range (bs s) h hr ev W h1 h2) (by rintro e w' ⟨N,rfl,_,_,hb⟩;exact ⟨(_,N),rfl,Mem.of_below hb⟩)
 | _ =>
   obtain ⟨ev,h1,h2⟩:=hL.syn;exact Ag8 (strconv_Atoi_syntax (bs s) h hr ev W h1 h2) (by rintro e w' ⟨N,rfl,_,_,hb⟩;exact ⟨(0,N),rfl,Mem.of_below hb⟩)
theorem Bw0:∀ args w,(callFunc 84 args).run π w = .ok (.enter 84 args) w:=DP8
theorem AO3 (s:Str) (W:World):CC 83 #[.string (bs s),.func (.func 84) #[] #[]] W (Pure (.bool (!s.all wordB)) W) :=
 Ag8 (strings_ContainsFunc_grows 84 #[] Bw0 (fun r=>!wordR (r:Int)) (bs s) W (fun w x _ hb=>by
  refine Ag8 (BG4 (x:Int) w) ?_
  rintro e w' ⟨rfl,hm⟩
  exact ⟨rfl,hm.below⟩)) (by
  rintro e w' ⟨rfl,hb⟩
  rw [Dh6];exact ⟨rfl,Mem.of_below hb⟩)
theorem Av4 (s:Str) (h:s.length≤281474976710656) (W:World) (hL:Lw π W):CC 99 #[.string (bs s)] W (Try dmis (numV s) W):=by
 obtain ⟨ms,hms⟩:=DO2
 by_cases hv:∃ v,Lib.atoiAll s = .ok v
 · obtain ⟨v,hv⟩:=hv
   have hr:=Lib.atoiAll_bounds hv;refine cS func99 ?_;refine st ?_;refine zc (zF rfl CS9) (fun w hm=>AS3 s h v hv w) ?_;refine lv (Ax6 rfl hms) ?_;refine Ag6 (dj:=12) true rfl rfl ?_;refine st ?_;refine lv (Aj0 rfl Au9) ?_
   refine Ab0 (dj:=17) (dp:=20) 3 rfl (fun g17=>by
    refine sv ?_;exact zs g17
   ) (fun g17=>by
     refine nQ ?_;refine nQ ?_;refine sv ?_;exact zs g17
   ) ?_
   refine st ?_
   refine Ab0 (dj:=21) (dp:=26) 5 rfl (fun g21=>by
    refine st ?_;refine zc (zF rfl Bq7) (fun w hm=>Ax1 v hr w (hL.mono hm)) ?_;refine Xa (AL0 rfl rfl) ?_;refine sv ?_;exact zs g21
   ) (fun g21=>by
     iterate 4 refine nQ ?_
     refine sv ?_;exact zs g21
   ) ?_
   refine Xh (zF rfl Al1) (fun w hm=>Ad7 _ _ w) (fun e27 he27=>?_) (fun v27 hv27=>?_)
   ·obtain ⟨er27,rfl⟩:=Ac9 he27
    refine Aa1 ?_;exact Ae2 (k:=8) (by unfold numV numX;rw [hv];dsimp only;rw [if_neg (by simp at er27;rintro ⟨a1,a2,a3⟩;exact er27 (by omega) a2 a3)])
   obtain ⟨ok27,rfl⟩:=Ad9 hv27;refine su ?_;exact Ak4 rZ (by unfold numV numX;rw [hv];dsimp only;rw [if_pos (by simp at ok27;exact ⟨by omega,ok27.1.2,ok27.2⟩)])
 · have hv':∀ v,Lib.atoiAll s ≠ .ok v:=fun v hh=>hv ⟨v,hh⟩
   have e:numV s = .error 8:=by
    unfold numV numX
    cases hr:Lib.atoiAll s with
    | ok v=>exact absurd hr (hv' v)
    | _=>rfl
   rw [e];refine cS func99 ?_;refine st ?_;refine Xj (zF rfl CS9) (fun w hm=>BA8 s h hv' w (hL.mono hm)) (fun b7=>?_)
   refine st ?_;refine lv (Aq7 rfl hms) ?_;refine Ag6 (dj:=12) false rfl rfl ?_;refine su ?_;refine Ag6 (dj:=17) false rfl rfl ?_;refine su ?_;refine Ag6 (dj:=21) false rfl rfl ?_;refine su ?_;refine Xh (zF rfl Al1) (fun w hm=>Ad7 _ _ w) (fun e27 he27=>?_) (fun v27 hv27=>?_)
   ·obtain ⟨er27,rfl⟩:=Ac9 he27
    refine Aa1 ?_;exact Ae2 (k:=8) rfl
   obtain ⟨ok27,rfl⟩:=Ad9 hv27;refine su ?_;exact Ak4 rZ (absurd ok27 (by decide))
theorem Cj2:Enters π 99:=eZ func99
end Go.Q
namespace Go.Dk
open Go Go.Eng Go.RowKit Go.Hp Go.Pw1
abbrev pV (b:Nat):Value:=.pointer (some ⟨b,0,none⟩)
def strC (s:Str):LV:=[.string (bs s)]
def intC (n:Int):LV:=[.I n]
theorem Ao3 (l:List Str):strsC l=(l.map strC).flatten:=by
 induction l with
 | nil=>rfl
 | cons a l ih=>simp only [List.map_cons,List.flatten_cons,← ih];rfl
theorem Bf1:∀ {a b:List Str},numsX (a++b)=match numsX a,numsX b with
  | some x,some y=>some (x++y)
  | _,_=>none
 | [],b=>by
   simp only [List.nil_append,numsX]
   cases numsX b <;> rfl
 | w::a,b=>by
   simp only [List.cons_append,numsX,Bf1 (a:=a) (b:=b)]
   cases numX w <;> cases numsX a <;> cases numsX b <;> rfl
theorem Dv8 {l:List Str} {k:Nat} (hk:k < l.length) {r:List Int} (h:numsX (l.take k)=some r) {s:Str} (hs:l[k]=s) {y:Int} (hy:numX s=some y):numsX (l.take (k + 1))=some (r++[y]):=by
 subst hs;rw [List.take_succ_eq_append_getElem hk,Bf1,h];simp only [numsX,hy]
theorem Df3 {l:List Str} {k:Nat} (hk:k < l.length) {s:Str} (hs:l[k]=s) (hy:numX s=none):numsX l=none:=by
 subst hs;have e:l=l.take k++(l[k]::l.drop (k + 1)):=by rw [← List.drop_eq_getElem_cons hk,List.take_append_drop]
 rw [e,Bf1];simp only [numsX,hy]
 cases numsX (l.take k) <;> rfl
theorem CI2:∀ {l:List Str} {r:List Int},numsX l=some r→r.length=l.length
 | [],r,h=>by cases h;rfl
 | w::ws,r,h=>by
   simp only [numsX] at h
   split at h
   · rename_i a l h1 h2
     cases h
     simp [CI2 h2]
   · cases h
theorem AP9:∀ {l:List Str} {r:List Int},numsX l=some r→∀ n∈r,0≤n∧n≤9223372036854775807
 | [],r,h=>by cases h;intro n hn;cases hn
 | w::ws,r,h=>by
   simp only [numsX] at h
   split at h
   · rename_i a l h1 h2
     cases h
     intro n hn
     rcases List.mem_cons.1 hn with rfl | hn
     · exact Dv9 h1
     · exact AP9 h2 n hn
   · cases h
theorem AU0 {β γ:Type} {P:Program} {f:FuncId} {args:Array Value} {W0 w:World} {chg:Blks} {v:β→Value} {nw nw':β→Blks} {I:β→Prop} {mis:Int→Value} {kk:γ→Int} {np np':γ→Blks} {J:γ→Prop} (h:Calls P f args w (GrowT W0 chg v nw I mis kk np J)) (hp:∀ b,Pick (nw' b) (nw b)) (hq:∀ b,Pick (np' b) (np b)):Calls P f args w (GrowT W0 chg v nw' I mis kk np' J) :=
 Ag8 h (by
  rintro e w' (⟨b,h1,h2,h3⟩ | ⟨b,h1,h2,h3⟩)
  · exact .inl ⟨b,h1,h2,h3.pick (hp b)⟩
  · exact .inr ⟨b,h1,h2,h3.pick (hq b)⟩)
theorem AT1 {w:World} {sb:Nat} {T:TypeId} {fr:Nat×Nat} {x:Str} {ws:List Str} {r:LV} {q:OA} (h:w.heap[sb]? = some (.cells (((x::ws).map strC).flatten++r).toArray T fr)) (hq:ws ≠ []→q=some ⟨sb,1,none⟩):Sl w q sb 1 1 (ws.map strC):=by
 have h1:Sl w (some ⟨sb,0,none⟩) sb 0 1 ((x::ws).map strC):=Sl.rowsR h (fun y hy=>by obtain ⟨z,_,rfl⟩:=List.mem_map.1 hy;rfl);refine ⟨fun hne=>hq (fun e=>hne (by rw [e];rfl)),fun y hy=>by obtain ⟨z,_,rfl⟩:=List.mem_map.1 hy;rfl,fun i hi j hj=>?_⟩
 have h2:=h1.cell (i + 1) (by simpa using hi) j hj;have e:0 + (i + 1) * 1 + j=1 + i * 1 + j:=by omega
 rw [e] at h2;rw [h2];simp
end Go.Dk
namespace Go.Q
open Go Go.Eng Go.Dk Go.RowKit Go.Hp Go.Pw1
abbrev sbO (l:List Str) (r:LV):Obj:=.cells ((l.map strC).flatten++r).toArray 9 (0,0)
abbrev nuB (z:Eng.Own×List Int):Blks:=ownB 3 z.1 (z.2.map intC).flatten
open Classical in
theorem _root_.Go.pk0 {l m:Eng.Blks} (h:∀ x,l.count x≤m.count x:=by intro x;simp only [nC];omega):Eng.Pick l m:=Eng.Pick.cnt h
theorem Bv6 (x:Str) (ws:List Str) (r:LV) (q:OA) (sb cap:Nat) (rest:Blks) (W0 w:World) (hL:Lw π W0) (hm0:Mem W0 [] ((sb,sbO (x::ws) r)::(rest++[])) w) (hq:ws ≠ []→q=some ⟨sb,1,none⟩) (hl:ws.length≤100000) (hs:∀ s∈ws,s.length≤100000) :
  CC 34 #[.slice q ws.length cap] w (GrowT W0 [] (fun z:Eng.Own×List Int=>ownV z.1 z.2.length) (fun z=>nuB z++(rest++[])) (fun z=>OwnOk 1 z.1 z.2.length (z.2.map intC).flatten∧numsX ws=some z.2) dmis (fun _:Unit=>8) (fun _=>rest++[]) (fun _=>numsX ws=none)):=by
 refine Ag9 hm0 func34 rfl rfl ?_;refine su ?_;refine Af2 (X:=Eng.Own×List Int) (n0:=[(sb,_)]) (ws.length) (fun k x q=>(7,.I (k:Int))::(2,ownV x.1 x.2.length)::q) (fun _ _=>_) (fun k x=>[]) (fun k x=>ownB 3 x.1 (x.2.map intC).flatten++(rest++[])) (fun k x=>OwnOk 1 x.1 x.2.length (x.2.map intC).flatten∧x.2.length=k∧numsX (ws.take k)=some x.2) (none,[]) ⟨OwnOk.start,rfl,rfl⟩ rfl (zE 7 rfl rfl (zE 2 rfl rfl (zS 5 rfl (zS 6 rfl (Sub.nil _))))) (qC (Pick.same (by rfl))) ?_;intro k x kN kI;obtain ⟨x1,xl⟩:=x;obtain ⟨kI1,kI2,kI3⟩:=kI;dsimp only at kI1 kI2 kI3 ⊢;refine st ?_;refine cn rfl ?_ ?_
 ·intro c0'
  have hk:k < ws.length:=by omega
  obtain ⟨s,hsk⟩:∃ s,ws[k]=s:=⟨_,rfl⟩;have hsl:=hs s (hsk ▸ List.getElem_mem hk);refine st ?_;refine lv (Aa3 rfl rfl An4 (by omega) (by omega) (hq (List.ne_nil_of_length_pos (by omega)))) ?_;refine lv (Aa5 rfl (fun w hm=>Sl.loadM1 (AT1 (hm.at mm0) hq) (by decide) (Mem.refl w) (by simp) AN0 hk (v:=.string (bs s)) (by simp [strC,hsk]))) ?_;refine Xh (zF rfl Cj2) (fun w hm=>Av4 _ (by omega) w (hL.mono hm)) (fun e13 he13=>?_) (fun v13 hv13=>?_)
  ·obtain ⟨hn13,rfl⟩:=Ba9 he13
   refine Ad0 ?_;refine Aa1 ?_;refine Aa1 ?_;refine Ad0 ?_;refine Aa1 ?_;exact Ae7 () (Df3 hk hsk hn13) rfl pk0
  obtain ⟨n13,hn13,rfl⟩:=Bv7 hv13;refine zn (Lu (parts:=[(0,.tmp 13)]) rfl Af6 Al2 rfl rfl rfl rfl) (fun b14=>?_)
  refine Kh (A:=[(b14,_),(sb,_)]) (B:=_) (x:=x1) (ys:=intC n13) BO3 rfl rfl rfl kI1 rfl (fun h=>by cases h) (fun w hm=>Aj6 (hm.at mm0)) (Ao0 rfl) (by simp only [maxLen];omega) (by omega) rfl (fun z15 hz15=>?_)
  refine st ?_;refine lA ?_;exact Ac3 (z15,xl++[n13]) (by omega) ⟨by have h:=hz15;simp only [List.map_append,List.flatten_append,List.length_append,List.length_singleton];simpa using h,by simp [kI2],Dv8 hk kI3 hsk hn13⟩ rfl (zE 7 rfl rfl (zE 2 rfl (by simp) (zS 5 rfl (zS 6 rfl (Sub.nil _))))) (qD (Pick.skip (Pick.same (by simp [List.map_append]))))
 intro c0';have hk:k=ws.length:=by omega
 refine Ls ?_;refine su ?_;refine Aa4 ?_;refine su ?_;exact Am0 (x1,xl) ⟨kI1,by rw [← kI3,hk,List.take_length]⟩ rZ rfl (Pick.skip (Pick.refl _))
theorem CW6:apB π 29=some (9,1,16):=by kernel_rfl
theorem Dr1:Enters π 13:=eZ func13
theorem DQ1:Enters π 81:=eZ func81
theorem DQ0:Enters π 82:=eZ func82
theorem DP9:Enters π 83:=eZ func83
theorem AW1:zeroB π 9=some [.string ⟨#[]⟩]:=by kernel_rfl
end Go.Q
namespace Go.Eng
open Go Go.RowKit
section
variable {ro:Option Nat} {P:Program} {ops:Array Oper} {Q:Exit→Act→World→Prop} {n:Nat} {r:Regs} {ds:List Deferred} {W:World} {chg news:Blks} {rest:List Oper} {d:Nat}
theorem Cc5 {β:Type} {o:Oper} {f:FuncId} {args:Array Value} {v:β→Value} {nw:β→Blks} (hi:IsCall P r o f args) (hg:guardB ops r o.guard=some true) (hd:o.dst=some d) (hn:Nat.ble (d + 1) n=true)
  (hc:∀ w,Mem W chg news w→Calls P f args w (News v nw w)) (h:∀ b,RunLR ro P ops Q n rest ((d,v b)::r) ds W chg (nw b++news)) (hnd:notDefer o=true:=by rfl):RunLR ro P ops Q n (o::rest) r ds W chg news:=fun a w s =>
 Aj5 (Ad5 s.agree hg) hnd fun K hK=>by
  rw [hi.runs a w s.agree,Oper.uponIn_enter];refine ⟨fun h=>(by cases h),?_⟩
  have hc':CallsIn Fence.wide 8 P f args w (News v nw w):=callsIn_wide.2 (hc w s.mem)
  have hc2:CallsIn (Fr ro) 8 P f args w (News v nw w):=by
   cases ro with
   | none=>exact hc'
   | some l=>exact CallsIn.inRound l hc'
  refine hc2.mono ?_
  rintro e w' ⟨b,rfl,hm⟩
  show K _ _
  rw [hd];have s2:=s.put (La hn) (v b);exact hK _ _ (h b _ _ ⟨s2.size,s2.agree,s2.defers,s.mem.trans hm⟩)
theorem Cc3 {o:Oper} {f:FuncId} {args:Array Value} {mis:Int→Value} {x:Except Int Value} (hi:IsCall P r o f args) (hg:guardB ops r o.guard=some true) (hd:o.dst=some d) (hn:Nat.ble (d + 1) n=true)
  (hc:∀ w,Mem W chg news w→Calls P f args w (Try mis x w)) (herr:∀ k,x = .error k→RunE Q n (.panic [{ v:=mis k,recovered:=false }]) r ds W chg news)
  (hok:∀ v,x = .ok v→RunLR ro P ops Q n rest ((d,v)::r) ds W chg news) (hnd:notDefer o=true:=by rfl):RunLR ro P ops Q n (o::rest) r ds W chg news:=fun a w s =>
 Aj5 (Ad5 s.agree hg) hnd fun K hK=>by
  rw [hi.runs a w s.agree,Oper.uponIn_enter];refine ⟨fun h=>(by cases h),?_⟩
  have hc':CallsIn Fence.wide 8 P f args w (Try mis x w):=callsIn_wide.2 (hc w s.mem)
  have hc2:CallsIn (Fr ro) 8 P f args w (Try mis x w):=by
   cases ro with
   | none=>exact hc'
   | some l=>exact CallsIn.inRound l hc'
  refine hc2.mono ?_
  rintro e w' ⟨he,hm⟩
  cases x with
  | ok v =>
    subst he
    show K _ _
    rw [hd];have s2:=s.put (La hn) v;exact hK _ _ (hok v rfl _ _ ⟨s2.size,s2.agree,s2.defers,s.mem.pass hm⟩)
  | error k =>
    subst he;exact herr k rfl a w' ⟨s.size,s.agree,s.defers,s.mem.pass hm⟩
end
end Go.Eng
namespace Go.Dk
open Go Go.Eng Go.RowKit Go.Hp Go.Pw1
def splitL (s:Str):List Str:=(Lib.splitB (bs [32]) 0 (Lib.countB (bs s) (bs [32])) (bs s)).map (·.data.toList)
theorem Bd5 (l:Str):splitL l=Lib.split l [32]:=by
 unfold splitL Lib.split;rw [Lib.splitB_data];rfl
theorem Co0 {l:Str} {i:Nat} (h:Lib.indexByte l 32=(i:Int)):splitL l=l.take i::splitL (l.drop (i + 1)):=by
 have h1:Lib.index l [32]=(i:Int):=by rw [Lib.index_one];exact h
 have hc:=Lib.count_hit (s:=l) (sub:=[32]) (by simp) h1;rw [Bd5,Bd5];unfold Lib.split;rw [hc,Nat.add_comm,Lib.splitK];have hm:¬ (Lib.index l [32] == -1)=true:=fun e=>by have:=beq_iff_eq.1 e;omega
 rw [if_neg hm,h1];rfl
theorem BT5 {l:Str} (h:Lib.indexByte l 32 = -1):splitL l=[l]:=by
 have h1:Lib.index l [32] = -1:=by rw [Lib.index_one];exact h
 rw [Bd5];unfold Lib.split;rw [Lib.count_miss h1];rfl
theorem Bj5:∀ {l:Str} {cur:Str},Lib.indexByte l 32 < 0→blanks l cur=[cur++l]
 | [],cur,_=>by simp [blanks]
 | c::s,cur,h=>by
   unfold Lib.indexByte at h
   by_cases hc:c=32
   · subst hc;simp at h
   · have hb:(c == 32)=false:=by simpa using hc
     rw [hb] at h;simp only [Bool.false_eq_true,if_false] at h;rw [blanks,if_neg hc]
     split at h
     · rename_i h1
       rw [Bj5 (l := s) (by have : Lib.indexByte s 32 = -1 := by simpa using h1
                            omega)]
       simp
     · have hge:=Lib.indexByte_ge s 32
       rename_i h1;have h2:Lib.indexByte s 32 ≠ -1:=by simpa using h1
       omega
theorem Br2:∀ {l:Str} {cur:Str} {i:Nat},Lib.indexByte l 32=(i:Int)→i < l.length∧blanks l cur=(cur++l.take i)::blanks (l.drop (i + 1)) []
 | [],cur,i,h=>by unfold Lib.indexByte at h;omega
 | c::s,cur,i,h=>by
   unfold Lib.indexByte at h
   by_cases hc:c=32
   · subst hc
     simp at h
     obtain rfl:i=0:=by omega
     rw [blanks,if_pos rfl];simp
   · have hb:(c == 32)=false:=by simpa using hc
     rw [hb] at h;simp only [Bool.false_eq_true,if_false] at h
     split at h
     · omega
     · rename_i h1
       have hge:=Lib.indexByte_ge s 32;have h2:Lib.indexByte s 32 ≠ -1:=by simpa using h1
       obtain ⟨j,hj⟩:∃ j:Nat,Lib.indexByte s 32=j:=⟨(Lib.indexByte s 32).toNat,by omega⟩;obtain ⟨h3,h4⟩:=Br2 (cur:=cur++[c]) hj;obtain rfl:i=j + 1:=by omega
       rw [blanks,if_neg hc,h4];simp only [List.length_cons,List.take_succ_cons,List.drop_succ_cons];exact ⟨by omega,by simp⟩
theorem Ao4:∀ (n:Nat) (l:Str),l.length≤n→splitL l=blanks l []
 | n,l,hn=>by
   have hge:=Lib.indexByte_ge l 32
   by_cases h:Lib.indexByte l 32 < 0
   · rw [BT5 (by omega),Bj5 h]
     rfl
   · obtain ⟨i,hi⟩:∃ i:Nat,Lib.indexByte l 32=i:=⟨(Lib.indexByte l 32).toNat,by omega⟩
     obtain ⟨hlt,hb⟩:=Br2 (cur:=[]) hi
     match n,hn with
     | 0,hn=>omega
     | n + 1,hn =>
       rw [Co0 hi,hb,Ao4 n _ (by simp only [List.length_drop];omega)];rfl
theorem AI4:∀ (l cur:Str),(blanks l cur).length≤l.length + 1∧0 < (blanks l cur).length∧∀ w∈blanks l cur,w.length≤cur.length + l.length
 | [],cur=>by simp [blanks]
 | c::s,cur=>by
   unfold blanks
   split
   · have ih:=AI4 s []
     simp only [List.length_cons,List.length_nil] at ih ⊢;refine ⟨by omega,by omega,fun w hw=>?_⟩
     rcases List.mem_cons.1 hw with rfl | hw
     · omega
     · have:=ih.2.2 w hw;omega
   · have ih:=AI4 s (cur++[c])
     simp only [List.length_append,List.length_cons,List.length_nil,Nat.zero_add] at ih ⊢;refine ⟨by omega,ih.2.1,fun w hw=>?_⟩
     have:=ih.2.2 w hw;omega
theorem BR8 {s:Str} {l:List Str} (h:wordsX s=some l):l=blanks s []∧∀ w∈l,wordX w=true:=by
 unfold wordsX at h
 split at h
 · rename_i h1
   cases h
   exact ⟨rfl,List.all_eq_true.1 h1⟩
 · cases h
theorem Bm2 {s:Str} {l:List Str} (h:l=blanks s []) (hw:∀ w∈l,wordX w=true):wordsX s=some l:=by
 subst h;unfold wordsX;rw [if_pos (List.all_eq_true.2 hw)]
theorem BR9 {s w:Str} (h:w∈blanks s []) (hw:wordX w=false):wordsX s=none:=by
 unfold wordsX;rw [if_neg];intro h1;rw [List.all_eq_true.1 h1 w h] at hw
 cases hw
end Go.Dk
namespace Go.Q
open Go Go.Eng Go.Dk Go.RowKit Go.Hp Go.Pw1
abbrev strO (s:Str):Obj:=.cells [.string (bs s)].toArray 9 (0,0)
theorem AX8 (s:Str) (hs:s.length < 4294967281) (W:World) (hL:Lw π W):CC 13 #[.string (bs s),.string (bs [32])] W (News (fun sb:Nat=>.slice (some ⟨sb,0,none⟩) (splitL s).length (splitL s).length) (fun sb=>[(sb,sbO (splitL s) [])]) W):=by
 obtain ⟨m,hm⟩:=hL.mx;refine Ag8 (strings_Split (bs s) (bs [32]) m W hs hm (by decide)) ?_
 rintro e w' ⟨rfl,rfl⟩
 have hlen:=Lib.splitB_all (bs [32]) (by decide) 0 _ (bs s) rfl;have hl2:(splitL s).length=Lib.countB (bs s) (bs [32]) + 1:=by unfold splitL;rw [List.length_map,hlen]
 refine ⟨W.heap.size,?_,?_⟩
 · show Ending.returned _=Ending.returned (.slice (some ⟨W.heap.size,0,none⟩) (splitL s).length (splitL s).length)
   rw [hl2]
 · have h1:=(Mem.refl W).alloc (.cells ((Lib.splitB (bs [32]) 0 (Lib.countB (bs s) (bs [32])) (bs s)).map Value.string).toArray 9)
   have e:((splitL s).map strC).flatten++[]=(Lib.splitB (bs [32]) 0 (Lib.countB (bs s) (bs [32])) (bs s)).map Value.string:=by
    rw [List.append_nil,← Ao3];unfold splitL strsC;rw [List.map_map];rfl
   show Mem W [] [(W.heap.size,sbO (splitL s) [])] _
   unfold sbO;rw [e];exact h1
theorem BL9 (s:Str) (W:World):CC 32 #[.string (bs s)] W (News (fun b:Nat=>.func (.func 82) #[] #[pV b]) (fun b=>[(b,strO s)]) W):=by
 refine cS func32 ?_;refine st ?_;refine zn (Lm rfl) (fun b1=>?_)
 exact Ld (chg:=[]) rZ (fun _ hm=>⟨b1,rfl,hm.pick (qC .nil)⟩)
open Classical in
theorem _root_.Go.pk8 {l m:Eng.Blks} (h:∀ x,l.count x≤m.count x:=by intro x;simp only [List.nil_append,List.cons_append,List.count_append,List.count_cons,List.count_nil];omega):Eng.Pick l m:=Eng.Pick.cnt h
theorem Dk6 (s:Str) (hs:s.length≤100000) (lb:Nat) (W0:World) (hL:Lw π W0):SeqQ π 82 #[pV lb] (fun x:Str=>[.string (bs x)]) (fun _=>[]) [(lb,strO s)] dmis (fun xs=>xs=splitL s∧∀ w∈xs,wordX w=true) (fun xs=>xs <+: splitL s) (fun k xs=>k=8∧∃ w,w∈splitL s∧wordX w=false) (s.length + 2) W0:=by
 intro X l U I Ix Ip rest w0 x0 hy i0 hm0;have hbk:=Ao4 _ s (Nat.le_refl _);have hbo:=AI4 s [];rw [← hbk] at hbo;simp only [List.length_nil,Nat.zero_add] at hbo;refine AA0 (vs:=[.func (.yield l) #[] #[],pV lb]) (W:=W0) (chg:=[]) (news:=(lb,strO s)::(U x0++(rest++[]))) (hm0.pick pk8) func82 rfl rfl ?_ 8
 refine Ki ?_;refine Kj ?_;refine Xb (Aa6 rfl mm0 AN0 rfl) ?_;refine Cc5 (zF rfl Dr1) rfl rfl rfl (fun w hm=>(AX8 s (by omega) w (hL.mono hm))) (fun b6=>?_)
 refine Xb (Ae3 rfl An4) ?_;refine vR ?_;refine Kk ?_;refine Kl ?_;refine Km ?_;refine Bk6 (X:=X) (n0:=[(b6,_),(lb,_)]) ((splitL s).length) (fun k y q=>(8,.I (k:Int))::q) (fun _ _=>_) (fun k y=>[]) (fun k y=>U y++(rest++[])) (fun k y=>I ((splitL s).take k) y∧∀ w∈(splitL s).take k,wordX w=true) x0 ⟨i0,fun w hw=>by cases hw⟩ rfl (zE 8 rfl rfl (zS 0 rfl (zS 1 rfl (zS 6 rfl (zS 7 rfl (Sub.nil _)))))) (qE (Pick.same (by rfl))) ?_;intro k y kN kI;obtain ⟨kI1,kI2⟩:=kI;refine Ki ?_;refine Kj ?_;refine vR ?_;refine Kk ?_;refine Kl ?_;refine Ki ?_;refine Kn rfl ?_ ?_
 ·intro c0
  have c0':=c0;clear c0;try simp only [nH] at c0'
  have hk:k < (splitL s).length:=by omega
  obtain ⟨v,hv⟩:∃ v,(splitL s)[k]=v:=⟨_,rfl⟩;refine Ko ?_;refine Kl ?_;refine Ki ?_;refine Km ?_;refine Ki ?_;refine Kj ?_;refine Xb (Ab1 rfl rfl An4 (by omega) (by omega)) ?_;refine Xb (Aa5 rfl (fun w hm=>Sl.loadM1 (Sl.rowsR (xs:=(splitL s).map strC) (hm.at mm0) (fun x hx=>by obtain ⟨z,_,rfl⟩:=List.mem_map.1 hx;rfl)) (by decide) (Mem.refl w) (by simp) AN0 hk (v:=.string (bs v)) (by simp [strC,hv]))) ?_;refine vR ?_;refine Kk ?_;refine Kl ?_;refine Ki ?_;refine Kj ?_;refine vR ?_;refine Xb (AV7 rfl rfl) ?_;refine vR ?_
  refine AS6 (dj:=14) (dp:=18) 4 rfl (fun g14=>by
   refine vR ?_;refine Xt (zF rfl DP9) (fun w hm=>(AO3 v w)) ?_;refine vR ?_;refine vR ?_;exact AA6 (Kg rfl (qU (Ad2 rfl (by rw [g14]) (Ab3 _)))) (List.Sublist.refl _)
  ) (fun g14=>by
    iterate 3 refine Bc0 rfl rfl rfl ?_
    refine vR ?_;exact AA6 (Kg rfl (qU (Ad2 rfl (by rw [g14]) (Ab3 _)))) (List.Sublist.refl _)
  ) ?_
  refine Cc3 (zF rfl Al1) rfl rfl rfl (fun w hm=>Ad7 _ _ w) (fun e19 he19=>?_) (fun v19 hv19=>?_)
  ·obtain ⟨er19,rfl⟩:=Ac9 he19
   have hbad:wordX v=false:=by (unfold wordX;simpa using er19)
   refine Aa1 ?_;refine Ad0 ?_;refine Aa1 ?_;refine Aa1 ?_;refine Ad0 ?_;exact fun _ w s0=>⟨s0.defers,y,s0.mem.pick pk0,.inr (.inr ⟨8,(splitL s).take k,rfl,⟨rfl,v,hv ▸ List.getElem_mem hk,hbad⟩,kI1⟩)⟩
  obtain ⟨ok19,rfl⟩:=Ad9 hv19;have hgood:wordX v=true:=by (unfold wordX;simpa using ok19)
  refine Kk ?_;refine Kl ?_;refine Ki ?_;refine Kj ?_;refine vR ?_;refine vR ?_;refine AI6 (Ai4 rfl rfl) rfl rfl rfl (fun w hm=>(Ba2 (α:=Str) (encs:=fun x=>[.string (bs x)]) (eb:=fun _=>[]) (U:=U) (I:=I) (Ix:=Ix) (Ip:=Ip) (pre:=(splitL s).take k) (v:=v) (N':=fun x=>(b6,sbO (splitL s) [])::(lb,strO s)::(U x++(rest++[]))) (tl:=(b6,sbO (splitL s) [])::(lb,strO s)::rest) (fun x=>pk0) (hy ((splitL s).take k) v y ((b6,sbO (splitL s) [])::(lb,strO s)::rest) w kI1 (by rw [← hv,← List.take_succ_eq_append_getElem hk];exact List.take_prefix _ _) (by rw [List.length_take];omega) ((show Mem W0 [] ((b6,sbO (splitL s) [])::(lb,strO s)::(U y++(rest++[]))) w from hm).pick pk0)))) (fun p22 hp22=>?_) (fun z22 hz22=>?_)
  ·refine Aa1 ?_
   refine Ad0 ?_;refine Aa1 ?_;refine Aa1 ?_;refine Ad0 ?_;exact fun _ w s0=>⟨s0.defers,p22.2,s0.mem.pick pk0,.inr (.inl ⟨p22.1,rfl,hp22⟩)⟩
  refine vR ?_;refine Kk ?_;refine Kl ?_;refine Kn rfl ?_ ?_
  ·intro c1
   have c1':=c1;clear c1;try simp only [nH] at c1'
   have hno:Ix z22.2:=hz22.elim (fun h=>absurd (h.1.symm.trans c1') (by decide)) (fun h=>h.2);refine Kp ?_;refine su ?_;exact Ld (chg:=[]) (.r0 rfl) (fun _ hm=>⟨z22.2,hm.pick pk0,.inl ⟨_,rfl,.inr hno⟩⟩)
  intro c1;have c1':=c1;clear c1;try simp only [nH] at c1'
  have hyes:=hz22.resolve_right (fun h=>absurd (h.1.symm.trans c1') (by decide));refine Ko ?_;refine st ?_;refine Kl ?_;refine Kj ?_;refine Xb (Kb rfl rfl (Lq _ ⟨by omega,by omega⟩)) ?_;refine vR ?_;refine Kk ?_;exact Ac3 z22.2 (by omega) ⟨by rw [List.take_succ_eq_append_getElem hk,hv];exact hyes.2,fun w hw=>by rw [List.take_succ_eq_append_getElem hk,hv] at hw;rcases List.mem_append.1 hw with hw | hw;exact kI2 w hw;simp only [List.mem_singleton] at hw;subst hw;exact hgood⟩ rfl (zE 8 rfl rfl (zS 0 rfl (zS 1 rfl (zS 6 rfl (zS 7 rfl (Sub.nil _)))))) (qE (Pick.refl _))
 intro c0;have c0':=c0;clear c0;try simp only [nH] at c0'
 have hk:k=(splitL s).length:=by omega
 refine Kq ?_;refine su ?_;refine Aa4 ?_;exact Ak2 (chg:=[]) (.r0 rfl) (fun _ hm=>⟨y,hm.pick pk0,.inl ⟨_,rfl,.inl ⟨splitL s,⟨rfl,fun w hw=>kI2 w (by rw [hk,List.take_length];exact hw)⟩,by rw [hk,List.take_length] at kI1;exact kI1⟩⟩⟩)
abbrev stB (z:Eng.Own×List Str):Blks:=ownB 9 z.1 (z.2.map strC).flatten
abbrev stBO (z:Eng.Own×List Str):Obj:=.cells [ownV z.1 z.2.length].toArray 29 (0,0)
open Classical in
theorem _root_.Go.pk5 {l m:Eng.Blks} (h:∀ x,l.count x≤m.count x:=by intro x;simp only [nC,List.map_append,List.flatten_append,List.map_cons,List.map_nil,List.flatten_cons,List.flatten_nil,List.append_nil,List.length_append,List.length_singleton,List.set_cons_zero,markB,dfrO,stB,stBO];omega):Eng.Pick l m:=Eng.Pick.cnt h
set_option maxHeartbeats 1000000 in
theorem Bj7 (s:Str) (lb:Nat) (rest:Blks) (W0 w0:World) (hL:Lw π W0) (hsl:s.length≤100000) (hm0:Mem W0 [] ((lb,strO s)::(rest++[])) w0) :
  CC 81 #[.slice none 0 0,.func (.func 82) #[] #[pV lb]] w0 (GrowT W0 [] (fun z:Eng.Own×List Str=>ownV z.1 z.2.length) (fun z=>stB z++(rest++[])) (fun z=>OwnOk 1 z.1 z.2.length (z.2.map strC).flatten∧wordsX s=some z.2) dmis (fun _:Unit=>8) (fun _=>rest++[]) (fun _=>wordsX s=none)):=by
 have hbk:=Ao4 _ s (Nat.le_refl _);have hbo:=AI4 s [];rw [← hbk] at hbo;simp only [List.length_nil,Nat.zero_add] at hbo;refine AS2 hm0 func81 rfl rfl ?_;refine RunCF.seq ?_;refine AS9 ?_;refine st ?_;refine zn (Lm rfl) (fun b2=>?_)
 refine RunEF.next ?_;refine RunCF.seq ?_;refine RunCF.seq ?_;refine AS9 ?_;refine st ?_;refine RunEF.next ?_;refine RunCF.block ?_;refine RunCF.range func81 (α:=Str) (X:=Eng.Own×List Str) (enc:=fun x=>.string (bs x)) (eb:=fun _=>[]) (itb:=[(lb,strO s)]) (mis:=dmis) (S:=fun xs=>xs=splitL s∧∀ w∈xs,wordX w=true) (Sp:=fun xs=>xs <+: splitL s) (Sq:=fun k xs=>k=8∧∃ w,w∈splitL s∧wordX w=false) (N:=s.length + 2) (fun x=>(b2,stBO x)::stB x) (fun pre x=>x.2=pre∧OwnOk 1 x.1 x.2.length (x.2.map strC).flatten) (fun _ _=>False) (fun _ _=>False) (none,[]) ⟨rfl,OwnOk.start⟩ (rest++[]) (qE pk5) rfl DQ0 (Dk6 s hsl lb W0 hL) rfl rfl (fun _=>rfl) rfl rfl rfl ?_ ?_ ?_ ?_ ?_
 ·intro l D ob pre v x tl hI hsp hlen
  obtain ⟨xo,xl⟩:=x;obtain ⟨rfl,hx⟩:=hI;dsimp only at hx hsp hlen ⊢;have hxl:xl.length≤100000:=by (have:=hsp.length_le;simp only [List.length_append,List.length_singleton] at this;omega)
  have hxl2:(xo,xl).2.length≤100000:=hxl;refine Cy0 (Ab3 _) (news':=(l,ob)::(D,dfrO)::(b2,stBO (xo,xl))::(stB (xo,xl)++(tl++[]))) pk5 ?_;refine Km ?_;refine Ab6 ?_;refine su ?_;refine zn (Lu (parts:=[(0,.tmp 9)]) rfl An4 AW1 rfl rfl rfl rfl) (fun b10=>?_)
  refine Kh (A:=[(b10,_),(l,_),(D,_),(b2,_)]) (B:=_) (x:=xo) (ys:=strC v) CW6 rfl rfl rfl hx rfl (fun h=>by cases h) (fun w hm=>Aj6 (hm.at mm0)) (Ao0 rfl) (by simp only [maxLen];omega) (by omega) rfl (fun z11 hz11=>?_)
  refine Xs (AA5 rfl rfl (.there (.there (.there .here))) Dc0 rfl rfl) ?_;refine st ?_;exact AC7 (z11,xl++[v]) ⟨rfl,by have h:=hz11;simp only [List.map_append,List.flatten_append,List.length_append,List.length_singleton];simpa using h⟩ pk5
 ·intro D xs x hS hI
  obtain ⟨xo,xl⟩:=x;obtain ⟨rfl,hx⟩:=hI;obtain ⟨rfl,AH6⟩:=hS;refine Ak5 (Ab3 _) (news':=(D,dfrO)::(b2,stBO (xo,splitL s))::(stB (xo,splitL s)++(rest++[]))) pk5 ?_;refine st ?_;refine RunEF.next ?_;refine RunCF.seq ?_;refine AS9 ?_;refine su ?_;refine RunEF.next ?_;refine AS9 ?_;refine Ks ?_;exact Ap4 (news2:=stB (xo,splitL s)++(rest++[])) [D] pk5 rZ (fun w hm=>.inl ⟨(xo,splitL s),⟨hx,Bm2 hbk AH6⟩,rfl,hm.pick pk5⟩)
 ·intro D c x hst
  exact hst.elim
 ·intro D c x hp
  exact hp.elim
 intro D k xs x hq hI;obtain ⟨rfl,w,hw1,hw2⟩:=hq;refine Ad0 ?_;refine Aa1 ?_;exact Cx8 (news2:=rest++[]) [D] pk5 (fun w0 hm=>.inr ⟨(),BR9 (hbk ▸ hw1) hw2,rfl,hm.pick pk5⟩)
theorem Bz7 (s:Str) (lb:Nat) (rest:Blks) (W0 w0:World) (hL:Lw π W0) (hsl:s.length≤100000) (hm0:Mem W0 [] ((lb,strO s)::(rest++[])) w0) :
  CC 31 #[.func (.func 82) #[] #[pV lb]] w0 (GrowT W0 [] (fun z:Eng.Own×List Str=>ownV z.1 z.2.length) (fun z=>stB z++(rest++[])) (fun z=>OwnOk 1 z.1 z.2.length (z.2.map strC).flatten∧wordsX s=some z.2) dmis (fun _:Unit=>8) (fun _=>rest++[]) (fun _=>wordsX s=none)):=by
 refine Ag9 hm0 func31 rfl rfl ?_;refine st ?_;refine Xy (zF rfl DQ1) (fun w hm=>(Bj7 s lb rest W0 w hL hsl hm)) (fun p4 hp4=>?_) (fun z4 hz4=>?_)
 ·refine Aa1 ?_
  exact Ae7 () hp4 rfl (Pick.refl _)
 refine su ?_;exact Am0 z4 hz4 rZ rfl (Pick.refl _)
theorem DD9:Enters π 187:=eZ func187
theorem Ap8:slB π 249=some (20,1):=by kernel_rfl
instance:Slc π 249 20 1:=⟨Ap8⟩
theorem DK5:tyB π 20=some (false,1):=by kernel_rfl
instance:Tyc π 20 false 1:=⟨DK5⟩
end Go.Q
namespace Go.Dk
open Go Go.Eng Go.RowKit Go.Pw1 Go.Hp
theorem Dv0 {sz n:Nat} {x:Eng.Own} {xs:LV} (h:OwnOk sz x n xs):n≤ownC x:=by
 match x,h with
 | none,h=>rw [h.nil rfl];exact Lb _
 | some (b,c,r),h=>exact (h.cap b c r rfl).1
inductive Prt
 | s (x:Str)
 | n (x:Int)
 | sp (a b:Int)
def Prt.v:Prt→Value
 | .s x=>.iface 9 (.string (bs x))
 | .n x=>.iface 3 (.int .i64 x)
 | .sp a b=>.iface 23 (.agg #[.int .i64 a,.int .i64 b])
def Prt.words:Prt→List Str
 | .s x=>[x]
 | .n x=>[Lib.itoa x]
 | .sp a b=>[Lib.itoa a,Lib.itoa b]
def In64 (n:Int):Prop:=-9223372036854775808≤n∧n≤9223372036854775807
def Prt.ok:Prt→Prop
 | .s x=>x.length≤40
 | .n x=>In64 x
 | .sp a b=>In64 a∧In64 b
def Prt.isS:Prt→Bool
 | .s _=>true
 | _=>false
def Prt.asS:Prt→Value
 | .s x=>.string (bs x)
 | _=>.string ⟨#[]⟩
def Prt.isN:Prt→Bool
 | .n _=>true
 | _=>false
def Prt.asN:Prt→Value
 | .n x=>.int .i64 x
 | _=>.int .i64 0
def Prt.isSp:Prt→Bool
 | .sp _ _=>true
 | _=>false
def Prt.asSp:Prt→Value
 | .sp a b=>.agg #[.int .i64 a,.int .i64 b]
 | _=>.agg #[.int .i64 0,.int .i64 0]
theorem Prt.ofS {p:Prt} (h:p.isS=true):∃ x,p = .s x:=by cases p <;> first | exact ⟨_,rfl⟩ | cases h
theorem Prt.ofN {p:Prt} (h:p.isN=true):∃ x,p = .n x:=by cases p <;> first | exact ⟨_,rfl⟩ | cases h
theorem Prt.ofSp {p:Prt} (h:p.isSp=true):∃ a b,p = .sp a b:=by cases p <;> first | exact ⟨_,_,rfl⟩ | cases h
theorem Prt.no {p:Prt} (h1:p.isS=false) (h2:p.isN=false) (h3:p.isSp=false):False:=by cases p <;> simp_all [Prt.isS,Prt.isN,Prt.isSp]
def stV (l:List Str):LV:=(l.map strC).flatten
theorem Aw5 (l m:List Str):stV (l++m)=stV l++stV m:=by simp [stV]
def wsK (ps:List Prt) (k:Nat):List Str:=((ps.take k).map Prt.words).flatten
theorem Ap7 {ps:List Prt} {k:Nat} (hk:k < ps.length) {p:Prt} (hp:ps[k]=p):wsK ps (k + 1)=wsK ps k++p.words:=by
 unfold wsK;rw [List.take_succ_eq_append_getElem hk,List.map_append,List.flatten_append,hp];simp
theorem DI6 (ps:List Prt) (k j:Nat):(wsK ps k).length≤(wsK ps (k + j)).length:=by
 unfold wsK;have h:ps.take (k + j)=ps.take k++(ps.drop k).take j:=List.take_add;rw [h,List.map_append,List.flatten_append,List.length_append];omega
theorem BR7 (ps:List Prt):wsK ps ps.length=(ps.map Prt.words).flatten:=by unfold wsK;rw [List.take_length]
theorem DI7 {ps:List Prt} {k:Nat} (hk:k < ps.length) {p:Prt} (hp:ps[k]=p) {N:Nat} (h:((ps.map Prt.words).flatten).length≤N):(wsK ps k).length + p.words.length≤N:=by
 have h1:=DI6 ps (k + 1) (ps.length - (k + 1));rw [show k + 1 + (ps.length - (k + 1))=ps.length by omega,BR7,Ap7 hk hp,List.length_append] at h1;omega
theorem Az6 {n:Int} (h:In64 n):(Lib.itoa n).length≤20:=by
 have key:∀ (m u:Nat),u < 10 ^ (m + 1)→(Lib.decDigits u).length≤m + 1:=by
  intro m
  induction m with
  | zero=>intro u hu;unfold Lib.decDigits;rw [dif_pos (by omega)];simp
  | succ m ih =>
    intro u hu;unfold Lib.decDigits
    split
    · simp
    · rw [List.length_append]
      have:=ih (u / 10) (by rw [Nat.pow_succ] at hu;omega)
      simp only [List.length_singleton];omega
 unfold Lib.itoa;obtain ⟨h1,h2⟩:=h
 split
 · rw [List.length_cons]
   have:=key 18 n.natAbs (by omega)
   omega
 · have:=key 18 n.toNat (by omega)
   omega
theorem Cy4 {p:Prt} (h:p.ok):∀ x∈p.words,x.length≤50:=by
 cases p with
 | s x=>intro y hy;simp only [Prt.words,List.mem_singleton] at hy;subst hy;have h9:y.length≤40:=h;omega
 | n x=>intro y hy;simp only [Prt.words,List.mem_singleton] at hy;subst hy;exact Kt (Az6 h) (by decide)
 | sp a b =>
   intro y hy;simp only [Prt.words,List.mem_cons,List.not_mem_nil,or_false] at hy
   rcases hy with rfl | rfl
   · exact Kt (Az6 h.1) (by decide)
   · exact Kt (Az6 h.2) (by decide)
theorem CK8 {sep:Str} {m:Nat}:∀ {xs:List Str},(∀ x∈xs,x.length≤m)→(Lib.join xs sep).length≤xs.length * (m + sep.length)
 | [],_=>by simp [Lib.join,List.intercalate]
 | [x],h=>by
   rw [Lib.join_one]
   have:=h x (by simp)
   simp only [List.length_singleton,Nat.one_mul];omega
 | x::y::xs,h=>by
   have ih:=CK8 (sep:=sep) (xs:=y::xs) (fun z hz=>h z (by simp [hz]));have h1:=h x (by simp);have e:Lib.join (x::y::xs) sep=x++(sep++Lib.join (y::xs) sep):=by simp [Lib.join,List.intercalate]
   rw [e,List.length_append,List.length_append,List.length_cons,Nat.add_mul,Nat.one_mul];omega
theorem Bg2 (x:Str):∀ (l:List Str),Lib.join (x::l) [32]=x++(l.map fun y=>32::y).flatten
 | []=>by rw [Lib.join_one];simp
 | y::l=>by
   have e:Lib.join (x::y::l) [32]=x++([32]++Lib.join (y::l) [32]):=by simp [Lib.join,List.intercalate]
   rw [e,Bg2 y l];simp
theorem An1 (w:Str) (l:List Int):Lib.join (w::l.map Lib.itoa) [32]=sayX w l:=by
 rw [Bg2,sayX,List.map_map];rfl
section
variable {P:Program} {n:Nat} {r:Regs} {W:World} {chg news:Blks} {ty:TypeId} {pos:String} {after:Array Edge} {dst:Option Tmp} {gd:Option (Nat×Bool)}
theorem BV3 {x:Operand} {T t:TypeId} {p:Prt} {z v:Value} {b:Bool} (hx:rev r x=some p.v) (hi:(P.underlying t).any (fun t=>match t with | .interface _=>false | _=>true)=true) (hz:zeroV P t=some z)
  (h1:b=true→p.v = .iface t v) (h2:b=false→v=z∧∃ t' u,p.v = .iface t' u∧Nat.beq t' t=false) :
  Val P r W chg news { dst,op:=.typeAssert x T t true,type:=ty,pos,after,guard:=gd } (.tuple #[v,.bool b]):=by
 cases b with
 | true=>exact Al8 (by rw [hx,h1 rfl]) hi
 | false =>
   obtain ⟨rfl,t',u,h3,h4⟩:=h2 rfl;exact BB6 (by rw [hx,h3]) hi h4 hz
end
end Go.Dk
namespace Go.Q
open Go Go.Eng Go.Dk Go.RowKit Go.Pw1 Go.Hp
section
variable {n:Nat} {r:Regs} {W:World} {chg news:Blks} {ty:TypeId} {pos:String} {after:Array Edge} {dst:Option Tmp} {gd:Option (Nat×Bool)} {x:Operand} {T:TypeId} {p:Prt}
theorem DM3 (hx:rev r x=some p.v):Val π r W chg news { dst,op:=.typeAssert x T 9 true,type:=ty,pos,after,guard:=gd } (.tuple #[p.asS,.bool p.isS]) :=
 BV3 hx (by kernel_rfl) (z:=.string ⟨#[]⟩) (by kernel_rfl) (fun h=>by obtain ⟨x,rfl⟩:=Prt.ofS h;rfl) (fun h=>by cases p <;> first | exact ⟨rfl,_,_,rfl,rfl⟩ | cases h)
theorem DM4 (hx:rev r x=some p.v):Val π r W chg news { dst,op:=.typeAssert x T 3 true,type:=ty,pos,after,guard:=gd } (.tuple #[p.asN,.bool p.isN]) :=
 BV3 hx (by kernel_rfl) (z:=.I 0) (by kernel_rfl) (fun h=>by obtain ⟨x,rfl⟩:=Prt.ofN h;rfl) (fun h=>by cases p <;> first | exact ⟨rfl,_,_,rfl,rfl⟩ | cases h)
theorem Du7 (hx:rev r x=some p.v):Val π r W chg news { dst,op:=.typeAssert x T 23 true,type:=ty,pos,after,guard:=gd } (.tuple #[p.asSp,.bool p.isSp]) :=
 BV3 hx (by kernel_rfl) (z:=.agg #[.I 0,.I 0]) (by kernel_rfl) (fun h=>by obtain ⟨a,b,rfl⟩:=Prt.ofSp h;rfl) (fun h=>by cases p <;> first | exact ⟨rfl,_,_,rfl,rfl⟩ | cases h)
end
set_option maxHeartbeats 1000000 in
theorem Bn9 (ps:List Prt) (q:OA) (b o c:Nat) (W:World) (hL:Lw π W) (hS:Sl W q b o 1 (ps.map fun p=>[p.v])) (hps:ps.length≤100) (hok:∀ p∈ps,p.ok) (hN:((ps.map Prt.words).flatten).length≤20000) :
  CC 129 #[.slice q ps.length c] W (Pure (.string (bs (Lib.join (ps.map Prt.words).flatten [32]))) W):=by
 refine cS func129 ?_;refine su ?_;refine Af2 (X:=Eng.Own) (n0:=[]) (ps.length) (fun k x q=>(11,.I (k:Int))::(3,ownV x (wsK ps k).length)::q) (fun _ _=>_) (fun k x=>[]) (fun k x=>ownB 9 x (stV (wsK ps k))++[]) (fun k x=>OwnOk 1 x (wsK ps k).length (stV (wsK ps k))) none OwnOk.start rfl (zE 11 rfl rfl (zE 3 rfl rfl (zS 9 rfl (zS 10 rfl (Sub.nil _))))) (Pick.same rfl) ?_;intro k x kN kI;have hx1:=kI;refine st ?_;refine cn rfl ?_ ?_
 ·intro c0'
  have hk:k < ps.length:=by omega
  obtain ⟨p,hp⟩:∃ p,ps[k]=p:=⟨_,rfl⟩;have hpo:=hok p (hp ▸ List.getElem_mem hk);have hbd:=DI7 hk hp hN;refine st ?_;refine lv (Aa3 rfl rfl Ap8 (by omega) (by omega) (hS.ptrM hk)) ?_;refine lv (Aa5 rfl (fun w hm=>hS.loadM1 (by decide) hm (by simp) DK5 hk (v:=p.v) (by simp [hp]))) ?_;refine lv (DM3 rfl) ?_;refine cn rfl ?_ ?_
  ·intro c1'
   obtain ⟨x2,rfl⟩:=Prt.ofS c1';have hw1:(Prt.s x2).words.length=1:=rfl;refine st ?_;refine zn (Lu (parts:=[(0,.tmp 20)]) rfl An4 AW1 rfl rfl rfl rfl) (fun b21=>?_)
   refine Kh (A:=[(b21,_)]) (B:=_) (x:=x) (ys:=stV (Prt.s x2).words) CW6 rfl rfl rfl hx1 rfl (fun h=>by cases h) (fun w hm=>Aj6 (hm.at mm0)) (Ao0 rfl) (by simp only [maxLen];omega) (by omega) rfl (fun z22 hz22=>?_)
   refine st ?_;refine lA ?_;exact Ac3 z22 (by omega) (by rw [Ap7 hk hp,Aw5,List.length_append];exact hz22) rfl (zE 11 rfl rfl (zE 3 rfl (by first | (rw [Ap7 hk hp];simp only [List.length_append];rfl) | (simp only [Ap7 hk hp,List.length_append,hw1]) | (rw [Ap7 hk hp];rfl) | exact (Prt.no q1 q2 c3').elim) (zS 9 rfl (zS 10 rfl (Sub.nil _))))) (Pick.skip (Pick.same (by first | (rw [Ap7 hk hp,Aw5];rfl) | (rw [Ap7 hk hp,Aw5] <;> rfl) | (rw [Ap7 hk hp];rfl) | exact (Prt.no q1 q2 c3').elim)))
  intro c1';have q1:p.isS=false:=c1';refine st ?_;refine lv (DM4 rfl) ?_;refine cn rfl ?_ ?_
  ·intro c2'
   obtain ⟨x2,rfl⟩:=Prt.ofN c2';have hw1:(Prt.n x2).words.length=1:=rfl;refine st ?_;refine zc (zF rfl Bq7) (fun w hm=>Ax1 x2 hpo w (hL.mono hm)) ?_;refine zn (Lu (parts:=[(0,.tmp 28)]) rfl An4 AW1 rfl rfl rfl rfl) (fun b29=>?_)
   refine Kh (A:=[(b29,_)]) (B:=_) (x:=x) (ys:=stV (Prt.n x2).words) CW6 rfl rfl rfl hx1 rfl (fun h=>by cases h) (fun w hm=>Aj6 (hm.at mm0)) (Ao0 rfl) (by simp only [maxLen];omega) (by omega) rfl (fun z30 hz30=>?_)
   refine st ?_;refine lA ?_;exact Ac3 z30 (by omega) (by rw [Ap7 hk hp,Aw5,List.length_append];exact hz30) rfl (zE 11 rfl rfl (zE 3 rfl (by first | (rw [Ap7 hk hp];simp only [List.length_append];rfl) | (simp only [Ap7 hk hp,List.length_append,hw1]) | (rw [Ap7 hk hp];rfl) | exact (Prt.no q1 q2 c3').elim) (zS 9 rfl (zS 10 rfl (Sub.nil _))))) (Pick.skip (Pick.same (by first | (rw [Ap7 hk hp,Aw5];rfl) | (rw [Ap7 hk hp,Aw5] <;> rfl) | (rw [Ap7 hk hp];rfl) | exact (Prt.no q1 q2 c3').elim)))
  intro c2';have q2:p.isN=false:=c2';refine st ?_;refine lv (Du7 rfl) ?_;refine cn rfl ?_ ?_
  ·intro c3'
   obtain ⟨xa,xb,rfl⟩:=Prt.ofSp c3';have hw1:(Prt.sp xa xb).words.length=2:=rfl;refine st ?_;refine zn (Lp Ad6) (fun b8=>?_)
   refine sQ .here ?_;refine st ?_;refine Am2 (X:=Eng.Own) 8 (n0:=[]) (fun z q=>(3,ownV z ((wsK ps k).length + 2))::q) (fun z=>[]) (fun z=>[]) (fun z=>ownB 9 z (stV (wsK ps k)++stV (Prt.sp xa xb).words)++[]) (fun z=>OwnOk 1 z ((wsK ps k).length + 2) (stV (wsK ps k)++stV (Prt.sp xa xb).words)) Ah8 (qC .nil) (zS 9 rfl (zS 10 rfl (zS 11 rfl (Sub.nil _)))) .nil ?_ ?_
   ·refine zw 0 ?_
    refine zw 1 ?_;refine zw 2 ?_;refine zw 4 ?_;refine zw 5 ?_;refine zA 3 ?_;refine Xd rfl (zF rfl Bq7) (fun w hm=>Ax1 xa hpo.1 w (hL.mono hm)) (Aa2 (qC .nil) (qC .nil) rfl ?_)
    refine zA 6 ?_;refine Xd rfl (zF rfl Bq7) (fun w hm=>Ax1 xb hpo.2 w (hL.mono hm)) (Aa2 (qC .nil) (qC .nil) rfl ?_)
    refine zA 7 ?_;refine Xf rfl (Lu (parts:=[(0,.tmp 37),(1,.tmp 40)]) rfl An4 AW1 rfl rfl rfl rfl) (fun b41=>(Aa2 (qE .nil) (qD .nil) rfl ?_))
    refine zt ?_;refine zB 8 ?_;refine Kw (A:=[(b41,_),(b8,_)]) (B:=_) (x:=x) (ys:=stV (Prt.sp xa xb).words) rfl CW6 rfl rfl rfl hx1 rfl (fun h=>by cases h) (fun w hm=>Aj6 (hm.at mm0)) (Ao0 rfl) (by simp only [maxLen];omega) (by omega) rfl (fun z42 hz42=>(Ab2 ?_))
    refine zp 9 ?_;refine zd ?_;exact Af4 z42 hz42 rfl (zE 3 rfl rfl (zS 9 rfl (zS 10 rfl (zS 11 rfl (Sub.nil _))))) (Pick.skip (Pick.skip (Pick.same rfl)))
   intro z zI;refine st ?_;refine lA ?_;exact Ac3 z (by omega) (by rw [Ap7 hk hp,Aw5,List.length_append];exact zI) rfl (zE 11 rfl rfl (zE 3 rfl (by first | (rw [Ap7 hk hp];simp only [List.length_append];rfl) | (simp only [Ap7 hk hp,List.length_append,hw1]) | (rw [Ap7 hk hp];rfl) | exact (Prt.no q1 q2 c3').elim) (zS 9 rfl (zS 10 rfl (Sub.nil _))))) (Pick.same (by first | (rw [Ap7 hk hp,Aw5];rfl) | (rw [Ap7 hk hp,Aw5] <;> rfl) | (rw [Ap7 hk hp];rfl) | exact (Prt.no q1 q2 c3').elim))
  intro c3';refine st ?_;refine lA ?_;exact Ac3 x (by omega) (by exact (Prt.no q1 q2 c3').elim) rfl (zE 11 rfl rfl (zE 3 rfl (by first | (rw [Ap7 hk hp];simp only [List.length_append];rfl) | (simp only [Ap7 hk hp,List.length_append,hw1]) | (rw [Ap7 hk hp];rfl) | exact (Prt.no q1 q2 c3').elim) (zS 9 rfl (zS 10 rfl (Sub.nil _))))) (Pick.same (by first | (rw [Ap7 hk hp,Aw5];rfl) | (rw [Ap7 hk hp,Aw5] <;> rfl) | (rw [Ap7 hk hp];rfl) | exact (Prt.no q1 q2 c3').elim))
 intro c0';obtain rfl:k=ps.length:=by omega
 rw [BR7] at hx1;simp only [BR7];have hcap:((ps.map Prt.words).flatten).length≤ownC x:=Dv0 hx1;have hjl:=CK8 (sep:=[32]) (m:=50) (xs:=(ps.map Prt.words).flatten) (fun y hy=>by obtain ⟨ws,h1,h2⟩:=List.mem_flatten.1 hy;obtain ⟨p,h3,rfl⟩:=List.mem_map.1 h1;exact Cy4 (hok p h3) y h2);simp only [List.length_singleton] at hjl;refine Ls ?_;refine su ?_;refine Aa4 ?_;refine st ?_;refine zc (zF rfl DD9) (fun w hm=>(by rw [Ad3 hx1];exact Ct5 (ownQ x) (ownK x) 0 (ownC x) ((ps.map Prt.words).flatten) [32] w (Am3 (f:=strC) (fun _=>rfl) (by decide) hx1 (fun b o h=>hm.at (by simp only [List.nil_append,List.append_nil];exact h))) (by omega) hcap (by omega))) ?_;exact rP
end Go.Q
namespace Go.Dk
open Go Go.Eng Go.RowKit Go.Pw1 Go.Hp
theorem Ag7:In64 0:=⟨by decide,by decide⟩
theorem DI9 (p:Pr) (n:Int):In64 (whyX p n).1:=by
 unfold whyX
 split
 · exact Ag7
 · rename_i w hw
   unfold whyS;dsimp only
   split
   · exact Ag7
   · have h1:=Bw5 id [!levelS p (thingAt p n),decide ((shift (thingAt p n)).2 < 0),decide (2000 < (shift (thingAt p n)).1∨w.2 < (shift (thingAt p n)).1 * p.near),true]
     have h2:=Dh7 id [!levelS p (thingAt p n),decide ((shift (thingAt p n)).2 < 0),decide (2000 < (shift (thingAt p n)).1∨w.2 < (shift (thingAt p n)).1 * p.near),true];simp only [List.length_cons,List.length_nil] at h1;unfold In64;omega
theorem De7 (p:Pr):In64 (powerX p).1.1∧In64 (powerX p).1.2:=by
 unfold powerX
 split
 · exact ⟨Ag7,Ag7⟩
 · rename_i w hw
   have:=Ar7 hw
   unfold In64;dsimp only;omega
theorem DG4 (p:Pr) (n:Int):In64 (distX p n).1.1∧In64 (distX p n).1.2:=by
 unfold distX
 split
 · exact ⟨Ag7,Ag7⟩
 · rename_i w hw
   obtain ⟨hp,ho,hw1,hw2,hw3⟩:=Ar7 hw;obtain ⟨k,rfl,hk⟩:=AJ9 ho (List.mem_singleton.2 rfl);dsimp only;have hn1:=hp.n1;have hn2:=hp.n2;have hn3:=hp.n3
   split
   · rename_i hst
     split
     · rename_i hf
       have ht:=(hp.ths _ (List.getElem_mem hk)).2;rw [Af0 hk rfl] at hf ⊢;unfold In64;dsimp only;omega
     · have hsh:=AP2 (Bd3 hst).1
       have h1:0≤w.1 / ((shownS (thingAt p k)).2 + 1):=Int.ediv_nonneg (by omega) (by omega);have h2:w.1 / ((shownS (thingAt p k)).2 + 1)≤w.1:=Int.ediv_le_self _ (by omega)
       have h3:0≤(if 0 < (shownS (thingAt p k)).1 then w.2 / (shownS (thingAt p k)).1 else p.far):=by
        split
        · exact Int.ediv_nonneg (by omega) (by omega)
        · omega
       unfold In64 nar;dsimp only;omega
   · exact ⟨Ag7,Ag7⟩
theorem CP1 (p:Pr):In64 (fewestX p).1:=by
 unfold fewestX
 split
 · exact Ag7
 · rename_i w hw
   have hp:=(Ar7 hw).1;have h:=BA3 hp (Ar8 hp w.1) (triedS p w);unfold In64 bestS;dsimp only;omega
theorem Bb0 (c:Cd) (t:Tr):∀ l:List Int,((hurtF c t l).1=0∨(hurtF c t l).1∈l)∧0≤(hurtF c t l).2∧(hurtF c t l).2≤5
 | []=>by simp [hurtF]
 | i::l=>by
   have ih:=Bb0 c t l;have hr:=Da9 c t i;unfold hurtF
   split
   · exact ⟨ih.1.imp id (List.mem_cons_of_mem _),ih.2⟩
   · exact ⟨.inr (List.mem_cons_self ..),hr⟩
theorem Dh8 (c:Cd) (t:Tr) (hl:c.p.things.length≤1000):In64 (hurtsX c t).1∧In64 (hurtsX c t).2.1:=by
 unfold hurtsX
 split
 · split
   · exact ⟨Ag7,Ag7⟩
   · have h:=Bb0 c t (seenN c.p)
     have h2:0≤(hurtM c t).1∧(hurtM c t).1≤1000:=by
      rcases h.1 with h1 | h1
      · unfold hurtM;omega
      · obtain ⟨j,hj,hlt,_⟩:=Ba4 h1
        unfold hurtM;omega
     unfold hurtM at h2 ⊢;unfold In64;dsimp only;omega
 · exact ⟨Ag7,Ag7⟩
theorem Dt3 (c:Cd):In64 (trimX c).1.ll∧In64 (trimX c).1.lr∧In64 (trimX c).1.rl∧In64 (trimX c).1.rr:=by
 unfold trimX
 split
 · rename_i ho
   split
   · rename_i t ht
     have hc:=(Ax2 (AK0 ho).1).1;have h1:=(Bd1 ((AB8 hc).1 (List.mem_of_find?_eq_some ht))).1;obtain ⟨a1,a2,b1,b2,c1,c2,d1,d2⟩:=h1
     have:=hc.c2
     unfold In64;dsimp only;omega
   · exact ⟨Ag7,Ag7,Ag7,Ag7⟩
 · exact ⟨Ag7,Ag7,Ag7,Ag7⟩
theorem CU7 (c:Cd) (t:Tr):In64 (depthsX c t).1.1∧In64 (depthsX c t).1.2:=by
 unfold depthsX
 split
 · rename_i h0
   split
   · exact ⟨Ag7,Ag7⟩
   · have ho:openM c [t]=0:=by
      unfold roomX at h0
      split at h0
      · assumption
      · rename_i h1;exact absurd h0 h1
     have hpw:=(AK0 ho).2.2
     have hp:c.p.Ok:=by
      unfold powerX at hpw
      split at hpw
      · rename_i k hk
        exact absurd hpw (by
         unfold truthsX at hk
         split at hk
         · rename_i k2 hk2
           cases hk
           unfold openX at hk2
           split at hk2
           · split at hk2
             · cases hk2;decide
             · cases hk2
           · cases hk2;decide
         · unfold lookX at hk
           split at hk
           · cases hk
           · cases hk;decide)
      · rename_i w hw
        exact (Ar7 hw).1
     have hn1:=hp.n1;have hn2:=hp.n2;have hn3:=hp.n3;have l1:=Ao9 (fun i=>decide ((standsAt c.p (c.p.near + i)).2≤(roomX c t).1.2)) (c.p.far - c.p.near + 1).toNat;have l2:=Ao9 (fun i=>decide ((standsAt c.p (c.p.near + i)).1 < (roomX c t).1.1)) (c.p.far - c.p.near + 1).toNat;unfold depthsOf In64;dsimp only;omega
 · exact ⟨Ag7,Ag7⟩
theorem Dk8 (m:MxA):In64 (CountX m.pl).1:=by
 unfold CountX
 split
 · rename_i h
   have:=CV3 m h
   unfold In64;dsimp only;omega
 · exact Ag7
theorem Ci0 (p:Nat→Bool):∀ n,-1≤lastP p n∧lastP p n < (n:Int)
 | 0=>by simp [lastP]
 | n + 1=>by
   have:=Ci0 p n
   unfold lastP
   split <;> omega
theorem DN1 {m:MxA} (h:mixedX m.pl=true):neX m.pl≤12:=by
 obtain ⟨_,_,h12⟩:=Ao8 h;exact h12
theorem CC0 (m:MxA):∀ e∈(SureX m.pl).1,In64 e:=by
 intro e he;unfold SureX at he
 split at he
 · rename_i hw
   obtain ⟨c,_,rfl⟩:=List.mem_map.1 he;have hX:=(BS2 hw).1;have h1:=DN1 hX;have h2:=Ci0 (sureP m.pl c) (neX m.pl);unfold sureC In64;omega
 · cases he
def VwX.cellsS (v:VwX):LV:=v.p.cells (ownQ v.t) (ownC v.t)++[.I v.cuts.ll,.I v.cuts.lr,.I v.cuts.rl,.I v.cuts.rr,.bool v.up]
theorem VwX.cells_eq {v:VwX} (h:OwnOk 9 v.t v.p.things.length (v.p.things.map Th.cells).flatten):v.cells=v.cellsS:=by
 unfold VwX.cells VwX.cellsS Pr.cells;rw [Ad3 h];rfl
theorem VwX.cells_len (v:VwX):v.cells.length=13:=rfl
def BoX.a (x:BoX):BxA:=⟨⟨x.colour,x.titles⟩,ownQ x.t,ownK x.t,0,ownC x.t⟩
theorem BoX.cells_eq {x:BoX} (h:OwnOk 1 x.t x.titles.length (strsC x.titles)):x.cells=x.a.cells:=by
 unfold BoX.cells BxA.cells;rw [Ad3 h];rfl
def DkX.mx (d:DkX):MxA:=⟨d.bs.map BoX.a,ownQ d.b,ownK d.b,0,ownC d.b,d.cs,ownQ d.c,ownK d.c,0,ownC d.c⟩
theorem DkX.mx_pl (d:DkX):d.mx.pl=d.pl.heap:=by
 unfold DkX.mx MxA.pl DkX.pl;dsimp only;rw [List.map_map];rfl
def DkX.cellsS (d:DkX) (c:Cd):LV:=[.slice (ownQ d.v) d.vs.length (ownC d.v),.slice (ownQ d.b) (d.bs.map BoX.a).length (ownC d.b),.slice (ownQ d.c) d.cs.length (ownC d.c)]++(bareC c).cells none 0++[.bool true]
theorem DkX.cells_eq {d:DkX} (h:DkOk d) (c:Cd):d.cells c=d.cellsS c:=by
 unfold DkX.cells DkX.cellsS;rw [Ad3 h.v,Ad3 h.b,Ad3 h.c,List.length_map]
structure DkAt (W:World) (xb:Nat) (T:TypeId) (d:DkX) (c:Cd):Prop where
 ob:W.heap[xb]? = some (.cells (d.cellsS c).toArray T)
 v:Sl W (ownQ d.v) (ownK d.v) 0 13 (d.vs.map VwX.cellsS)
 t:∀ x∈d.vs,Sl W (ownQ x.t) (ownK x.t) 0 9 (x.p.things.map Th.cells)
 m:MOk W d.mx
 sm:MSm d.mx
 few:d.vs.length≤4∧d.bs.length≤4∧d.cs.length≤8
 th:∀ x∈d.vs,x.p.things.length≤12
theorem DkAt.mono {W w:World} {xb:Nat} {T:TypeId} {d:DkX} {c:Cd} {news:Blks} (h:DkAt W xb T d c) (hm:Mem W [] news w):DkAt w xb T d c :=
 ⟨hm.old_at h.ob (by simp),h.v.mono (by decide) hm (by simp),fun x hx=>(h.t x hx).mono (by decide) hm (by simp),h.m.mono0 hm,h.sm,h.few,h.th⟩
theorem _root_.Go.Eng.Sl.cellE {α:Type} {f:α→LV} {P:Program} {W w:World} {chg news:Blks} {T:TypeId} {p:OA} {b o sz s1:Nat} {l:List α} (h:Sl W p b o sz (l.map f)) (hm:Mem W chg news w) (hc:∀ ob,(b,ob) ∉ chg) (hT:tyB P T=some (false,s1)) {i:Nat} (hi:i < l.length) {x:α} (hx:l[i]=x) {j off:Nat} (hj:j < sz) {v:Value} (hv:nth (f x) j=some v) (ho:off=o + i * sz + j) :
  (loadVar T ⟨b,off,none⟩).run P w = .ok v w:=by
 subst ho
 have:=h.cellX hm hc hT hi hx hj hv
 simpa using this
theorem pl_view {d:DkX} {i:Nat} (hi:i < d.vs.length) {v:VwX} (hv:d.vs[i]=v):d.pl.views.getD i noVw=v.pl:=by
 unfold DkX.pl;dsimp only;rw [List.getD_eq_getElem?_getD,List.getElem?_map,List.getElem?_eq_getElem hi,hv];rfl
def ansV (a:Ans):Except Int Value:=match a with
 | .ok z=>.ok (.string (bs z.2))
 | .error k=>.error k
end Go.Dk
namespace Go.Q
open Go Go.Eng Go.Dk Go.RowKit Go.Pw1 Go.Hp
theorem DT1 {d:DkX} {b:Nat} {o:Obj} (h:(b,o)∈ownB 46 d.v (d.vs.map VwX.cells).flatten):(b,o)∈dkB d:=List.mem_append_left _ h
theorem DT2 {d:DkX} {b:Nat} {o:Obj} {x:VwX} (hx:x∈d.vs) (h:(b,o)∈vwB x):(b,o)∈dkB d :=
 List.mem_append_right _ (List.mem_append_left _ (List.mem_flatten.2 ⟨_,List.mem_map.2 ⟨x,hx,rfl⟩,h⟩))
theorem DT4 {d:DkX} {b:Nat} {o:Obj} (h:(b,o)∈ownB 65 d.b (d.bs.map BoX.cells).flatten):(b,o)∈dkB d :=
 List.mem_append_right _ (List.mem_append_right _ (List.mem_append_left _ h))
theorem Dr2 {d:DkX} {b:Nat} {o:Obj} {x:BoX} (hx:x∈d.bs) (h:(b,o)∈boB x):(b,o)∈dkB d :=
 List.mem_append_right _ (List.mem_append_right _ (List.mem_append_right _ (List.mem_append_left _ (List.mem_flatten.2 ⟨_,List.mem_map.2 ⟨x,hx,rfl⟩,h⟩))))
theorem DT3 {d:DkX} {b:Nat} {o:Obj} (h:(b,o)∈ownB 165 d.c (d.cs.map Tn.cells).flatten):(b,o)∈dkB d :=
 List.mem_append_right _ (List.mem_append_right _ (List.mem_append_right _ (List.mem_append_right _ h)))
theorem Dt5 (t:Th):t.cells.length=9:=rfl
abbrev DkA (W:World) (xb:Nat) (d:DkX) (c:Cd):Prop:=DkAt W xb 88 d c
abbrev dkM (xb:Nat) (d:DkX) (c:Cd) (tl:Blks):Blks:=(xb,dkO d c)::(dkB d++tl)
theorem Am7 {W0 w:World} {xb:Nat} {d:DkX} {c:Cd} {tl:Blks} (hd:DkOk d) (hm:Mem W0 [] (dkM xb d c tl) w):DkA w xb d c:=by
 have hat:∀ b o,(b,o)∈dkB d→w.heap[b]? = some o:=fun b o hb=>(hm.newd b o (.tail _ (List.mem_append_left _ hb))).2
 have e1:d.vs.map VwX.cells=d.vs.map VwX.cellsS:=List.map_congr_left fun x hx=>VwX.cells_eq (hd.vs x hx)
 have e2:d.bs.map BoX.cells=(d.bs.map BoX.a).map BxA.cells:=by
  rw [List.map_map];exact List.map_congr_left fun x hx=>BoX.cells_eq (hd.bs x hx)
 refine ⟨?_,?_,fun x hx=>?_,⟨?_,fun x hx=>?_,?_⟩,⟨?_,?_,fun x hx=>?_,fun t ht=>?_⟩,hd.few,hd.things⟩
 · rw [← DkX.cells_eq hd]
   exact (hm.newd _ _ mm0).2
 · rw [← e1]
   exact Am3 (f:=VwX.cells) (e:=46) (fun _=>rfl) (by decide) hd.v (fun b o h=>hat b o (DT1 h))
 · exact Am3 (f:=Th.cells) (e:=145) (fun _=>rfl) (by decide) (hd.vs x hx) (fun b o h=>hat b o (DT2 hx h))
 · show Sl w (ownQ d.b) (ownK d.b) 0 2 ((d.bs.map BoX.a).map BxA.cells)
   rw [← e2];exact Am3 (f:=BoX.cells) (e:=65) (fun _=>rfl) (by decide) hd.b (fun b o h=>hat b o (DT4 h))
 · obtain ⟨y,hy,rfl⟩:=List.mem_map.1 hx
   have h1:=hd.bs y hy;rw [Ao3] at h1;exact Am3 (f:=strC) (e:=9) (fun _=>rfl) (by decide) h1 (fun b o h=>hat b o (Dr2 hy (by rw [boB,Ao3];exact h)))
 · exact Am3 (f:=Tn.cells) (e:=165) (fun _=>rfl) (by decide) hd.c (fun b o h=>hat b o (DT3 h))
 · show (d.bs.map BoX.a).length≤1000
   rw [List.length_map]
   have:=hd.few
   omega
 · have:=hd.few
   show d.cs.length≤1000
   omega
 · obtain ⟨y,hy,rfl⟩:=List.mem_map.1 hx
   exact ⟨(hd.ti y hy).1,(hd.ti y hy).2⟩
 · exact hd.tx t ht
theorem Ag4 (ps:List Prt) (r:Str) (hr:Lib.join (ps.map Prt.words).flatten [32]=r) (b:Nat) (w:World) (hL:Lw π w) (hb:w.heap[b]? = some (.cells ((ps.map fun p=>[p.v]).flatten).toArray 20)) (hps:ps.length≤100) (hok:∀ p∈ps,p.ok) (hN:((ps.map Prt.words).flatten).length≤20000) :
  CC 129 #[.slice (some ⟨b,0,none⟩) ps.length ps.length] w (Pure (.string (bs r)) w):=by
 subst hr;exact Bn9 ps (some ⟨b,0,none⟩) b 0 ps.length w hL (Sl.rowsR (t:=[]) (by rw [List.append_nil];exact hb) (by simp)) hps hok hN
theorem BG3 (s:Nat) (hs:s < 4096) (W:World):CC 271 #[.int .u64 (s:Int)] W (Pure (.I (oc s:Int)) W):=by
 have b1:=Do9 s;have b2':=CI1 s;have b3:=CH9 s;have b3':=CI0 s;have b4:=CH8 s;have b5:=CH7 s;have b6:=Do8 s;have h1:=Lh s 1;have h2:=Lh (oc1 s) 2;refine cS func271 ?_;refine st ?_;refine lv (Aj9 (a:=s) (b:=1) rfl rfl (by decide)) ?_;refine lv (Ku (a:=s >>> 1) (b:=6148914691236517205) rfl rfl (by show _ < 18446744073709551616;omega) (by decide) (u64_in (by have:=Lg (n:=s >>> 1) (m:=6148914691236517205);omega))) ?_;refine lv (Ku (a:=s) (b:=6148914691236517205) rfl rfl (by show _ < 18446744073709551616;omega) (by decide) (u64_in (by have:=Lg (n:=s) (m:=6148914691236517205);omega))) ?_;refine lv (Ah1 (oc1 s) rfl rfl rfl (u64_in (by omega))) ?_;refine lv (Aj9 (a:=oc1 s) (b:=2) rfl rfl (by decide)) ?_;refine lv (Ku (a:=oc1 s >>> 2) (b:=3689348814741910323) rfl rfl (by show _ < 18446744073709551616;omega) (by decide) (u64_in (by have:=Lg (n:=oc1 s >>> 2) (m:=3689348814741910323);omega))) ?_;refine lv (Ku (a:=oc1 s) (b:=3689348814741910323) rfl rfl (by show _ < 18446744073709551616;omega) (by decide) (u64_in (by have:=Lg (n:=oc1 s) (m:=3689348814741910323);omega))) ?_;refine lv (Ah1 (oc2 s) rfl rfl rfl (u64_in (by omega))) ?_;refine lv (Aj9 (a:=oc2 s) (b:=4) rfl rfl (by decide)) ?_;refine lv (Ah1 (oc3a s) rfl rfl rfl (u64_in (by omega))) ?_;refine lv (Ku (a:=oc3a s) (b:=1085102592571150095) rfl rfl (by show _ < 18446744073709551616;omega) (by decide) (u64_in (by have:=Lg (n:=oc3a s) (m:=1085102592571150095);omega))) ?_;refine lv (Aj9 (a:=oc3 s) (b:=8) rfl rfl (by decide)) ?_;refine lv (Ah1 (oc4 s) rfl rfl rfl (u64_in (by omega))) ?_;refine lv (Aj9 (a:=oc4 s) (b:=16) rfl rfl (by decide)) ?_;refine lv (Ah1 (oc5 s) rfl rfl rfl (u64_in (by omega))) ?_;refine lv (Aj9 (a:=oc5 s) (b:=32) rfl rfl (by decide)) ?_;refine lv (Ah1 (oc6 s) rfl rfl rfl (u64_in (by omega))) ?_;refine lv (Al5 rfl Cz6 BC9 (Lq _ ⟨by omega,by omega⟩)) ?_;refine lu (Ku (a:=oc6 s) (b:=127) rfl rfl (by show _ < 18446744073709551616;omega) (by decide) (Ak8 (by have:=Lg (n:=oc6 s) (m:=127);omega))) ?_;exact rP
theorem Cs1 (s:Nat) (hs:s < 4096) (W:World):CC 250 #[.int .u64 (s:Int)] W (Pure (.I (pc s 12:Int)) W):=by
 rw [← DM8 hs];refine cS func250 ?_;refine st ?_;refine Ae9 rfl ?_;refine st ?_;refine zc (zF rfl CQ5) (fun w hm=>BG3 s hs w) ?_;exact rP
def rankV (s:Nat):Value:=.agg #[.I (pc s 12:Int),.int .u64 (s:Int)]
theorem Az0 (s:Nat) (hs:s < 4096) (W:World):CC 198 #[.int .u64 (s:Int)] W (Pure (rankV s) W):=by
 refine cS func198 ?_;refine st ?_;refine zn (Lp AJ0) (fun b2=>?_)
 refine zc (zF rfl CQ8) (fun w hm=>Cs1 s hs w) ?_;refine lv (Lr (parts:=[(0,.tmp 4),(1,.tmp 5)]) rfl AJ0 Cq7 rfl) ?_;refine sQ .here ?_;refine su ?_;exact Aa9 (.r1 rfl (.agg rfl mm0 AF5 rfl)) (by first | rfl | simp)
theorem Cm1 (s i:Nat) (hs:s < 4096) (hi:i < 12) (W:World):CC 251 #[.int .u64 (s:Int),.I (i:Int)] W (Pure (.int .u64 ((s ||| 2 ^ i:Nat):Int)) W):=by
 have h1:2 ^ i < 2 ^ 12:=Ll (a:=2) (by decide) hi;have h2:s ||| 2 ^ i < 2 ^ 12:=Lj hs h1;refine cS func251 ?_;refine st ?_;refine lv (Ap2 (b:=i) rfl rfl (by show i≤64;omega) (u64_in (n:=2 ^ i) (by omega))) ?_;refine lu (Val.or (a:=s) (b:=2 ^ i) rfl rfl (by show s < 18446744073709551616;omega) (by show 2 ^ i < 18446744073709551616;omega) (u64_in (n:=s ||| 2 ^ i) (by omega))) ?_;exact rP
theorem DH2 (s u:Nat):befS s u=(!(decide ((pc s 12:Int)=(pc u 12:Int)) && decide ((s:Int)=(u:Int))) && (decide ((pc s 12:Int) < (pc u 12:Int)) || (decide ((pc s 12:Int)=(pc u 12:Int)) && decide ((s:Int) < (u:Int))))):=by
 unfold befS;rw [Bool.eq_iff_iff];simp only [Bool.or_eq_true,Bool.and_eq_true,decide_eq_true_eq,Bool.not_eq_true',Bool.and_eq_false_iff,decide_eq_false_iff_not];omega
theorem BO0 (s u:Nat) (W:World):CC 200 #[rankV s,rankV u] W (Pure (.bool (befS s u)) W):=by
 refine cS func200 ?_;refine st ?_;refine zn (Lm rfl) (fun b2=>?_)
 refine zn (Lm rfl) (fun b3=>?_)
 refine lv (AY4 rfl rfl Cg8) ?_
 refine Ab0 (dj:=8) (dp:=28) (x:=decide ((pc s 12:Int) < (pc u 12:Int)) || (decide ((pc s 12:Int)=(pc u 12:Int)) && decide ((s:Int) < (u:Int)))) 20 rfl (fun g8=>by
  refine su ?_
  refine Ac5 (dj:=14) (dp:=27) (x:=decide ((pc s 12:Int)=(pc u 12:Int)) && decide ((s:Int) < (u:Int))) 13 rfl (fun g14=>by
   refine su ?_
   refine Ab0 (dj:=20) (dp:=26) (x:=decide ((s:Int) < (u:Int))) 6 rfl (fun g20=>by
    refine lv (Lo rfl Bh3) ?_;refine lv (Aa6 rfl mm1 CA2 rfl) ?_;refine lv (Lo rfl Bh3) ?_;refine Xa (Aa6 rfl mm0 CA2 rfl) ?_;refine sv ?_;exact zs g20
   ) (fun g20=>by
     iterate 5 refine nQ ?_
     refine sv ?_;exact zs g20
   ) ?_
   refine sv ?_;exact zs g14
  ) (fun g14=>by
    iterate 12 refine nQ ?_
    refine sv ?_;exact zs g14
  ) ?_
  refine sv ?_;exact zs g8
 ) (fun g8=>by
   iterate 19 refine nQ ?_
   refine sv ?_;exact zs g8
 ) ?_
 refine su ?_;exact Aa9 rZ (by rw [DH2])
theorem AN5 (p:Pr) (hp:p.Ok) (q:OA) (b o cap:Nat) (pw:Int×Int) (x:Int) (bv:Nat) (W:World) (hV:W.heap[bv]? = some (.cells (vwCells p q cap pw).toArray 270)) (hS:Sl W q b o 9 (p.things.map Th.cells)) :
  CC 199 #[.pointer (some ⟨bv,0,none⟩),.I x] W (Pure (.int .u64 (movedS p x:Int)) W):=by
 have hlen:=hp.len;refine cS func199 ?_;refine su ?_;refine lu (Aa0 rfl hV (by simp) AD3 rfl) ?_;refine Ac8 (p.things.length) (fun k q=>(16,.I (k:Int))::(4,.int .u64 ((movedK p x k:Nat):Int))::q) (fun _=>_) (fun _=>[]) (fun _=>True) trivial rfl (zE 16 rfl rfl (zE 4 rfl rfl (zS 0 rfl (zS 1 rfl (zS 5 rfl (zS 14 rfl (zS 15 rfl (Sub.nil _)))))))) .nil ?_;intro k kN kI;clear kI;refine st ?_;refine cn rfl ?_ ?_
 ·intro c0'
  have hk:k < p.things.length:=by omega
  obtain ⟨t,ht⟩:∃ t,p.things[k]=t:=⟨_,rfl⟩;have hth:=hp.ths _ (List.getElem_mem hk);rw [ht] at hth;have hmk:=Cs5 hp x (show k≤p.things.length by omega);refine st ?_;refine lv (Aa3 rfl rfl Ax9 (by omega) (by omega) (hS.ptrM hk)) ?_;refine lv (Aa5 rfl (fun w hm=>hS.loadX (by decide) hm (by simp) Ay5 hk ht)) ?_;refine zn (Lp Al0) (fun b7=>?_)
  refine sQ .here ?_;refine su ?_;refine lv (Lr (parts:=[(0,.tmp 24),(1,.tmp 25)]) rfl Ac6 Ah9 rfl) ?_;refine zc (zF rfl AB1) (fun w hm=>Ai7 p hp q cap pw t hth.1 hth.2 (x,x) bv w (hm.old_at hV (by simp))) ?_;refine zn (Lp Ac6) (fun b8=>?_)
  refine sQ .here ?_;refine st ?_;refine cn rfl ?_ ?_
  ·intro c1'
   refine st ?_;refine Xe (Ab4 rfl rfl DB0) (fun w hm=>Cm1 (movedK p x k) k hmk (by omega) w) ?_;refine st ?_;refine lA ?_;exact Ac2 (by omega) trivial rfl (zE 16 rfl rfl (zE 4 rfl (by first | (rw [BG6 (Af0 hk ht) c1']) | (rw [Bp0 (Af0 hk ht) c1'])) (zS 0 rfl (zS 1 rfl (zS 5 rfl (zS 14 rfl (zS 15 rfl (Sub.nil _)))))))) .nil
  intro c1';refine st ?_;refine lA ?_;exact Ac2 (by omega) trivial rfl (zE 16 rfl rfl (zE 4 rfl (by first | (rw [BG6 (Af0 hk ht) c1']) | (rw [Bp0 (Af0 hk ht) c1'])) (zS 0 rfl (zS 1 rfl (zS 5 rfl (zS 14 rfl (zS 15 rfl (Sub.nil _)))))))) .nil
 intro c0';obtain rfl:k=p.things.length:=by omega
 refine Ls ?_;refine su ?_;refine Aa4 ?_;refine su ?_;exact rP
structure Seen (p:Pr) (q:OA) (b o cap:Nat) (pw:Int×Int) (bv b1:Nat) (W:World):Prop where
 v:W.heap[bv]? = some (.cells (vwCells p q cap pw).toArray 270)
 x:W.heap[b1]? = some (.cells [.pointer (some ⟨bv,0,none⟩)].toArray 271)
 s:Sl W q b o 9 (p.things.map Th.cells)
theorem Seen.mem {p:Pr} {q:OA} {b o cap:Nat} {pw:Int×Int} {bv b1:Nat} {W w:World} {news:Blks} (h:Seen p q b o cap pw bv b1 W) (hm:Mem W [] news w):Seen p q b o cap pw bv b1 w :=
 ⟨hm.old_at h.v (by simp),hm.old_at h.x (by simp),h.s.mono (by decide) hm (by simp)⟩
structure Safe (p:Pr) (b bv b1 B:Nat) (nm:List Nat):Prop where
 v:bv < B∧bv ∉ nm
 x:b1 < B∧b1 ∉ nm
 s:p.things.map Th.cells ≠ []→b < B∧b ∉ nm
theorem Seen.kp {p:Pr} {q:OA} {b o cap:Nat} {pw:Int×Int} {bv b1 B:Nat} {nm:List Nat} {W W':World} (h:Seen p q b o cap pw bv b1 W) (hs:Safe p b bv b1 B nm) (hk:KpX B nm W W'):Seen p q b o cap pw bv b1 W' :=
 ⟨(hk bv hs.v.1 hs.v.2).trans h.v,(hk b1 hs.x.1 hs.x.2).trans h.x,h.s.kp (fun hne=>hk b (hs.s hne).1 (hs.s hne).2)⟩
set_option maxHeartbeats 2000000 in
theorem BS9 (p:Pr) (hp:p.Ok) (q:OA) (b o cap:Nat) (pw:Int×Int) (bv b1:Nat) (w0:World) (nm:List Nat) (h0:Seen p q b o cap pw bv b1 w0) (hs:Safe p b bv b1 w0.heap.size nm) :
  SeqStopsK (Fr none) 8 π 252 #[.pointer (some ⟨b1,0,none⟩)] (fun x:Int=>#[.I x]) (KpX w0.heap.size nm) (fun xs=>xs=triedS p pw) (fun _=>True) 100 w0:=by
 unfold SeqStopsK;intro l J Jx W hW hJ hJx hY hJ0;have hlen:=hp.len;have hSn:Seen p q b o cap pw bv b1 W:=⟨(hW.block bv hs.v.1).trans h0.v,(hW.block b1 hs.x.1).trans h0.x,h0.s.kp (fun hne=>hW.block b (hs.s hne).1)⟩;have hJm:∀ {s:List Int} {A C:World} {news:Blks},J s A→Mem A [] news C→J s C:=fun h hm=>hJ _ _ _ none h hm.grown (fun r e=>by cases e)
 have hJxm:∀ {s:List Int} {A C:World} {news:Blks},Jx s A→Mem A [] news C→Jx s C:=fun h hm=>hJx _ _ _ none h hm.grown (fun r e=>by cases e)
 have hYY:∀ (pre:List Int) (x:Int) (A:World),J pre A→pre.length < 100→Seen p q b o cap pw bv b1 A→YieldAt (Fr none) 8 π l #[.I x] A (fun e w'=>∃ y,e = .returned (.bool y)∧((y=true∧J (pre++[x]) w'∧Seen p q b o cap pw bv b1 w')∨(y=false∧Jx (pre++[x]) w'))):=fun pre x A h1 h2 h3 =>
  AM8 (hY pre x A h1 h2) (fun e w' hh=>by
   rcases hh with ⟨rfl,hh,hk⟩ | ⟨rfl,hh⟩
   · exact ⟨true,rfl,.inl ⟨rfl,hh,h3.kp hs hk⟩⟩
   · exact ⟨false,rfl,.inr ⟨rfl,hh⟩⟩)
 refine AF1 (vs:=[.func (.yield l) #[] #[],.pointer (some ⟨b1,0,none⟩)]) func252 rfl rfl ?_ 8
 refine Ki ?_;refine Ki ?_;refine Kj ?_;refine vR ?_;refine Xb (Aa0 rfl hSn.x (by simp) AW4 rfl) ?_;refine vR ?_;refine Xb (Lo rfl BK5) ?_;refine Xb (Aa7 rfl rfl Ah4 (by decide) (by decide)) ?_;refine Xb (Aa0 rfl hSn.v (by simp) Ae0 rfl) ?_;refine RunLR.yield (RY:=fun y w'=>(y=true∧J ([]++[pw.1]) w'∧Seen p q b o cap pw bv b1 w')∨(y=false∧Jx ([]++[pw.1]) w')) (Ai4 rfl rfl) rfl rfl rfl (fun w hm=>hYY [] pw.1 w (hJm hJ0 hm) (by simp) (hSn.mem hm)) ?_;intro y13 W13 h13;refine vR ?_;refine Kk ?_;refine Kl ?_;refine Kn rfl ?_ ?_
 ·intro c0
  have c0':=c0;clear c0;try simp only [nH] at c0'
  have hX1:Jx [pw.1] W13:=by
   rcases h13 with ⟨h,_⟩ | ⟨_,h⟩
   · rw [h] at c0';cases c0'
   · exact h
  refine Kp ?_;refine Ad1 ?_;intro a w2 s;exact ⟨s.defers,_,results_none rfl _ _ _,⟨_,rfl⟩,.inr ⟨_,trivial,hJxm hX1 s.mem⟩⟩
 intro c0;have c0':=c0;clear c0;try simp only [nH] at c0'
 obtain ⟨hJ1,hS1⟩:J [pw.1] W13∧Seen p q b o cap pw bv b1 W13:=by
  rcases h13 with ⟨_,h⟩ | ⟨h,_⟩
  · exact h
  · rw [h] at c0';cases c0'
 refine Ko ?_;refine Kl ?_;refine Ki ?_;refine Kj ?_;refine Xb (Aa0 rfl hS1.x (by simp) AW4 rfl) ?_;refine vR ?_;refine Xb (Lo rfl As9) ?_;refine Xb (Lo rfl AK9) ?_;refine Xb (Aa0 rfl hS1.v (by simp) AD3 rfl) ?_;refine Xb (Ae3 rfl Ax9) ?_;refine vR ?_;refine Kk ?_;refine Kl ?_;refine Km ?_;refine Ar0 (p.things.length) (fun k q=>(21,.I (k:Int))::q) (fun k Wk=>J (triedK p pw k) Wk∧Seen p q b o cap pw bv b1 Wk) (fun w hm=>⟨hJm hJ1 hm,hS1.mem hm⟩) (zE 21 rfl rfl (zS 0 rfl (zS 1 rfl (zS 19 rfl (zS 20 rfl (Sub.nil _)))))) ?_;intro k Wk kN kI;obtain ⟨hJk,hSk⟩:=kI;refine Ki ?_;refine Kj ?_;refine vR ?_;refine Kk ?_;refine Kl ?_;refine Ki ?_;refine Kn rfl ?_ ?_
 ·intro c1
  have c1':=c1;clear c1;try simp only [nH] at c1'
  have hk:k < p.things.length:=by omega
  obtain ⟨t,ht⟩:∃ t,p.things[k]=t:=⟨_,rfl⟩;have hth:=hp.ths _ (List.getElem_mem hk);rw [ht] at hth;refine Ko ?_;refine Kl ?_;refine Ki ?_;refine Km ?_;refine Ki ?_;refine Kj ?_;refine Xb (Aa3 rfl rfl Ax9 (by omega) (by omega) (hSk.s.ptrM hk)) ?_;refine Xb (Aa5 rfl (fun w hm=>hSk.s.loadX (by decide) hm (by simp) Ay5 hk ht)) ?_;refine Xz (Lp Al0) (fun b4=>?_)
  refine Ya (Lt rfl rfl .here Ay5 rfl rfl) ?_;refine Kk ?_;refine Kl ?_;refine Ki ?_;refine Cl5 ?_
  apply Ak7 (J:=J1 _ _ _ _ _ _) 12 Ah8 (qC .nil)
  ·refine zv 0 rfl (Aa0 rfl hSk.x (by simp) AW4 rfl) ?_
   refine zw 1 ?_;refine zv 2 rfl (Aa0 rfl hSk.x (by simp) AW4 rfl) ?_;refine zw 3 ?_;refine zw 4 ?_;refine zv 5 rfl (Ag2 rfl hSk.v (by simp) Ah6 rfl) ?_;refine Af7 (rs:=[6,10]) (by kernel_rfl) (by simp) (by kernel_rfl) (fun m hm=>?_)
   simp only [List.mem_cons,List.not_mem_nil,or_false] at hm
   rcases hm with rfl | rfl
   ·refine Xd rfl (zF rfl AB1) (fun w hm=>Ai7 p hp q cap pw t hth.1 hth.2 pw bv w (hm.old_at hSk.v (by simp))) (Aa2 (qC .nil) (qC .nil) rfl ?_)
    refine zw 7 ?_;refine zw 8 ?_;refine zw 9 ?_;refine zA 10 ?_;refine Xf rfl (Lp Ac6) (fun b5=>(Aa2 (qD .nil) (qC .nil) rfl ?_))
    refine zA 11 ?_;refine Xr rfl (Lt rfl rfl .here Ah6 rfl rfl) (Aa2 (qD .nil) (qC .nil) rfl ?_)
    refine zt ?_;refine zp 12 ?_;refine zd ?_;exact Af1 b5 (Ab3 _) (Pick.refl _)
   refine Xf rfl (Lp Ac6) (fun b5=>(Aa2 (qD .nil) (qC .nil) rfl ?_))
   refine zA 6 ?_;refine Xd rfl (zF rfl AB1) (fun w hm=>Ai7 p hp q cap pw t hth.1 hth.2 pw bv w (hm.old_at hSk.v (by simp))) (Aa2 (qD .nil) (qC .nil) rfl ?_)
   refine zw 7 ?_;refine zw 8 ?_;refine zw 9 ?_;refine zA 11 ?_;refine Xr rfl (Lt rfl rfl .here Ah6 rfl rfl) (Aa2 (qD .nil) (qC .nil) rfl ?_)
   refine zt ?_;refine zp 12 ?_;refine zd ?_;exact Af1 b5 (zS 6 rfl (zS 5 rfl (zS 34 rfl (zS 33 rfl (zS 25 rfl (zS 32 rfl (zS 31 rfl (zS 30 rfl (zS 29 rfl (zS 28 rfl (zS 27 rfl (zS 26 rfl (qU (qU (qU (Ab3 _)))))))))))))))) (qE .nil)
  refine J1.out (fun b5=>?_)
  refine Kl ?_;refine Ki ?_;refine Kj ?_;refine vR ?_;refine vR ?_;refine Bs1 (dj:=36) rfl ?_ ?_
  ·intro g36
   have g36':=g36;clear g36;try simp only [nH] at g36'
   refine vR ?_;refine Xb (Aa7 rfl rfl Ah4 (by decide) (by decide)) ?_;refine Xb (Aa6 rfl mm0 Ae0 rfl) ?_;refine RunLR.yield (RY:=fun y w'=>(y=true∧J (triedK p pw k++[(stillS p t pw).1.1]) w'∧Seen p q b o cap pw bv b1 w')∨(y=false∧Jx (triedK p pw k++[(stillS p t pw).1.1]) w')) (Ai4 rfl rfl) rfl rfl rfl (fun w hm=>hYY _ (stillS p t pw).1.1 w (hJm hJk hm) (by have:=Bn1 p pw k;omega) (hSk.mem hm)) ?_;intro y40 W40 h40;refine vR ?_;refine vR ?_;refine Kk ?_;refine Kl ?_;refine Kn rfl ?_ ?_
   ·intro c2
    have c2':=c2;clear c2;try simp only [nH] at c2'
    refine Kp ?_;refine Ad4 ?_;refine Ad1 ?_;refine Ad1 ?_;refine Ad4 ?_;intro a w2 s
    rcases h40 with ⟨h,_⟩ | ⟨_,hX2⟩
    ·rw [h] at c2';cases c2'
    exact ⟨s.defers,_,results_none rfl _ _ _,⟨_,rfl⟩,.inr ⟨_,trivial,hJxm hX2 s.mem⟩⟩
   intro c2;have c2':=c2;clear c2;try simp only [nH] at c2'
   refine Ko ?_;refine st ?_;refine Kl ?_;refine Kj ?_;refine Xb (Kb rfl rfl (Lq _ ⟨by omega,by omega⟩)) ?_;refine vR ?_;refine Kk ?_;exact Al6 (by omega) (fun w hm=>(by first | exact ⟨by rw [BD3 (Af0 hk ht) g36'];exact hJm hJk hm,hSk.mem hm⟩ | (rcases h40 with ⟨_,hJ2,hS2⟩ | ⟨h,_⟩;exact ⟨by rw [Bn0 (Af0 hk ht) g36'];exact hJm hJ2 hm,hS2.mem hm⟩;rw [h] at c2';cases c2'))) (zE 21 rfl rfl (zS 0 rfl (zS 1 rfl (zS 19 rfl (zS 20 rfl (Sub.nil _))))))
  intro g36;have g36':=g36;clear g36;try simp only [nH] at g36'
  iterate 5 refine Bc0 rfl rfl rfl ?_
  refine vR ?_;refine Kk ?_;refine Kl ?_;refine Kn rfl ?_ ?_
  ·intro c2
   have c2':=c2;clear c2;try simp only [nH] at c2'
   refine Kp ?_;refine su ?_;exact absurd c2' (by simp)
  intro c2;have c2':=c2;clear c2;try simp only [nH] at c2'
  refine Ko ?_;refine st ?_;refine Kl ?_;refine Kj ?_;refine Xb (Kb rfl rfl (Lq _ ⟨by omega,by omega⟩)) ?_;refine vR ?_;refine Kk ?_;exact Al6 (by omega) (fun w hm=>(by first | exact ⟨by rw [BD3 (Af0 hk ht) g36'];exact hJm hJk hm,hSk.mem hm⟩ | (rcases h40 with ⟨_,hJ2,hS2⟩ | ⟨h,_⟩;exact ⟨by rw [Bn0 (Af0 hk ht) g36'];exact hJm hJ2 hm,hS2.mem hm⟩;rw [h] at c2';cases c2'))) (zE 21 rfl rfl (zS 0 rfl (zS 1 rfl (zS 19 rfl (zS 20 rfl (Sub.nil _))))))
 intro c1;have c1':=c1;clear c1;try simp only [nH] at c1'
 obtain rfl:k=p.things.length:=by omega
 refine Kq ?_;refine su ?_;refine Aa4 ?_;intro a w2 s;exact ⟨s.defers,_,results_none rfl _ _ _,⟨_,rfl⟩,.inl ⟨_,rfl,hJm hJk s.mem⟩⟩
theorem BT0 (bv:Nat) (W:World):CC 201 #[.pointer (some ⟨bv,0,none⟩)] W (News (fun b=>.func (.func 252) #[] #[.pointer (some ⟨b,0,none⟩)]) (fun b=>[(b,.cells [.pointer (some ⟨bv,0,none⟩)].toArray 271)]) W):=by
 refine cS func201 ?_;refine st ?_;refine zn (Lm rfl) (fun b1=>?_)
 exact Ld (chg:=[]) rZ (fun _ hm=>⟨b1,rfl,hm⟩)
theorem BA1 (b:Nat) (w:World):CallsDIn Fence.wide 8 π 156 #[.pointer (some ⟨b,0,none⟩)] .returning w fun e u w'=>(∃ v,e = .returned v)∧u = .returning∧Mem w [] [] w':=by
 refine callsDIn_of_wpSIn func156 rfl trivial fun c₀ cs hu=>?_
 refine wpSIn_seq ?_;refine wpSIn_region ?_;simp [wpOpsSIn,Fence.wide,go_sem,recoverD,hu,ntmps156,Exit.thenS]
 refine wpSIn_of_wpIn rfl ?_;refine wpIn_wide.2 ?_;refine BC0 20 [(0,.pointer (some ⟨b,0,none⟩)),(2,.nilIface)] w [] ?_ ?_
 · exact ⟨by simp,.consA (by simp) (.consA (by simp [Array.getElem?_append]) (Agree.nil _)),rfl,Mem.refl w⟩
 refine st ?_;refine lv (Ap3 rfl AL8) ?_;refine Ly rfl (fun h=>absurd h (by simp)) ?_;intro c0;clear c0;refine Kd ?_;intro a w2 s;exact ⟨s.defers,.returning,by rw [← hu],_,results_none rfl _ _ _,⟨_,rfl⟩,rfl,s.mem.drop⟩
theorem BA0 (b:Nat) (k:Int) (x:Value) (w:World) (hb:w.heap[b]? = some (.cells #[x] 49 (0,0))):CallsDIn Fence.wide 8 π 156 #[.pointer (some ⟨b,0,none⟩)] (.panicking [{ v:=misf k,recovered:=false }]) w fun e u w' =>
  (∃ v,e = .returned v)∧u = .panicking [{ v:=misf k,recovered:=true }]∧Mem w [(b,.cells #[.I k] 49 (0,0))] [] w':=by
 refine callsDIn_of_wpSIn func156 rfl trivial fun c₀ cs hu=>?_
 refine wpSIn_seq ?_;refine wpSIn_region ?_;simp [wpOpsSIn,Fence.wide,go_sem,recoverD,hu,ntmps156,Exit.thenS]
 refine wpSIn_of_wpIn rfl ?_;refine wpIn_wide.2 ?_;refine BC0 20 [(0,.pointer (some ⟨b,0,none⟩)),(2,misf k)] w [(b,.cells #[x] 49 (0,0))] ?_ ?_
 · exact ⟨by simp,.consA (by simp) (.consA (by simp [Array.getElem?_append]) (Agree.nil _)),rfl,Mem.start hb⟩
 refine st ?_;refine lv (Aq6 rfl AL8) ?_;refine Ly rfl ?_ (fun h=>absurd h (by simp))
 intro c0;clear c0;refine st ?_;refine lv (Al8 rfl Bv8) ?_;refine zn (Lp Bt5) (fun b3=>?_)
 refine sQ .here ?_;refine st ?_;refine Ly rfl (fun h=>absurd h (by simp)) ?_;intro c1;clear c1;refine su ?_;refine Xs (Ab7 rfl rfl .here Af8 rfl rfl) ?_;refine Kf ?_;intro a w2 s;exact ⟨s.defers,.panicking [{ v:=misf k,recovered:=true }],rfl,_,results_none rfl _ _ _,⟨_,rfl⟩,rfl,s.mem.drop⟩
theorem BN1:CatchesIn π 156 49 misf:=⟨BA1,fun b k x w h=>BA0 b k x w h⟩
theorem AY9 (p:Pr) (q:OA) (b o cap:Nat) (W:World) (hS:Sl W q b o 9 (p.things.map Th.cells)) (hl:p.things.length≤100000000000) :
  CC 135 #[p.v q cap] W (Pure (.tuple #[.I (fewestX p).1,b2v (fewestX p).2.1,.I (fewestX p).2.2]) W):=by
 refine Ai0 func135 rfl rfl ?_;refine st ?_;refine zn (Lm rfl) (fun b1=>?_)
 refine zn (Lp Ad6) (fun b3=>?_)
 refine zn (Lp Am5) (fun b4=>?_)
 refine RunL.defer rfl ?_;refine su ?_;refine Xm (zF rfl By6) (fun w hm=>Ay6 p q b o cap [] _ 0 0 _ w (hS.mono (by decide) hm (by simp)) hl Sl.emp (by simp)) (fun e14 he14=>?_) (fun a14 ha14 b14=>?_)
 ·refine Aa1 ?_
  exact CX9 BN1 Ak9 .here (.r3 rfl (.tmp rfl) (.agg rfl mm1 Ai6 rfl) (.one rfl mm0 Af8 rfl)) (by simp [fewestX,he14,b2v])
 obtain ⟨hp,hop,wb1,wb2,wb3⟩:=Ar7 ha14;have hlen:=hp.len;refine zn (Lp Cd9) (fun b5=>?_)
 refine sQ .here ?_;refine nnx ?_;refine Lx ?_
 apply Ar2 (J:=J1 _ _ _ _ _ _) 9 Ah8 (qF (qC .nil))
 ·refine zw 0 ?_
  refine zw 1 ?_;refine zw 2 ?_;refine zw 3 ?_;refine zv 4 rfl (Aa7 rfl rfl Ah4 (by decide) (by decide)) ?_;refine zw 5 ?_;refine Af7 (rs:=[6,8]) (by kernel_rfl) (by simp) (by kernel_rfl) (fun m hm=>?_)
  simp only [List.mem_cons,List.not_mem_nil,or_false] at hm
  rcases hm with rfl | rfl
  ·refine Xd rfl (zF rfl BY8) (fun w hm=>AN5 p hp q b o cap a14 _ b14 w (hm.at mm1) (hS.mono (by decide) hm (by simp))) (Aa2 (qF (qC .nil)) (qF (qC .nil)) rfl ?_)
   refine Af7 (rs:=[7,8]) (by kernel_rfl) (by simp) (by kernel_rfl) (fun m hm=>?_)
   simp only [List.mem_cons,List.not_mem_nil,or_false] at hm
   rcases hm with rfl | rfl
   ·refine Xd rfl (zF rfl By4) (fun w hm=>Az0 (movedS p a14.1) (Ar8 hp _) w) (Aa2 (qF (qC .nil)) (qF (qC .nil)) rfl ?_)
    refine zA 8 ?_;refine Xf rfl (Lp AJ0) (fun b6=>(Aa2 (qF (qE .nil)) (qD (qD (qD (qD (qD .nil))))) rfl ?_))
    refine zt ?_;refine zB 9 ?_;refine Xr rfl (Lt rfl rfl .here AF5 rfl rfl) (Ab2 ?_)
    refine zd ?_;refine Ae5 ?_;exact Af1 b6 (Ab3 _) (Pick.refl _)
   refine Xf rfl (Lp AJ0) (fun b6=>(Aa2 (qF (qE .nil)) (qD (qD (qD (qD (qD .nil))))) rfl ?_))
   refine zA 7 ?_;refine Xd rfl (zF rfl By4) (fun w hm=>Az0 (movedS p a14.1) (Ar8 hp _) w) (Aa2 (qF (qE .nil)) (qF (qE .nil)) rfl ?_)
   refine zt ?_;refine zB 9 ?_;refine Xr rfl (Lt rfl rfl .here AF5 rfl rfl) (Ab2 ?_)
   refine zd ?_;refine Ae5 ?_;exact Af1 b6 (zS 6 rfl (zS 22 rfl (zS 21 rfl (zS 20 rfl (zS 19 rfl (zS 18 rfl (zS 17 rfl (zS 16 rfl (zS 15 rfl (qU (qU (qS (Ab3 _))))))))))))) (qF (qE .nil))
  refine Xf rfl (Lp AJ0) (fun b6=>(Aa2 (qF (qE .nil)) (qD (qD (qD (qD (qD .nil))))) rfl ?_))
  refine zA 6 ?_;refine Xd rfl (zF rfl BY8) (fun w hm=>AN5 p hp q b o cap a14 _ b14 w (hm.at mm2) (hS.mono (by decide) hm (by simp))) (Aa2 (qF (qE .nil)) (qF (qE .nil)) rfl ?_)
  refine zA 7 ?_;refine Xd rfl (zF rfl By4) (fun w hm=>Az0 (movedS p a14.1) (Ar8 hp _) w) (Aa2 (qF (qE .nil)) (qF (qE .nil)) rfl ?_)
  refine zt ?_;refine zB 9 ?_;refine Xr rfl (Lt rfl rfl .here AF5 rfl rfl) (Ab2 ?_)
  refine zd ?_;refine Ae5 ?_;exact Af1 b6 (zS 6 rfl (zS 22 rfl (zS 21 rfl (zS 20 rfl (zS 19 rfl (zS 18 rfl (zS 17 rfl (zS 16 rfl (zS 15 rfl (qU (qU (qS (Ab3 _))))))))))))) (qF (qE .nil))
 refine J1.out (fun b6=>?_)
 refine su ?_;refine zn (Lp CZ1) (fun b7=>?_)
 refine sQ .here ?_;refine su ?_;refine Xj (zF rfl DD1) (fun w hm=>BT0 b14 w) (fun b26=>?_)
 refine st ?_;refine RunC.rangeFunc (S:=fun xs=>xs=triedS p a14) (N:=100) (enc:=(fun x:Int=>.I x)) (fun pre=>[(b6,.cells [.I (pc (bestL p (movedS p a14.1) pre) 12:Int),.int .u64 ((bestL p (movedS p a14.1) pre):Int)].toArray 315),(b7,.cells [.func (.func 200) #[rankV (bestL p (movedS p a14.1) pre)] #[]].toArray 318)]) _ rfl DA9 (.cons (.there (.there .here)) rfl (.cons (.there .here) rfl (.cons .here rfl (.cons .here rfl (.cons .here rfl (.cons .here rfl (.cons .here rfl (.cons .here rfl .nil)))))))) (fun _=>rfl) (fun pre b o hb=>by simp at hb;rcases hb with ⟨_,rfl⟩ | ⟨_,rfl⟩ <;> rfl) (fun w hm=>BS9 p hp q b o cap a14 b14 b26 w _ ⟨hm.at mm4,hm.at mm2,hS.mono (by decide) hm (by simp)⟩ ⟨hm.apart mm2,hm.apart mm0,fun hx=>hm.oldApart (hS.lt0 (by decide) hx)⟩) rfl rfl (fun _=>rfl) rfl rfl rfl ?_ ?_
 ·intro l pre x W1 hpl hI
  have hV1:=hI.at mm4;have hV5:=hI.at mm3;have hA14:=(hI.apart mm2).2;have hA5:=(hI.apart mm1).2;simp only [List.map_cons,List.map_nil,List.mem_cons,List.not_mem_nil,or_false,not_or] at hA14 hA5;have hS1:=hS.mono (by decide) hI (by simp);have hAS:p.things.map Th.cells ≠ []→_:=fun hx=>(hI.oldApart (hS.lt0 (by decide) hx)).2
  simp only [List.map_cons,List.map_nil,List.mem_cons,List.not_mem_nil,or_false,not_or] at hAS;have hb4:=BA3 hp (Ar8 hp a14.1) pre;refine Km ?_;refine Ki ?_;refine Kj ?_;refine Xb (Aa0 rfl hV5 (by simp [hA14,hA5]) AW4 rfl) ?_;refine vR ?_;refine Xt (zF rfl BY8) (fun w hm=>AN5 p hp q b o cap a14 x b14 w (hm.old_at hV1 (by simp [hA14])) (hS1.mono' (by decide) hm (fun hx ob=>by simp [hAS hx]))) ?_;refine Xt (zF rfl By4) (fun w hm=>Az0 (movedS p x) (Ar8 hp _) w) ?_;refine Xz (Lp AJ0) (fun b9=>?_)
  refine Ya (Lt rfl rfl .here AF5 rfl rfl) ?_;refine Kk ?_;refine Kl ?_;refine Ki ?_;refine Kj ?_;refine Xb (Ab5 rfl mm2 AF5 rfl) ?_;refine Xb (Ab5 rfl mm0 AF5 rfl) ?_;refine Xb (AY4 rfl rfl Cg8) ?_;refine vR ?_
  refine AS6 (dj:=35) (dp:=40) 5 rfl (fun g35=>by
   refine Xb (Aa6 rfl mm1 CA1 rfl) ?_;refine Xb (Ab5 rfl mm2 AF5 rfl) ?_;refine Xt (Ab4 rfl rfl DD2) (fun w hm=>BO0 (bestL p (movedS p a14.1) pre) (movedS p x) w) ?_;refine vR ?_;refine vR ?_;exact AA6 (Kg rfl (qU (qS (Ad2 rfl (by rw [g35]) (Ab3 _))))) (List.Sublist.refl _)
  ) (fun g35=>by
    iterate 4 refine Bc0 rfl rfl rfl ?_
    refine vR ?_;exact AA6 (Kg rfl (qU (qS (Ad2 rfl (by rw [g35]) (Ab3 _))))) (List.Sublist.refl _)
  ) ?_
  refine Kk ?_;refine Kl ?_;refine Kn rfl ?_ ?_
  ·intro c0
   have c0':=c0;clear c0;try simp only [nH] at c0'
   refine Ki ?_;refine Kj ?_;refine Xb (Ab5 rfl mm2 AF5 rfl) ?_;refine Ya (Ab7 rfl rfl .here AF5 rfl rfl) ?_;refine Kk ?_;refine Kl ?_;refine Kj ?_;refine Xb (Ab5 rfl mm0 AF5 rfl) ?_;refine vR ?_;refine Ya (Ab7 rfl rfl (.there .here) CA1 rfl rfl) ?_;refine Kk ?_;refine st ?_;exact AS8 (by simp only [Br6];first | (rw [Br5 c0'];rfl) | rw [BN8 c0'])
  intro c0;have c0':=c0;clear c0;try simp only [nH] at c0'
  refine Ko ?_;refine st ?_;exact AS8 (by simp only [Br6];first | (rw [Br5 c0'];rfl) | rw [BN8 c0'])
 intro xs bD hXS;obtain rfl:=hXS;have hbs:bestS p a14 < 4096:=BA3 hp (Ar8 hp a14.1) (triedS p a14);rw [show bestL p (movedS p a14.1) (triedS p a14)=bestS p a14 from rfl];refine su ?_;refine zn (Lp Ac6) (fun b10=>?_)
 refine sQ .here ?_;refine su ?_;refine lu (Aa6 rfl mm6 AD3 rfl) ?_;refine Ac8 (p.things.length) (fun k q=>(54,.I (k:Int))::q) (fun _=>_) (fun k=>[(b10,.cells (b2c (nbK p (bestS p a14) a14 k)).toArray 268)]) (fun _=>True) trivial rfl (zE 54 rfl rfl (zS 3 rfl (zS 4 rfl (zS 5 rfl (zS 6 rfl (zS 10 rfl (zS 52 rfl (zS 53 rfl (Sub.nil _))))))))) (qG (qE .nil)) ?_;intro k kN kI;clear kI;refine st ?_;refine cn rfl ?_ ?_
 ·intro c1'
  have hk:k < p.things.length:=by omega
  obtain ⟨t,ht⟩:∃ t,p.things[k]=t:=⟨_,rfl⟩;have hth:=hp.ths _ (List.getElem_mem hk);rw [ht] at hth;refine st ?_;refine lv (Aa3 rfl rfl Ax9 (by omega) (by omega) (hS.ptrM hk)) ?_;refine lv (Aa5 rfl (fun w hm=>hS.loadX (by decide) hm (by simp) Ay5 hk ht)) ?_;refine zn (Lp Al0) (fun b12=>?_)
  refine sQ .here ?_;refine su ?_;refine lv (Aj9 (a:=bestS p a14) (b:=k) rfl rfl (by show k≤64;omega)) ?_;refine lv (Ku (a:=bestS p a14 >>> k) (b:=1) rfl rfl (by have:=Lh (bestS p a14) k;show _ < 18446744073709551616;omega) (by decide) (u64_in (by have:=Lg (n:=bestS p a14 >>> k) (m:=1);omega))) ?_;refine cn rfl ?_ ?_
  ·intro c2'
   refine st ?_;refine lu (Aa6 rfl mm6 AW4 rfl) ?_;refine zc (zF rfl AB1) (fun w hm=>Ai7 p hp q cap a14 t hth.1 hth.2 (nbK p (bestS p a14) a14 k) b14 w (hm.at mm7)) ?_;refine sQ (.there .here) ?_;refine st ?_;refine lA ?_;exact Ac2 (by omega) trivial rfl (zE 54 rfl rfl (zS 3 rfl (zS 4 rfl (zS 5 rfl (zS 6 rfl (zS 10 rfl (zS 52 rfl (zS 53 rfl (Sub.nil _))))))))) (.cons (.there .here) (by first | (rw [Dp0 (Af0 hk ht) c2'];rfl) | (rw [CI6 c2'])) (qD (qD (qD (qD (qD (qD (qD (qD (qD .nil))))))))))
  intro c2';refine st ?_;refine lA ?_;exact Ac2 (by omega) trivial rfl (zE 54 rfl rfl (zS 3 rfl (zS 4 rfl (zS 5 rfl (zS 6 rfl (zS 10 rfl (zS 52 rfl (zS 53 rfl (Sub.nil _))))))))) (.cons (.there .here) (by first | (rw [Dp0 (Af0 hk ht) c2'];rfl) | (rw [CI6 c2'])) (qD (qD (qD (qD (qD (qD (qD (qD (qD .nil))))))))))
 intro c1';obtain rfl:k=p.things.length:=by omega
 refine Ls ?_;refine su ?_;refine Aa4 ?_;refine st ?_;refine Ao2 5 Ah8 (qG (qE .nil)) ?_;refine zw 0 ?_;refine zw 1 ?_;refine zv 2 rfl (Al5 rfl Dt2 BC9 (Lq _ ⟨by omega,by omega⟩)) ?_;refine zw 3 ?_;refine zA 4 ?_;refine Xd rfl (zF rfl By7) (fun w hm=>Ay9 (_,_) w) (Aa2 (qG (qE .nil)) (qG (qE .nil)) rfl ?_)
 refine zt ?_;refine zp 5 ?_;refine zB 6 ?_;refine Xr rfl (Lt rfl rfl (.there (.there (.there (.there (.there (.there (.there (.there .here)))))))) Ai6 rfl rfl) (Ab2 ?_)
 refine zB 7 ?_;refine Xr rfl (Lt rfl rfl (.there (.there (.there (.there (.there (.there (.there .here))))))) Af8 rfl rfl) (Ab2 ?_)
 refine zd ?_;refine Ae5 ?_;refine su ?_;exact CX7 BN1 Ak9 (.there .here) (.r3 rfl (.tmp rfl) (.agg rfl mm7 Ai6 rfl) (.one rfl mm6 Af8 rfl)) (by simp only [fewestX,ha14];rfl)
theorem An5:Enters π 129:=eZ func129
theorem Au5:Enters π 132:=eZ func132
theorem BZ4:Enters π 133:=eZ func133
theorem By9:Enters π 134:=eZ func134
theorem CT1:Enters π 135:=eZ func135
theorem DF7:Enters π 136:=eZ func136
theorem By8:Enters π 137:=eZ func137
theorem CT0:Enters π 139:=eZ func139
theorem BZ3:Enters π 140:=eZ func140
theorem Bi6:Enters π 142:=eZ func142
theorem Dr0:Enters π 18:=eZ func18
theorem CR3:Enters π 216:=eZ func216
theorem Bx3:fieldB π 46 0=some 0:=by kernel_rfl
instance:Fld π 46 0 0:=⟨Bx3⟩
theorem Ci7:fieldB π 46 1=some 8:=by kernel_rfl
instance:Fld π 46 1 8:=⟨Ci7⟩
theorem AR1:fieldB π 86 0=some 0:=by kernel_rfl
instance:Fld π 86 0 0:=⟨AR1⟩
theorem Bw8:fieldB π 86 1=some 1:=by kernel_rfl
instance:Fld π 86 1 1:=⟨Bw8⟩
theorem AE5:fieldB π 88 0=some 0:=by kernel_rfl
instance:Fld π 88 0 0:=⟨AE5⟩
theorem Di2:fieldB π 88 1=some 3:=by kernel_rfl
instance:Fld π 88 1 3:=⟨Di2⟩
theorem BV7:(π.underlying 23).any (fun t=>match t with | .interface _=>false | _=>true)=true:=by kernel_rfl
theorem Aw9:(π.underlying 3).any (fun t=>match t with | .interface _=>false | _=>true)=true:=by kernel_rfl
theorem Ap9:(π.underlying 9).any (fun t=>match t with | .interface _=>false | _=>true)=true:=by kernel_rfl
theorem AL6:slB π 35=some (46,13):=by kernel_rfl
instance:Slc π 35 46 13:=⟨AL6⟩
theorem BD1:tyB π 35=some (false,1):=by kernel_rfl
instance:Tyc π 35 false 1:=⟨BD1⟩
theorem Am6:zeroB π 20=some [.nilIface]:=by kernel_rfl
theorem Bt6:zeroB π 28=some [.I 0,.I 0,.I 0,.I 0,.I 0,.I 0,.I 0,.slice none 0 0,.I 0,.I 0,.I 0,.I 0,.I 0,.I 0,.I 0,.I 0,.I 0]:=by kernel_rfl
end Go.Q
