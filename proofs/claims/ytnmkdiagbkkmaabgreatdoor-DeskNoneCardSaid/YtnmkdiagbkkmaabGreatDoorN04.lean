/- Walks of package heap: Why. -/
import Derived.Test.YtnmkdiagbkkmaabGreatDoorN03
import Derived.Test.YtnmkdiagbkkmaabGreatDoorProg
import Derived.Shelf.Strings.Builder1
import Derived.Shelf.Strings.Builder2
import Derived.Shelf.Strings.OnBuilder
import Derived.Shelf.Small.Strs
import Derived.Shelf.Strings.BuilderF
import Derived.Shelf.Strings.BuilderK
import Derived.Shelf.Strconv.Atoi
import Derived.Shelf.Strconv.Itoa0
import Derived.Shelf.Strconv.Itoa1
import Derived.Shelf.LaysM
import Derived.Shelf.Strconv.Itoa2
import Derived.Shelf.Strconv.Itoa3
import Derived.Shelf.Strconv.AtoiErrFast
import Derived.Shelf.Strconv.ParseIntEmpty
import Derived.Shelf.Strconv.AtoiFail
import Derived.Shelf.Strconv.Clone
import Derived.Shelf.Strconv.SyntaxError
import Derived.Shelf.LaysC
import Derived.Shelf.Strconv.ToError
import Derived.Shelf.Strconv.AtoiErr
import Derived.Shelf.Strconv.ErrVar
import Derived.Shelf.Strconv.Lower
import Derived.Shelf.Strconv.ParseUint10
import Derived.Shelf.Strconv.ParseUint10Empty
import Derived.Shelf.Strconv.ParseUint10Any
import Derived.Shelf.Strconv.ParseInt10
import Derived.Shelf.Strconv.AtoiLong
import Derived.Shelf.Strconv.AtoiInnerAll
import Derived.Shelf.Strconv.RangeError
import Derived.Shelf.Strconv.ToErrorRange
import Derived.Shelf.Strconv.AtoiAll
import Derived.Shelf.Strconv.ErrVarAll
import Derived.Shelf.Strings.Search1
import Derived.Shelf.Strings.Search2
import Derived.Shelf.Strings.Search3
import Derived.Shelf.Strings.Cut
import Derived.Shelf.Strings.Count
import Derived.Shelf.Strings.Shaped
import Derived.Shelf.GgClosure.StringsIndexFunc
import Derived.Ground.GgwProg
import Derived.Shelf.GgClosure.StringsIndexFuncTop
import Derived.Shelf.Strings.Prefix
import Derived.Shelf.Strings.Split
import Derived.Shelf.Bits.Mul64
import Derived.Shelf.Unicode.DecodeSlow
import Derived.Shelf.Unicode.DecodeAny
import Derived.Shelf.Strings.FuncGrows
import Derived.Lib.AtoiAllCases
import Derived.Lib.SplitLaws
import Derived.RecoverIn
set_option linter.unusedSimpArgs false
set_option linter.unusedVariables false
set_option linter.unusedSectionVars false
namespace Go.Hp
open Go Go.Eng Go.Pw1
theorem Be9 (s:Nat):∀ (l:List Nat) (i f:Nat),unionL s i (l++[f])=unionL s i l ||| (if s.testBit (i + l.length) then f else 0)
  | [],i,f=>by simp [unionL]
  | g::l,i,f=>by
    simp only [List.cons_append,unionL,Be9 s l (i + 1) f,List.length_cons];rw [show i + 1 + l.length=i + (l.length + 1) by omega,Nat.or_assoc]
theorem Bl8 {s:Nat} {l:List Nat} (h:∀ f∈l,f < 2 ^ 12):∀ i,unionL s i l < 2 ^ 12:=by
  induction l with
  | nil=>intro i;exact (by decide:(0:Nat) < 2 ^ 12)
  | cons f l ih =>
    intro i;unfold unionL;refine Nat.or_lt_two_pow ?_ (ih (fun f hf=>h f (List.mem_cons_of_mem _ hf)) (i + 1))
    split
    · exact h f (List.mem_cons_self ..)
    · decide
theorem Be8 {s k f:Nat} {l:List Nat} (hk:k < l.length) (hf:l[k]=f):unionL s 0 (l.take (k + 1))=unionL s 0 (l.take k) ||| (if s.testBit k then f else 0):=by
  rw [List.take_succ_eq_append_getElem hk,hf,Be9,List.length_take,Nat.min_eq_left (Nat.le_of_lt hk),Nat.zero_add]
theorem Bs4 {s k f:Nat} {l:List Nat} (hk:k < l.length) (hf:l[k]=f) (h:s.testBit k=true):unionL s 0 (l.take (k + 1))=unionL s 0 (l.take k) ||| f:=by rw [Be8 hk hf,if_pos h]
theorem BM8 {s k f:Nat} {l:List Nat} (hk:k < l.length) (hf:l[k]=f) (h:s.testBit k=false):unionL s 0 (l.take (k + 1))=unionL s 0 (l.take k):=by rw [Be8 hk hf,if_neg (by simp [h]),Nat.or_zero]
theorem Cm6 {fs pre:List Nat} {x:Nat} (h:∀ s∈pre,shortX fs (s % 4096)=false) (hx:shortX fs (x % 4096)=false):∀ s∈pre++[x],shortX fs (s % 4096)=false:=fun s hs=>by
  rcases List.mem_append.1 hs with hs | hs
  · exact h s hs
  · rw [List.mem_singleton.1 hs];exact hx
theorem BE4 {n s:Nat} (hn:n≤8) (h:s∈setsL n):s % 4096=s:=by
  unfold setsL at h;obtain ⟨k,_,h⟩:=List.mem_flatMap.1 h;have h1:=List.mem_range.1 (List.mem_filter.1 h).1;have h2:2 ^ n≤2 ^ 8:=Nat.pow_le_pow_right (by decide) hn;exact Nat.mod_eq_of_lt (by omega)
theorem BM5 {m:MxA} (hX:mixedX m.pl=true) (h8:m.cards.length≤8) (h:∀ s∈setsL m.cards.length,shortX (fsX m.pl) (s % 4096)=false):WhyX m.pl=(0,0):=by
  have e:whyL (fsX m.pl)=none:=by
    unfold whyL;rw [AF6,List.find?_eq_none];intro s hs
    have:=h s hs
    rw [BE4 h8 hs] at this;simp [this]
  unfold WhyX;rw [if_pos hX,e]
theorem BM4 {m:MxA} {pre rest:List Nat} {x:Nat} (hX:mixedX m.pl=true) (h8:m.cards.length≤8) (hr:pre++[x]++rest=setsL m.cards.length) (h:∀ s∈pre,shortX (fsX m.pl) (s % 4096)=false) (hx:shortX (fsX m.pl) (x % 4096)=true):WhyX m.pl=(((x % 4096:Nat):Int),11):=by
  have hxm:x % 4096=x:=BE4 h8 (by rw [← hr];simp)
  have e:whyL (fsX m.pl)=some x:=by
    unfold whyL;rw [AF6,← hr,List.append_assoc,List.find?_append]
    have h1:pre.find? (shortX (fsX m.pl))=none:=by
      rw [List.find?_eq_none];intro s hs
      have:=h s hs
      rw [BE4 h8 (by rw [← hr];simp [hs])] at this;simp [this]
    rw [hxm] at hx;rw [h1];simp [hx]
  unfold WhyX;rw [if_pos hX,e,hxm]
end Go.Hp
namespace Go.Proofs.YtnmkdiagbkkmaabGreatDoor
open Go Go.Eng Go.Hp Go.Pw1

set_option maxHeartbeats 1000000 in
theorem BS5 (m:MxA) (hsm:MSm m) (W:World) (hM:MOk W m) (hX:mixedX m.pl=true) (hc0:m.cards.length=0):Calls Tryz.prog 131 #[m.v] W (Pure (.tuple #[.int .i64 (WhyX m.pl).1,.int .i64 (WhyX m.pl).2]) W):=by
  obtain ⟨h4,h8,h12⟩:=Ar1 hX;have hfl:=AF6 m;have hall12:∀ f∈(fsX m.pl),f < 2 ^ 12:=fun f hf=>Nat.lt_of_lt_of_le (Cn3 m f hf) (Nat.pow_le_pow_right (by decide) h12)
  refine Aj6 Tryz.func131 rfl rfl ?_;refine st ?_;refine zn (New.box rfl) (fun b1=>?_)
  refine zn (New.alloc Ax7) (fun b2=>?_)
  refine zn (New.alloc At0) (fun b3=>?_)
  refine Ah9 (zF rfl AR8) rfl rfl rfl (fun w hm=>Aw7 m hsm w (hM.mono0 hm) hX) (fun z11=>?_)
  obtain ⟨⟨bh11,bm11,x11,y11⟩,hx11,hy11⟩:=z11;dsimp only;refine st ?_;refine zn (New.alloc AL2) (fun b4=>?_)
  refine Aa9 (Sto.store rfl rfl .here Aw3 rfl rfl) rfl rfl ?_;refine Aa9 (Sto.store rfl rfl (.there .here) Ag0 rfl rfl) rfl rfl ?_;refine su ?_;refine RunC.cond rfl (fun h=>absurd h (by simp)) ?_;intro c0;clear c0;refine su ?_;refine Ag3 (zF rfl Cq7) rfl rfl rfl (fun w hm=>Bg1 m.cards.length w) (fun b23=>?_)
  refine st ?_;refine AS6 (α:=Nat) (Y:=Unit) (N:=5000) (S:=fun xs=>xs=setsL m.cards.length) (Sp:=fun pre=>∃ r,pre++r=setsL m.cards.length) [(b23,_),(b4,_),(b1,_),(bh11,_),(bm11,_)] (fun x=>[.int .u64 ((x % 4096:Nat):Int)]) (fun pre=>[(b2,.cells [.int .i64 0].toArray 3 (0,0)),(b3,.cells [.int .i64 0].toArray 34 (0,0))]) (fun x y q=>(5,.int .u64 ((x % 4096:Nat):Int))::q) (fun x y=>[]) (fun e pre V=>e = .ret∧∃ pre0 x,pre=pre0++[x]∧(∀ s∈pre0,shortX (fsX m.pl) (s % 4096)=false)∧shortX (fsX m.pl) (x % 4096)=true∧V=[(b2,.cells [.int .i64 ((x % 4096:Nat):Int)].toArray 3 (0,0)),(b3,.cells [.int .i64 11].toArray 34 (0,0))]) (fun pre=>∀ s∈pre,shortX (fsX m.pl) (s % 4096)=false) (fun s hs=>by cases hs) (zS 2 rfl (zS 3 rfl (zS 4 rfl (Sub.nil _)))) (.cons (.there (.there (.there .here))) rfl (.cons (.there (.there .here)) rfl (.cons .here rfl (.cons .here rfl (.cons .here rfl (.cons .here rfl (.cons .here rfl .nil))))))) (fun _=>rfl) (fun _ _ _ hb=>by simp only [List.mem_cons,List.not_mem_nil,or_false,Prod.mk.injEq] at hb;rcases hb with ⟨_,rfl⟩ | ⟨_,rfl⟩ <;> rfl) (fun _ _ _ _ hb=>by cases hb) (fun _=>rfl) rfl rfl Cq3 (fun w hm=>Bg0 m.cards.length h8 b23 w _ (hm.at (.tail _ (.tail _ (.head _)))) (hm.apart (.head _))) ?_ ?_ ?_ ?_
  ·intro l1 pre x V1 hV1
   refine Ac3 ?_;refine st ?_;exact Bs2 () rfl (zE 5 rfl rfl (zS 2 rfl (zS 3 rfl (zS 4 rfl (Sub.nil _))))) .nil
  ·intro l1 pre x y W1 hlen1 hIv1 hI1 hL1 hAp1
   have hv1_b23:=hI1.at (.tail _ (.tail _ (.head _)));have hn1_b23:=hAp1 _ (.inl ⟨_,(.head _)⟩);have hv1_b4:=hI1.at (.tail _ (.tail _ (.tail _ (.head _))));have hn1_b4:=hAp1 _ (.inl ⟨_,(.tail _ (.head _))⟩);have hv1_b1:=hI1.at (.tail _ (.tail _ (.tail _ (.tail _ (.head _)))));have hn1_b1:=hAp1 _ (.inl ⟨_,(.tail _ (.tail _ (.head _)))⟩);have hv1_bh11:=hI1.at (.tail _ (.tail _ (.tail _ (.tail _ (.tail _ (.head _))))));have hn1_bh11:=hAp1 _ (.inl ⟨_,(.tail _ (.tail _ (.tail _ (.head _))))⟩);have hv1_bm11:=hI1.at (.tail _ (.tail _ (.tail _ (.tail _ (.tail _ (.tail _ (.head _)))))));have hn1_bm11:=hAp1 _ (.inl ⟨_,(.tail _ (.tail _ (.tail _ (.tail _ (.head _)))))⟩);obtain ⟨s,hsx⟩:∃ s,x % 4096=s:=⟨_,rfl⟩;have hs4:s < 4096:=by omega
   have hua:=Bl8 (s:=s) hall12 0;rw [hsx];refine RunCR.block ?_;refine RunCR.seq ?_;refine Ac3 ?_;refine st ?_;refine RunER.next ?_;refine RunCR.seq ?_;refine RunCR.seq ?_;refine Ac3 ?_;refine lu (Aa2 rfl hv1_b4 (Ay3 rfl hn1_b4) Aw3 rfl) ?_;refine lu (Aa2 rfl hv1_bh11 (Ay3 rfl hn1_bh11) Bf2 rfl) ?_;refine RunER.next ?_;refine RunCR.block ?_;refine Bd0 ((fsX m.pl).length) (fun k q=>(30,.int .i64 (k:Int))::(6,.int .u64 ((unionL s 0 ((fsX m.pl).take k):Nat):Int))::q) (fun _=>_) (fun _=>[]) (fun _=>True) trivial rfl (zE 30 rfl rfl (zE 6 rfl rfl (zS 2 rfl (zS 3 rfl (zS 4 rfl (zS 5 rfl (zS 28 rfl (zS 29 rfl (Sub.nil _))))))))) .nil ?_;intro k kN kI;clear kI;refine RunCR.seq ?_;refine Ac3 ?_;refine st ?_;refine RunER.next ?_;refine RunCR.seq ?_;refine RunCR.cond rfl (fun h=>absurd h (by simp;omega)) ?_;intro c1;clear c1;have hkn:k=(fsX m.pl).length:=by omega
   simp only [hkn,List.take_length];refine RunCR.exit ?_;refine su ?_;refine Ab1 ?_;refine RunER.next ?_;refine RunCR.seq ?_;refine Ac3 ?_;refine st ?_;refine zc (zF rfl Ba6) (fun w hm=>AA4 (unionL s 0 (fsX m.pl)) hua w) ?_;refine zc (zF rfl Ba6) (fun w hm=>AA4 s hs4 w) ?_;refine RunER.next ?_;refine RunCR.cond rfl ?_ ?_
   ·intro c3
    have c3':=c3;clear c3;try simp only [nH] at c3'
    have hsh:shortX (fsX m.pl) (x % 4096)=true:=by (rw [hsx];exact decide_eq_true (by omega))
    refine RunCR.seq ?_;refine Ac3 ?_;refine st ?_;refine lv (Ao1 rfl Cc9 BD2 (IntWalk.i64_in _ ⟨by omega,by omega⟩)) ?_;refine Aa9 (Ad1 rfl rfl .here Ag4 rfl rfl) rfl rfl ?_;refine Aa9 (Ad1 rfl rfl (.there .here) Ag0 rfl rfl) rfl rfl ?_;refine st ?_;refine RunER.next ?_;refine RunCR.ret ?_;refine Ad3 ?_;refine AJ4 ?_;exact AJ3 [(b2,_),(b3,_)] [] ⟨rfl,pre,x,rfl,hIv1,hsh,(by rw [hsx])⟩ rfl
   intro c3;have c3':=c3;clear c3;try simp only [nH] at c3'
   have hsh:shortX (fsX m.pl) (x % 4096)=false:=by (rw [hsx];exact decide_eq_false (by omega))
   refine RunCR.skip ?_;refine st ?_;refine Bk4 (Cm6 hIv1 hsh) ?_;exact Aq6 [] rfl
  ·intro xs bD0 hXS hXI
   obtain rfl:=hXS;have e9:WhyX m.pl=(0,0):=BM5 hX h8 hXI;rw [e9];refine st ?_;refine Aa9 (Sto.store rfl rfl (.there .here) Ag4 rfl rfl) rfl rfl ?_;refine Aa9 (Sto.store rfl rfl (.there (.there .here)) Ag0 rfl rfl) rfl rfl ?_;refine su ?_;exact Ap4 [bD0] (.cons .here rfl (.cons .here rfl (.cons .here rfl (.cons .here rfl (.cons .here rfl (.cons .here rfl (.cons .here rfl (.cons .here rfl .nil)))))))) (.r2 rfl (.one rfl (.head _) Ag4 rfl) (.one rfl (.tail _ (.head _)) Ag0 rfl)) (AC6 (by rfl))
  intro c pre V' bD0 hSp hNm hSt;obtain ⟨rfl,pre0,x,rfl,hbef,hsh,rfl⟩:=hSt;obtain ⟨rest,hrest⟩:=hSp;have e9:WhyX m.pl=(((x % 4096:Nat):Int),11):=BM4 hX h8 hrest hbef hsh;rw [e9];refine su ?_;exact Ap4 [bD0] (.cons .here rfl (.cons .here rfl (.cons .here rfl (.cons .here rfl (.cons .here rfl (.cons .here rfl (.cons .here rfl (.cons .here rfl .nil)))))))) (.r2 rfl (.one rfl (.head _) Ag4 rfl) (.one rfl (.tail _ (.head _)) Ag0 rfl)) (AC6 (by rfl))
set_option maxHeartbeats 1000000 in
theorem BG8 (m:MxA) (hsm:MSm m) (W:World) (hM:MOk W m) (hX:mixedX m.pl=true) (hc0:0 < m.cards.length):Calls Tryz.prog 131 #[m.v] W (Pure (.tuple #[.int .i64 (WhyX m.pl).1,.int .i64 (WhyX m.pl).2]) W):=by
  obtain ⟨h4,h8,h12⟩:=Ar1 hX;have hfl:=AF6 m;have hall12:∀ f∈(fsX m.pl),f < 2 ^ 12:=fun f hf=>Nat.lt_of_lt_of_le (Cn3 m f hf) (Nat.pow_le_pow_right (by decide) h12)
  refine Aj6 Tryz.func131 rfl rfl ?_;refine st ?_;refine zn (New.box rfl) (fun b1=>?_)
  refine zn (New.alloc Ax7) (fun b2=>?_)
  refine zn (New.alloc At0) (fun b3=>?_)
  refine Ah9 (zF rfl AR8) rfl rfl rfl (fun w hm=>Aw7 m hsm w (hM.mono0 hm) hX) (fun z11=>?_)
  obtain ⟨⟨bh11,bm11,x11,y11⟩,hx11,hy11⟩:=z11;obtain ⟨bf11,cf11,rf11,e11,-,-,-⟩:=OwnOk.has hy11 (by omega);dsimp only at e11;subst e11;dsimp only;refine st ?_;refine zn (New.alloc AL2) (fun b4=>?_)
  refine Aa9 (Sto.store rfl rfl .here Aw3 rfl rfl) rfl rfl ?_;refine Aa9 (Sto.store rfl rfl (.there .here) Ag0 rfl rfl) rfl rfl ?_;refine su ?_;refine RunC.cond rfl (fun h=>absurd h (by simp)) ?_;intro c0;clear c0;refine su ?_;refine Ag3 (zF rfl Cq7) rfl rfl rfl (fun w hm=>Bg1 m.cards.length w) (fun b23=>?_)
  refine st ?_;refine AS6 (α:=Nat) (Y:=Unit) (N:=5000) (S:=fun xs=>xs=setsL m.cards.length) (Sp:=fun pre=>∃ r,pre++r=setsL m.cards.length) [(b23,_),(b4,_),(b1,_),(bh11,_),(bm11,_),(bf11,_)] (fun x=>[.int .u64 ((x % 4096:Nat):Int)]) (fun pre=>[(b2,.cells [.int .i64 0].toArray 3 (0,0)),(b3,.cells [.int .i64 0].toArray 34 (0,0))]) (fun x y q=>(5,.int .u64 ((x % 4096:Nat):Int))::q) (fun x y=>[]) (fun e pre V=>e = .ret∧∃ pre0 x,pre=pre0++[x]∧(∀ s∈pre0,shortX (fsX m.pl) (s % 4096)=false)∧shortX (fsX m.pl) (x % 4096)=true∧V=[(b2,.cells [.int .i64 ((x % 4096:Nat):Int)].toArray 3 (0,0)),(b3,.cells [.int .i64 11].toArray 34 (0,0))]) (fun pre=>∀ s∈pre,shortX (fsX m.pl) (s % 4096)=false) (fun s hs=>by cases hs) (zS 2 rfl (zS 3 rfl (zS 4 rfl (Sub.nil _)))) (.cons (.there (.there (.there .here))) rfl (.cons (.there (.there .here)) rfl (.cons .here rfl (.cons .here rfl (.cons .here rfl (.cons .here rfl (.cons .here rfl (.cons .here rfl .nil)))))))) (fun _=>rfl) (fun _ _ _ hb=>by simp only [List.mem_cons,List.not_mem_nil,or_false,Prod.mk.injEq] at hb;rcases hb with ⟨_,rfl⟩ | ⟨_,rfl⟩ <;> rfl) (fun _ _ _ _ hb=>by cases hb) (fun _=>rfl) rfl rfl Cq3 (fun w hm=>Bg0 m.cards.length h8 b23 w _ (hm.at (.tail _ (.tail _ (.head _)))) (hm.apart (.head _))) ?_ ?_ ?_ ?_
  ·intro l1 pre x V1 hV1
   refine Ac3 ?_;refine st ?_;exact Bs2 () rfl (zE 5 rfl rfl (zS 2 rfl (zS 3 rfl (zS 4 rfl (Sub.nil _))))) .nil
  ·intro l1 pre x y W1 hlen1 hIv1 hI1 hL1 hAp1
   have hv1_b23:=hI1.at (.tail _ (.tail _ (.head _)));have hn1_b23:=hAp1 _ (.inl ⟨_,(.head _)⟩);have hv1_b4:=hI1.at (.tail _ (.tail _ (.tail _ (.head _))));have hn1_b4:=hAp1 _ (.inl ⟨_,(.tail _ (.head _))⟩);have hv1_b1:=hI1.at (.tail _ (.tail _ (.tail _ (.tail _ (.head _)))));have hn1_b1:=hAp1 _ (.inl ⟨_,(.tail _ (.tail _ (.head _)))⟩);have hv1_bh11:=hI1.at (.tail _ (.tail _ (.tail _ (.tail _ (.tail _ (.head _))))));have hn1_bh11:=hAp1 _ (.inl ⟨_,(.tail _ (.tail _ (.tail _ (.head _))))⟩);have hv1_bm11:=hI1.at (.tail _ (.tail _ (.tail _ (.tail _ (.tail _ (.tail _ (.head _)))))));have hn1_bm11:=hAp1 _ (.inl ⟨_,(.tail _ (.tail _ (.tail _ (.tail _ (.head _)))))⟩);have hv1_bf11:=hI1.at (.tail _ (.tail _ (.tail _ (.tail _ (.tail _ (.tail _ (.tail _ (.head _))))))));have hn1_bf11:=hAp1 _ (.inl ⟨_,(.tail _ (.tail _ (.tail _ (.tail _ (.tail _ (.head _))))))⟩);obtain ⟨s,hsx⟩:∃ s,x % 4096=s:=⟨_,rfl⟩;have hs4:s < 4096:=by omega
   have hua:=Bl8 (s:=s) hall12 0;rw [hsx];have hSf:Sl W1 (some ⟨bf11,0,none⟩) bf11 0 1 (setsV (fsX m.pl)):=Cf0 (z:=(bf11,cf11,rf11)) hv1_bf11;refine RunCR.block ?_;refine RunCR.seq ?_;refine Ac3 ?_;refine st ?_;refine RunER.next ?_;refine RunCR.seq ?_;refine RunCR.seq ?_;refine Ac3 ?_;refine lu (Aa2 rfl hv1_b4 (Ay3 rfl hn1_b4) Aw3 rfl) ?_;refine lu (Aa2 rfl hv1_bh11 (Ay3 rfl hn1_bh11) Bf2 rfl) ?_;refine RunER.next ?_;refine RunCR.block ?_;refine Bd0 ((fsX m.pl).length) (fun k q=>(30,.int .i64 (k:Int))::(6,.int .u64 ((unionL s 0 ((fsX m.pl).take k):Nat):Int))::q) (fun _=>_) (fun _=>[]) (fun _=>True) trivial rfl (zE 30 rfl rfl (zE 6 rfl rfl (zS 2 rfl (zS 3 rfl (zS 4 rfl (zS 5 rfl (zS 28 rfl (zS 29 rfl (Sub.nil _))))))))) .nil ?_;intro k kN kI;clear kI;refine RunCR.seq ?_;refine Ac3 ?_;refine st ?_;refine RunER.next ?_;refine RunCR.seq ?_;refine RunCR.cond rfl ?_ ?_
   ·intro c1
    have c1':=c1;clear c1;try simp only [nH] at c1'
    have hk:k < (fsX m.pl).length:=by omega
    obtain ⟨f,hf⟩:∃ f,(fsX m.pl)[k]=f:=⟨_,rfl⟩;have hf12:=hall12 f (hf ▸ List.getElem_mem hk);have hu:=Bl8 (s:=s) (fun x hx=>hall12 x (List.mem_of_mem_take hx)) 0 (l:=(fsX m.pl).take k);refine RunCR.skip ?_;refine RunER.next ?_;refine RunCR.seq ?_;refine RunCR.block ?_;refine RunCR.seq ?_;refine Ac3 ?_;refine st ?_;refine lv (Ab4 rfl rfl AF1 (by omega) (by omega)) ?_;refine lv (Ab0 rfl (fun w hm=>hSf.loadM1 (by decide) hm (Ay3 rfl hn1_bf11) Bf3 hk (v:=.int .u64 (f:Int)) (by simp [hf]))) ?_;refine RunER.next ?_;refine RunCR.seq ?_;refine Ac3 ?_;refine st ?_;refine zc (zF rfl CM7) (fun w hm=>Bx3 s k (by omega) (by omega) w) ?_;refine RunER.next ?_;refine RunCR.cond rfl ?_ ?_
    ·intro c2
     have c2':=c2;clear c2;try simp only [nH] at c2'
     refine Ac3 ?_;refine st ?_;refine zn (New.buildSlice (parts:=[(0,.tmp 38),(1,.tmp 39)]) rfl AF1 AU4 rfl rfl rfl rfl) (fun b40=>?_)
     refine zc (zF rfl Cp6) (fun w hm=>AE7 (unionL s 0 ((fsX m.pl).take k)) f hu hf12 b40 w (hm.at (.tail _ (.tail _ (.head _))))) ?_;refine RunER.next ?_;refine Ac3 ?_;refine lv (Val.add rfl rfl (IntWalk.i64_in _ ⟨by omega,by omega⟩)) ?_;exact Ad0 (by omega) trivial rfl (zE 30 rfl rfl (zE 6 rfl (by first | rw [Bs4 hk hf c2'] | rw [BM8 hk hf c2']) (zS 2 rfl (zS 3 rfl (zS 4 rfl (zS 5 rfl (zS 28 rfl (zS 29 rfl (Sub.nil _))))))))) .nil
    intro c2;have c2':=c2;clear c2;try simp only [nH] at c2'
    refine RunCR.skip ?_;refine st ?_;refine RunER.next ?_;refine Ac3 ?_;refine lv (Val.add rfl rfl (IntWalk.i64_in _ ⟨by omega,by omega⟩)) ?_;exact Ad0 (by omega) trivial rfl (zE 30 rfl rfl (zE 6 rfl (by first | rw [Bs4 hk hf c2'] | rw [BM8 hk hf c2']) (zS 2 rfl (zS 3 rfl (zS 4 rfl (zS 5 rfl (zS 28 rfl (zS 29 rfl (Sub.nil _))))))))) .nil
   intro c1;have c1':=c1;clear c1;try simp only [nH] at c1'
   have hkn:k=(fsX m.pl).length:=by omega
   simp only [hkn,List.take_length];refine RunCR.exit ?_;refine su ?_;refine Ab1 ?_;refine RunER.next ?_;refine RunCR.seq ?_;refine Ac3 ?_;refine st ?_;refine zc (zF rfl Ba6) (fun w hm=>AA4 (unionL s 0 (fsX m.pl)) hua w) ?_;refine zc (zF rfl Ba6) (fun w hm=>AA4 s hs4 w) ?_;refine RunER.next ?_;refine RunCR.cond rfl ?_ ?_
   ·intro c3
    have c3':=c3;clear c3;try simp only [nH] at c3'
    have hsh:shortX (fsX m.pl) (x % 4096)=true:=by (rw [hsx];exact decide_eq_true (by omega))
    refine RunCR.seq ?_;refine Ac3 ?_;refine st ?_;refine lv (Ao1 rfl Cc9 BD2 (IntWalk.i64_in _ ⟨by omega,by omega⟩)) ?_;refine Aa9 (Ad1 rfl rfl .here Ag4 rfl rfl) rfl rfl ?_;refine Aa9 (Ad1 rfl rfl (.there .here) Ag0 rfl rfl) rfl rfl ?_;refine st ?_;refine RunER.next ?_;refine RunCR.ret ?_;refine Ad3 ?_;refine AJ4 ?_;exact AJ3 [(b2,_),(b3,_)] [] ⟨rfl,pre,x,rfl,hIv1,hsh,(by rw [hsx])⟩ rfl
   intro c3;have c3':=c3;clear c3;try simp only [nH] at c3'
   have hsh:shortX (fsX m.pl) (x % 4096)=false:=by (rw [hsx];exact decide_eq_false (by omega))
   refine RunCR.skip ?_;refine st ?_;refine Bk4 (Cm6 hIv1 hsh) ?_;exact Aq6 [] rfl
  ·intro xs bD0 hXS hXI
   obtain rfl:=hXS;have e9:WhyX m.pl=(0,0):=BM5 hX h8 hXI;rw [e9];refine st ?_;refine Aa9 (Sto.store rfl rfl (.there .here) Ag4 rfl rfl) rfl rfl ?_;refine Aa9 (Sto.store rfl rfl (.there (.there .here)) Ag0 rfl rfl) rfl rfl ?_;refine su ?_;exact Ap4 [bD0] (.cons .here rfl (.cons .here rfl (.cons .here rfl (.cons .here rfl (.cons .here rfl (.cons .here rfl (.cons .here rfl (.cons .here rfl (.cons .here rfl .nil))))))))) (.r2 rfl (.one rfl (.head _) Ag4 rfl) (.one rfl (.tail _ (.head _)) Ag0 rfl)) (AC6 (by rfl))
  intro c pre V' bD0 hSp hNm hSt;obtain ⟨rfl,pre0,x,rfl,hbef,hsh,rfl⟩:=hSt;obtain ⟨rest,hrest⟩:=hSp;have e9:WhyX m.pl=(((x % 4096:Nat):Int),11):=BM4 hX h8 hrest hbef hsh;rw [e9];refine su ?_;exact Ap4 [bD0] (.cons .here rfl (.cons .here rfl (.cons .here rfl (.cons .here rfl (.cons .here rfl (.cons .here rfl (.cons .here rfl (.cons .here rfl (.cons .here rfl .nil))))))))) (.r2 rfl (.one rfl (.head _) Ag4 rfl) (.one rfl (.tail _ (.head _)) Ag0 rfl)) (AC6 (by rfl))
set_option maxHeartbeats 1000000 in
theorem Cb8 (m:MxA) (hsm:MSm m) (W:World) (hM:MOk W m):Calls Tryz.prog 131 #[m.v] W (Pure (.tuple #[.int .i64 (WhyX m.pl).1,.int .i64 (WhyX m.pl).2]) W):=by
  cases hX:mixedX m.pl with
  | false =>
    have e:WhyX m.pl=(0,1):=by unfold WhyX;rw [hX];rfl
    rw [e];refine Aj6 Tryz.func131 rfl rfl ?_;refine st ?_;refine zn (New.box rfl) (fun b1=>?_)
    refine zn (New.alloc Ax7) (fun b2=>?_)
    refine zn (New.alloc At0) (fun b3=>?_)
    refine zc (zF rfl AR8) (fun w hm=>AY2 m hsm w (hM.mono0 hm) hX) ?_;refine zn (New.alloc AL2) (fun b4=>?_)
    refine Aa9 (Sto.store rfl rfl .here Aw3 rfl rfl) rfl rfl ?_;refine Aa9 (Sto.store rfl rfl (.there .here) Ag0 rfl rfl) rfl rfl ?_;refine su ?_;refine RunC.cond rfl ?_ (fun h=>absurd h (by simp))
    intro c0;clear c0;refine st ?_;refine Aw0 2 Aj3 (.cons .here rfl (.cons .here rfl (.cons (.there .here) rfl .nil))) ?_;refine zw 0 ?_;refine zA 1 ?_;refine Ac0 rfl (Sto.store rfl rfl (.there (.there .here)) Ag4 rfl rfl) rfl rfl (Aa7 (.cons .here rfl (.cons .here rfl (.cons (.there .here) rfl .nil))) (.cons .here rfl (.cons .here rfl (.cons .here rfl .nil))) rfl ?_)
    refine zt ?_;refine zB 2 ?_;refine Ac0 rfl (Sto.store rfl rfl (.there .here) Ag0 rfl rfl) rfl rfl (Ab9 ?_)
    refine zd ?_;refine Ae6 ?_;refine su ?_;exact Ap4 [] (.cons .here rfl (.cons .here rfl (.cons .here rfl (.cons .here rfl .nil)))) (.r2 rfl (.one rfl (.tail _ (.tail _ (.head _))) Ag4 rfl) (.one rfl (.tail _ (.head _)) Ag0 rfl)) (AC6 (by first | rfl | simp))
  | true =>
    obtain ⟨h4,h8,h12⟩:=Ar1 hX;have hfl:=AF6 m;have hall12:∀ f∈(fsX m.pl),f < 2 ^ 12:=fun f hf=>Nat.lt_of_lt_of_le (Cn3 m f hf) (Nat.pow_le_pow_right (by decide) h12)
    rcases Nat.eq_zero_or_pos m.cards.length with hc0 | hc0
    · exact BS5 m hsm W hM hX hc0
    · exact BG8 m hsm W hM hX hc0
end Go.Proofs.YtnmkdiagbkkmaabGreatDoor
namespace Go.Proofs.YtnmkdiagbkkmaabGreatDoor
open Go Go.Eng
theorem Al7:Enters Tryz.prog 32:=Aa1 Tryz.func32 (by kernel_rfl) rfl
theorem Ck0:(Tryz.prog.underlying 96).any (fun t=>match t with | .interface _=>false | _=>true)=true:=by kernel_rfl
theorem Ch2:placesB Tryz.prog 96=some [(0,1)]:=by kernel_rfl
theorem Cb2:zeroB Tryz.prog 96=some [.int .i64 0]:=by kernel_rfl
end Go.Proofs.YtnmkdiagbkkmaabGreatDoor
namespace Go.Proofs.YtnmkdiagbkkmaabGreatDoor
open Go Go.Eng Go.Pw1 Go.Hp Go.Dk
def dmis (k:Int):Value:=.iface 96 (.agg #[.int .i64 k])
theorem Ad8 (b:Bool) (e:Int) (W:World):Calls Tryz.prog 32 #[.bool b,.int .i64 e] W (Try dmis (needX b e) W):=by
  refine Aa0 Tryz.func32 rfl rfl ?_;refine st ?_;refine cn rfl ?_ ?_
  ·intro c0'
   refine st ?_;refine lv (Val.build (parts:=[(0,.tmp 6)]) rfl Cb2 Ch2 rfl) ?_;refine lv (Val.makeInterface rfl Ck0) ?_;refine AS5 rfl ?_;exact Ae8 (k:=e) (by simp [needX,show b=false by simpa using c0'])
  intro c0';refine st ?_;exact AB4 (.r0 rfl) (by simp [needX,show b=true by simpa using c0'])
def fineX (e:Int):Except Int Value:=if e=0 then .ok (.tuple #[]) else .error e
theorem At6 {e:Int} {v:Value} (h:fineX e = .ok v):e=0∧v = .tuple #[]:=by
  unfold fineX at h
  split at h
  · cases h;exact ⟨by assumption,rfl⟩
  · cases h
theorem An5 {e k:Int} (h:fineX e = .error k):e ≠ 0∧k=e:=by
  unfold fineX at h
  split at h
  · cases h
  · cases h;exact ⟨by assumption,rfl⟩
theorem Ah6 (e:Int) (W:World):Calls Tryz.prog 121 #[.int .i64 e] W (Try dmis (fineX e) W):=by
  refine Aa0 Tryz.func121 rfl rfl ?_;refine st ?_;refine Ac2 (zF rfl Al7) rfl rfl rfl (fun w hm=>Ad8 _ _ w) (fun e5 he5=>?_) (fun v5 hv5=>?_)
  ·obtain ⟨er5,rfl⟩:=Ae0 he5
   exact Ae8 (by simp_all [fineX])
  obtain ⟨ok5,rfl⟩:=Ae7 hv5;refine st ?_;exact AB4 (.r0 rfl) (by simp_all [fineX])
end Go.Proofs.YtnmkdiagbkkmaabGreatDoor
namespace Go.Dk
open Go Go.Eng Go.Pw1 Go.Hp
structure VwX where
  p:Pr
  t:Eng.Own
  cuts:Tr
  up:Bool
structure BoX where
  colour:Int
  t:Eng.Own
  titles:List Str
structure DkX where
  v:Eng.Own
  vs:List VwX
  b:Eng.Own
  bs:List BoX
  c:Eng.Own
  cs:List Tn
def VwX.pl (v:VwX):Vw:=⟨v.p,v.cuts,v.up⟩
def BoX.pl (x:BoX):Bx:=⟨x.colour,x.titles⟩
def DkX.pl (d:DkX):Bn:=⟨d.vs.map VwX.pl,⟨d.bs.map BoX.pl,d.cs⟩⟩
def VwX.cells (v:VwX):List Value:=[.int .i64 v.p.focal.lo,.int .i64 v.p.focal.hi,.int .i64 v.p.base.lo,.int .i64 v.p.base.hi,.int .i64 v.p.tilt,.int .i64 v.p.near,.int .i64 v.p.far,ownV v.t v.p.things.length,
  .int .i64 v.cuts.ll,.int .i64 v.cuts.lr,.int .i64 v.cuts.rl,.int .i64 v.cuts.rr,.bool v.up]
def BoX.cells (x:BoX):List Value:=[.int .i64 x.colour,ownV x.t x.titles.length]
def strsC (l:List Str):List Value:=l.map fun s=>.string (bs s)
structure DkOk (d:DkX):Prop where
  v:OwnOk 13 d.v d.vs.length (d.vs.map VwX.cells).flatten
  vs:∀ x∈d.vs,OwnOk 9 x.t x.p.things.length (x.p.things.map Th.cells).flatten
  b:OwnOk 2 d.b d.bs.length (d.bs.map BoX.cells).flatten
  bs:∀ x∈d.bs,OwnOk 1 x.t x.titles.length (strsC x.titles)
  c:OwnOk 3 d.c d.cs.length (d.cs.map Tn.cells).flatten
  few:d.vs.length≤4∧d.bs.length≤4∧d.cs.length≤8
  things:∀ x∈d.vs,x.p.things.length≤12
  ti:∀ x∈d.bs,x.titles.length≤1000∧∀ t∈x.titles,t.length≤1000000
  tx:∀ t∈d.cs,t.number.length≤1000000∧t.text.length≤1000000
def DkX.cells (d:DkX) (c:Cd):List Value:=[ownV d.v d.vs.length,ownV d.b d.bs.length,ownV d.c d.cs.length]++(bareC c).cells none 0++[.bool true]
end Go.Dk
namespace Go.Proofs.YtnmkdiagbkkmaabGreatDoor
open Go Go.Eng Go.Pw1 Go.Hp Go.Dk
abbrev vwB (v:VwX):Blks:=ownB 66 v.t (v.p.things.map Th.cells).flatten
abbrev boB (x:BoX):Blks:=ownB 9 x.t (strsC x.titles)
abbrev dkB (d:DkX):Blks:=ownB 62 d.v (d.vs.map VwX.cells).flatten++((d.vs.map vwB).flatten++(ownB 68 d.b (d.bs.map BoX.cells).flatten++((d.bs.map boB).flatten++ownB 70 d.c (d.cs.map Tn.cells).flatten)))
abbrev dkO (d:DkX) (c:Cd):Obj:=.cells (d.cells c).toArray 86 (0,0)
end Go.Proofs.YtnmkdiagbkkmaabGreatDoor
namespace Go.Proofs.YtnmkdiagbkkmaabGreatDoor
open Go Go.Eng
theorem Dh0:Enters Tryz.prog 71:=Aa1 Tryz.func71 (by kernel_rfl) rfl
end Go.Proofs.YtnmkdiagbkkmaabGreatDoor
namespace Go.Dk
open Go Go.Eng Go.Pw1 Go.Hp
def wordR (c:Int):Bool:=(decide (97≤c) && decide (c≤122)) || (decide (48≤c) && decide (c≤57)) || decide (c=63) || decide (c=42)
end Go.Dk
namespace Go.Proofs.YtnmkdiagbkkmaabGreatDoor
open Go Go.Eng Go.Pw1 Go.Hp Go.Dk
theorem Bp9 (c:Int) (W:World):Calls Tryz.prog 71 #[.int .i32 c] W (Pure (.bool (wordR c)) W):=by
  refine Aa0 Tryz.func71 rfl rfl ?_;refine st ?_
  refine Ab3 (dj:=5) (dp:=8) 3 rfl (fun g5=>by
    have g5':=g5;try simp only [nH] at g5'
    refine sv ?_;exact zs g5
  ) (fun g5=>by
    have g5':=g5;try simp only [nH] at g5'
    refine Ab8 rfl rfl rfl ?_;refine Ab8 rfl rfl rfl ?_;refine sv ?_;exact zs g5
  ) ?_
  refine st ?_
  refine Ad4 (dj:=9) (dp:=16) 7 rfl (fun g9=>by
    have g9':=g9;try simp only [nH] at g9'
    refine st ?_
    refine Ab3 (dj:=12) (dp:=15) 3 rfl (fun g12=>by
      have g12':=g12;try simp only [nH] at g12'
      refine sv ?_;exact zs g12
    ) (fun g12=>by
      have g12':=g12;try simp only [nH] at g12'
      refine Ab8 rfl rfl rfl ?_;refine Ab8 rfl rfl rfl ?_;refine sv ?_;exact zs g12
    ) ?_
    refine sv ?_;exact zs g9
  ) (fun g9=>by
    have g9':=g9;try simp only [nH] at g9'
    iterate 6 refine Ab8 rfl rfl rfl ?_
    refine sv ?_;exact zs g9
  ) ?_
  refine st ?_
  refine Ad4 (dj:=17) (dp:=20) 3 rfl (fun g17=>by
    have g17':=g17;try simp only [nH] at g17'
    refine sv ?_;exact zs g17
  ) (fun g17=>by
    have g17':=g17;try simp only [nH] at g17'
    refine Ab8 rfl rfl rfl ?_;refine Ab8 rfl rfl rfl ?_;refine sv ?_;exact zs g17
  ) ?_
  refine st ?_
  refine Ad4 (dj:=21) (dp:=24) 3 rfl (fun g21=>by
    have g21':=g21;try simp only [nH] at g21'
    refine sv ?_;exact zs g21
  ) (fun g21=>by
    have g21':=g21;try simp only [nH] at g21'
    refine Ab8 rfl rfl rfl ?_;refine Ab8 rfl rfl rfl ?_;refine sv ?_;exact zs g21
  ) ?_
  refine su ?_;exact Aa4 (.r1 rfl (.tmp rfl)) (by unfold wordR;rfl)
theorem Bv1 (c:Int) (W:World):Calls Tryz.prog 70 #[.int .i32 c] W (Pure (.bool (!wordR c)) W):=by
  refine Aa0 Tryz.func70 rfl rfl ?_;refine st ?_;refine zc (zF rfl Dh0) (fun w hm=>Bp9 c w) ?_;exact Aa4 (.r1 rfl (.tmp rfl)) (by first | rfl | simp)
end Go.Proofs.YtnmkdiagbkkmaabGreatDoor
namespace Go.Proofs.YtnmkdiagbkkmaabGreatDoor
open Go Go.Eng
theorem CG5:fieldB Tryz.prog 62 2=some 12:=by kernel_rfl
instance:Fld Tryz.prog 62 2 12:=⟨CG5⟩
end Go.Proofs.YtnmkdiagbkkmaabGreatDoor
namespace Go.Dk
open Go Go.Eng Go.Pw1 Go.Hp
theorem BN8 (c:Cd):(seenX c).2=1 ↔ cardIs c=false:=by
  unfold seenX openM
  cases h:cardIs c with
  | false=>simp
  | true =>
    have h1:=(AB1 h).2;simp only [if_true,List.all_nil,Bool.true_eq_false,iff_false]
    split
    · simp
    · exact h1
end Go.Dk
namespace Go.Proofs
open Go.Shelf
def Tryz.lays156_ren:Go.Shelf.Ren:=⟨fun | 156=>105 | 165=>56 | 166=>22 | 169=>24 | 240=>49 | 241=>109 | 276=>100 | 277=>160 | n=>n,fun | 31=>29 | 9=>9 | 3=>3 | 4=>4 | 0=>0 | 20=>20 | 72=>76 | 76=>80 | 70=>73 | 37=>74 | 75=>79 | 127=>130 | 164=>171 | 5=>5 | 80=>83 | n=>n,fun | n=>n⟩
theorem Tryz.lays156:Go.Proofs.Lays.n156 Tryz.prog Tryz.lays156_ren:={
  mixed:=by kernel_rfl
  f156:=Tryz.func105.trans (congrArg some (by kernel_rfl))
  f165:=Tryz.func56.trans (congrArg some (by kernel_rfl))
  f166:=Tryz.func22.trans (congrArg some (by kernel_rfl))
  f169:=Tryz.func24.trans (congrArg some (by kernel_rfl))
  f240:=Tryz.func49.trans (congrArg some (by kernel_rfl))
  f241:=Tryz.func109.trans (congrArg some (by kernel_rfl))
  f276:=Tryz.func100.trans (congrArg some (by kernel_rfl))
  f277:=Tryz.func160.trans (congrArg some (by kernel_rfl))
  t0:=Tryz.underlying0
  a0:=Tryz.isAgg0
  z0:=Tryz.sizeOf0
  v0:=Tryz.zeroValue0
  t3:=Tryz.underlying3
  a3:=Tryz.isAgg3
  z3:=Tryz.sizeOf3
  v3:=Tryz.zeroValue3
  t4:=Tryz.underlying4
  a4:=Tryz.isAgg4
  z4:=Tryz.sizeOf4
  v4:=Tryz.zeroValue4
  t9:=Tryz.underlying9
  a9:=Tryz.isAgg9
  z9:=Tryz.sizeOf9
  v9:=Tryz.zeroValue9
  t20:=Tryz.underlying20
  a20:=Tryz.isAgg20
  z20:=Tryz.sizeOf20
  v20:=Tryz.zeroValue20
  t31:=Tryz.underlying29
  a31:=Tryz.isAgg29
  z31:=Tryz.sizeOf29
  v31:=Tryz.zeroValue29
  t37:=Tryz.underlying74
  a37:=Tryz.isAgg74
  z37:=Tryz.sizeOf74
  v37:=Tryz.zeroValue74
  t70:=Tryz.underlying73
  a70:=Tryz.isAgg73
  z70:=Tryz.sizeOf73
  v70:=Tryz.zeroValue73
  t72:=Tryz.underlying76
  a72:=Tryz.isAgg76
  z72:=Tryz.sizeOf76
  v72:=Tryz.zeroValue76
  t75:=Tryz.underlying79
  a75:=Tryz.isAgg79
  z75:=Tryz.sizeOf79
  v75:=Tryz.zeroValue79
  t76:=Tryz.underlying80
  a76:=Tryz.isAgg80
  z76:=Tryz.sizeOf80
  v76:=Tryz.zeroValue80
  t127:=Tryz.underlying130
  a127:=Tryz.isAgg130
  z127:=Tryz.sizeOf130
  v127:=Tryz.zeroValue130
  t164:=Tryz.underlying171
  a164:=Tryz.isAgg171
  z164:=Tryz.sizeOf171
  v164:=Tryz.zeroValue171 }
theorem Tryz.Builder_Extra_156:Builder.Extra Tryz.prog Tryz.lays156_ren:={
  sizeBuilder:=by kernel_rfl
  liesBuilder:=by kernel_rfl
  t5:=Tryz.underlying5
  a5:=Tryz.isAgg5
  z5:=Tryz.sizeOf5
  v5:=Tryz.zeroValue5
  infoByte:=by kernel_rfl
  cellsByte:=by kernel_rfl
  sizeByte:=by kernel_rfl
  neB5:=by decide }
open Go.RowKit in
theorem Tryz.strings_Join_none (a:Option Addr) (c:Nat) (sep:ByteArray) (w:World) :
    Calls Tryz.prog 105 #[.slice a 0 c,.string sep] w fun e w'=>e = .returned (.string ⟨#[]⟩)∧w'=w:=Any.strings_Join_none Tryz.lays156 Tryz.Builder_Extra_156 a c sep w
open Go.RowKit in
theorem Tryz.strings_Join (bk o c:Nat) (xs:List ByteArray) (sep:ByteArray) (w:World) (hcells:∀ (j:Nat) x,xs[j]? = some x→w.cell? ⟨bk,o + j,none⟩=some (.string x)) (hbk:bk < w.heap.size) (hN:xs.length≤140737488355328) (hcap:xs.length≤c) (hlen:(Lib.join (xs.map (·.data.toList)) sep.data.toList).length≤140737488355328) :
    Calls Tryz.prog 105 #[.slice (some ⟨bk,o,none⟩) xs.length c,.string sep] w fun e w'=>e = .returned (.string ⟨(Lib.join (xs.map (·.data.toList)) sep.data.toList).toArray⟩)∧Below w.heap.size w w':=Any.strings_Join Tryz.lays156 Tryz.Builder_Extra_156 bk o c xs sep w hcells hbk hN hcap hlen
def Tryz.lays137_ren:Go.Shelf.Ren:=⟨fun | 137=>103 | 217=>133 | 266=>200 | n=>n,fun | 9=>9 | 5=>5 | 3=>3 | n=>n,fun | n=>n⟩
theorem Tryz.lays137:Go.Proofs.Lays.n137 Tryz.prog Tryz.lays137_ren:={
  mixed:=by kernel_rfl
  f137:=Tryz.func103.trans (congrArg some (by kernel_rfl))
  f217:=Tryz.func133.trans (congrArg some (by kernel_rfl))
  f266:=Tryz.func200.trans (congrArg some (by kernel_rfl))
  t3:=Tryz.underlying3
  a3:=Tryz.isAgg3
  z3:=Tryz.sizeOf3
  v3:=Tryz.zeroValue3
  t5:=Tryz.underlying5
  a5:=Tryz.isAgg5
  z5:=Tryz.sizeOf5
  v5:=Tryz.zeroValue5
  t9:=Tryz.underlying9
  a9:=Tryz.isAgg9
  z9:=Tryz.sizeOf9
  v9:=Tryz.zeroValue9 }
open Go.RowKit in
theorem Tryz.strings_IndexByte (s:ByteArray) (c:Int) (w:World) :
    Calls Tryz.prog 103 #[.string s,.int .u8 c] w fun e w'=>e = .returned (.int .i64 (Lib.indexByte s.data.toList c.toNat.toUInt8))∧w'=w:=Any.strings_IndexByte Tryz.lays137 s c w
def Tryz.laysM171_ren:Go.Shelf.Ren:=⟨fun | 171=>15 | 243=>42 | 246=>91 | 283=>137 | 284=>138 | 285=>139 | 286=>140 | 129=>203 | 317=>202 | 318=>204 | 319=>205 | 320=>206 | 337=>230 | 338=>231 | n=>n,fun | 3=>3 | 9=>9 | 2=>2 | 4=>4 | 171=>210 | 0=>0 | 53=>179 | 37=>74 | 5=>5 | 173=>213 | 212=>283 | 51=>176 | 20=>20 | 213=>284 | 46=>115 | 232=>343 | 233=>344 | n=>n,fun | 17=>1 | 18=>6 | 19=>7 | n=>n⟩
theorem Tryz.laysM171:Go.Proofs.LaysM.n171 Tryz.prog Tryz.laysM171_ren:={
  mixed:=by kernel_rfl
  f129:=Tryz.func203.trans (congrArg some (by kernel_rfl))
  f171:=Tryz.func15.trans (congrArg some (by kernel_rfl))
  f243:=Tryz.func42.trans (congrArg some (by kernel_rfl))
  f246:=Tryz.func91.trans (congrArg some (by kernel_rfl))
  f283:=Tryz.func137.trans (congrArg some (by kernel_rfl))
  f284:=Tryz.func138.trans (congrArg some (by kernel_rfl))
  f285:=Tryz.func139.trans (congrArg some (by kernel_rfl))
  f286:=Tryz.func140.trans (congrArg some (by kernel_rfl))
  f317:=Tryz.func202.trans (congrArg some (by kernel_rfl))
  f318:=Tryz.func204.trans (congrArg some (by kernel_rfl))
  f319:=Tryz.func205.trans (congrArg some (by kernel_rfl))
  f320:=Tryz.func206.trans (congrArg some (by kernel_rfl))
  f337:=Tryz.func230.trans (congrArg some (by kernel_rfl))
  f338:=Tryz.func231.trans (congrArg some (by kernel_rfl))
  t0:=Tryz.underlying0
  a0:=Tryz.isAgg0
  z0:=Tryz.sizeOf0
  v0:=Tryz.zeroValue0
  t2:=Tryz.underlying2
  a2:=Tryz.isAgg2
  z2:=Tryz.sizeOf2
  v2:=Tryz.zeroValue2
  t3:=Tryz.underlying3
  a3:=Tryz.isAgg3
  z3:=Tryz.sizeOf3
  v3:=Tryz.zeroValue3
  t4:=Tryz.underlying4
  a4:=Tryz.isAgg4
  z4:=Tryz.sizeOf4
  v4:=Tryz.zeroValue4
  t5:=Tryz.underlying5
  a5:=Tryz.isAgg5
  z5:=Tryz.sizeOf5
  v5:=Tryz.zeroValue5
  t9:=Tryz.underlying9
  a9:=Tryz.isAgg9
  z9:=Tryz.sizeOf9
  v9:=Tryz.zeroValue9
  t20:=Tryz.underlying20
  a20:=Tryz.isAgg20
  z20:=Tryz.sizeOf20
  v20:=Tryz.zeroValue20
  t37:=Tryz.underlying74
  a37:=Tryz.isAgg74
  z37:=Tryz.sizeOf74
  v37:=Tryz.zeroValue74
  t46:=Tryz.underlying115
  a46:=Tryz.isAgg115
  z46:=Tryz.sizeOf115
  v46:=Tryz.zeroValue115
  t51:=Tryz.underlying176
  a51:=Tryz.isAgg176
  z51:=Tryz.sizeOf176
  v51:=Tryz.zeroValue176
  t53:=Tryz.underlying179
  a53:=Tryz.isAgg179
  z53:=Tryz.sizeOf179
  v53:=Tryz.zeroValue179
  t171:=Tryz.underlying210
  a171:=Tryz.isAgg210
  z171:=Tryz.sizeOf210
  v171:=Tryz.zeroValue210
  t173:=Tryz.underlying213
  a173:=Tryz.isAgg213
  z173:=Tryz.sizeOf213
  v173:=Tryz.zeroValue213
  t212:=Tryz.underlying283
  a212:=Tryz.isAgg283
  z212:=Tryz.sizeOf283
  v212:=Tryz.zeroValue283
  t213:=Tryz.underlying284
  a213:=Tryz.isAgg284
  z213:=Tryz.sizeOf284
  t232:=Tryz.underlying343
  a232:=Tryz.isAgg343
  z232:=Tryz.sizeOf343
  v232:=Tryz.zeroValue343
  t233:=Tryz.underlying344
  a233:=Tryz.isAgg344
  z233:=Tryz.sizeOf344
  v233:=Tryz.zeroValue344
  g17:=by kernel_rfl
  g18:=by kernel_rfl
  g19:=by kernel_rfl
  i0:=by kernel_rfl
  i2:=by kernel_rfl
  i3:=by kernel_rfl
  i4:=by kernel_rfl
  i5:=by kernel_rfl
  i9:=by kernel_rfl
  i20:=by kernel_rfl
  i37:=by kernel_rfl
  i46:=by kernel_rfl
  i51:=by kernel_rfl
  i53:=by kernel_rfl
  i171:=by kernel_rfl
  i173:=by kernel_rfl
  i212:=by kernel_rfl
  i232:=by kernel_rfl
  i233:=by kernel_rfl
  m17:=by kernel_rfl
  m18:=by kernel_rfl
  m19:=by kernel_rfl }
open Go.RowKit Go.Sort Go.Lib in
theorem Tryz.strconv_Itoa (n:Int) (h0:-9223372036854775808≤n) (h1:n≤9223372036854775807) (w:World) (htab:Lib.TabIs Tryz.prog w "internal/strconv.uint64pow10" .u64 Lib.pow10Tab) :
    Calls Tryz.prog 15 #[.int .i64 n] w fun e w'=>e = .returned (.string ⟨(Lib.itoa n).toArray⟩)∧∃ k os,w'=grow (w.drewN k) os:=Any.strconv_Itoa Tryz.laysM171 n h0 h1 w htab
def Tryz.laysC172_ren:Go.Shelf.Ren:=⟨fun | 172=>45 | 244=>95 | 245=>96 | 247=>155 | 279=>156 | 280=>157 | 281=>158 | 282=>159 | 287=>213 | 316=>214 | 171=>15 | 205=>215 | 321=>232 | 322=>233 | 243=>42 | 246=>91 | 283=>137 | 284=>138 | 285=>139 | 286=>140 | 129=>203 | 317=>202 | 318=>204 | 319=>205 | 320=>206 | 337=>230 | 338=>231 | n=>n,fun | 9=>9 | 3=>3 | 75=>79 | 76=>80 | 4=>4 | 5=>5 | 167=>230 | 37=>74 | 0=>0 | 85=>231 | 2=>2 | 168=>233 | 53=>179 | 175=>292 | 46=>115 | 210=>296 | 127=>130 | 145=>323 | 143=>321 | 21=>21 | 171=>210 | 173=>213 | 212=>283 | 51=>176 | 20=>20 | 213=>284 | 232=>343 | 233=>344 | 80=>83 | n=>n,fun | 15=>2 | 16=>3 | 17=>1 | 18=>6 | 19=>7 | n=>n⟩
theorem Tryz.laysC172:Go.Proofs.LaysC.n172 Tryz.prog Tryz.laysC172_ren:={
  mixed:=by kernel_rfl
  f129:=Tryz.func203.trans (congrArg some (by kernel_rfl))
  f171:=Tryz.func15.trans (congrArg some (by kernel_rfl))
  f172:=Tryz.func45.trans (congrArg some (by kernel_rfl))
  f205:=Tryz.func215.trans (congrArg some (by kernel_rfl))
  f243:=Tryz.func42.trans (congrArg some (by kernel_rfl))
  f244:=Tryz.func95.trans (congrArg some (by kernel_rfl))
  f245:=Tryz.func96.trans (congrArg some (by kernel_rfl))
  f246:=Tryz.func91.trans (congrArg some (by kernel_rfl))
  f247:=Tryz.func155.trans (congrArg some (by kernel_rfl))
  f279:=Tryz.func156.trans (congrArg some (by kernel_rfl))
  f280:=Tryz.func157.trans (congrArg some (by kernel_rfl))
  f281:=Tryz.func158.trans (congrArg some (by kernel_rfl))
  f282:=Tryz.func159.trans (congrArg some (by kernel_rfl))
  f283:=Tryz.func137.trans (congrArg some (by kernel_rfl))
  f284:=Tryz.func138.trans (congrArg some (by kernel_rfl))
  f285:=Tryz.func139.trans (congrArg some (by kernel_rfl))
  f286:=Tryz.func140.trans (congrArg some (by kernel_rfl))
  f287:=Tryz.func213.trans (congrArg some (by kernel_rfl))
  f316:=Tryz.func214.trans (congrArg some (by kernel_rfl))
  f317:=Tryz.func202.trans (congrArg some (by kernel_rfl))
  f318:=Tryz.func204.trans (congrArg some (by kernel_rfl))
  f319:=Tryz.func205.trans (congrArg some (by kernel_rfl))
  f320:=Tryz.func206.trans (congrArg some (by kernel_rfl))
  f321:=Tryz.func232.trans (congrArg some (by kernel_rfl))
  f322:=Tryz.func233.trans (congrArg some (by kernel_rfl))
  f337:=Tryz.func230.trans (congrArg some (by kernel_rfl))
  f338:=Tryz.func231.trans (congrArg some (by kernel_rfl))
  t0:=Tryz.underlying0
  a0:=Tryz.isAgg0
  z0:=Tryz.sizeOf0
  v0:=Tryz.zeroValue0
  t2:=Tryz.underlying2
  a2:=Tryz.isAgg2
  z2:=Tryz.sizeOf2
  v2:=Tryz.zeroValue2
  t3:=Tryz.underlying3
  a3:=Tryz.isAgg3
  z3:=Tryz.sizeOf3
  v3:=Tryz.zeroValue3
  t4:=Tryz.underlying4
  a4:=Tryz.isAgg4
  z4:=Tryz.sizeOf4
  v4:=Tryz.zeroValue4
  t5:=Tryz.underlying5
  a5:=Tryz.isAgg5
  z5:=Tryz.sizeOf5
  v5:=Tryz.zeroValue5
  t9:=Tryz.underlying9
  a9:=Tryz.isAgg9
  z9:=Tryz.sizeOf9
  v9:=Tryz.zeroValue9
  t20:=Tryz.underlying20
  a20:=Tryz.isAgg20
  z20:=Tryz.sizeOf20
  v20:=Tryz.zeroValue20
  t21:=Tryz.underlying21
  a21:=Tryz.isAgg21
  z21:=Tryz.sizeOf21
  v21:=Tryz.zeroValue21
  t37:=Tryz.underlying74
  a37:=Tryz.isAgg74
  z37:=Tryz.sizeOf74
  v37:=Tryz.zeroValue74
  t46:=Tryz.underlying115
  a46:=Tryz.isAgg115
  z46:=Tryz.sizeOf115
  v46:=Tryz.zeroValue115
  t51:=Tryz.underlying176
  a51:=Tryz.isAgg176
  z51:=Tryz.sizeOf176
  v51:=Tryz.zeroValue176
  t53:=Tryz.underlying179
  a53:=Tryz.isAgg179
  z53:=Tryz.sizeOf179
  v53:=Tryz.zeroValue179
  t75:=Tryz.underlying79
  a75:=Tryz.isAgg79
  z75:=Tryz.sizeOf79
  v75:=Tryz.zeroValue79
  t76:=Tryz.underlying80
  a76:=Tryz.isAgg80
  z76:=Tryz.sizeOf80
  v76:=Tryz.zeroValue80
  t85:=Tryz.underlying231
  a85:=Tryz.isAgg231
  z85:=Tryz.sizeOf231
  v85:=Tryz.zeroValue231
  t127:=Tryz.underlying130
  a127:=Tryz.isAgg130
  z127:=Tryz.sizeOf130
  v127:=Tryz.zeroValue130
  t143:=Tryz.underlying321
  a143:=Tryz.isAgg321
  z143:=Tryz.sizeOf321
  v143:=Tryz.zeroValue321
  t145:=Tryz.underlying323
  a145:=Tryz.isAgg323
  z145:=Tryz.sizeOf323
  v145:=Tryz.zeroValue323
  t167:=Tryz.underlying230
  a167:=Tryz.isAgg230
  z167:=Tryz.sizeOf230
  v167:=Tryz.zeroValue230
  t168:=Tryz.underlying233
  a168:=Tryz.isAgg233
  z168:=Tryz.sizeOf233
  v168:=Tryz.zeroValue233
  t171:=Tryz.underlying210
  a171:=Tryz.isAgg210
  z171:=Tryz.sizeOf210
  v171:=Tryz.zeroValue210
  t173:=Tryz.underlying213
  a173:=Tryz.isAgg213
  z173:=Tryz.sizeOf213
  v173:=Tryz.zeroValue213
  t175:=Tryz.underlying292
  a175:=Tryz.isAgg292
  z175:=Tryz.sizeOf292
  v175:=Tryz.zeroValue292
  t210:=Tryz.underlying296
  a210:=Tryz.isAgg296
  z210:=Tryz.sizeOf296
  v210:=Tryz.zeroValue296
  t212:=Tryz.underlying283
  a212:=Tryz.isAgg283
  z212:=Tryz.sizeOf283
  v212:=Tryz.zeroValue283
  t213:=Tryz.underlying284
  a213:=Tryz.isAgg284
  z213:=Tryz.sizeOf284
  t232:=Tryz.underlying343
  a232:=Tryz.isAgg343
  z232:=Tryz.sizeOf343
  v232:=Tryz.zeroValue343
  t233:=Tryz.underlying344
  a233:=Tryz.isAgg344
  z233:=Tryz.sizeOf344
  v233:=Tryz.zeroValue344
  g15:=by kernel_rfl
  g16:=by kernel_rfl
  g17:=by kernel_rfl
  g18:=by kernel_rfl
  g19:=by kernel_rfl
  t80:=Tryz.underlying83
  a80:=Tryz.isAgg83
  z80:=Tryz.sizeOf83
  v80:=Tryz.zeroValue83
  i0:=by kernel_rfl
  i2:=by kernel_rfl
  i3:=by kernel_rfl
  i4:=by kernel_rfl
  i5:=by kernel_rfl
  i9:=by kernel_rfl
  i20:=by kernel_rfl
  i21:=by kernel_rfl
  i37:=by kernel_rfl
  i46:=by kernel_rfl
  i51:=by kernel_rfl
  i53:=by kernel_rfl
  i75:=by kernel_rfl
  i76:=by kernel_rfl
  i80:=by kernel_rfl
  i85:=by kernel_rfl
  i127:=by kernel_rfl
  i143:=by kernel_rfl
  i145:=by kernel_rfl
  i167:=by kernel_rfl
  i168:=by kernel_rfl
  i171:=by kernel_rfl
  i173:=by kernel_rfl
  i175:=by kernel_rfl
  i210:=by kernel_rfl
  i212:=by kernel_rfl
  i232:=by kernel_rfl
  i233:=by kernel_rfl
  m15:=by kernel_rfl
  m16:=by kernel_rfl
  m17:=by kernel_rfl
  m18:=by kernel_rfl
  m19:=by kernel_rfl
  c0:=by kernel_rfl
  c2:=by kernel_rfl
  c3:=by kernel_rfl
  c4:=by kernel_rfl
  c5:=by kernel_rfl
  c9:=by kernel_rfl
  c20:=by kernel_rfl
  c21:=by kernel_rfl
  c37:=by kernel_rfl
  c46:=by kernel_rfl
  c51:=by kernel_rfl
  c53:=by kernel_rfl
  c75:=by kernel_rfl
  c76:=by kernel_rfl
  c80:=by kernel_rfl
  c85:=by kernel_rfl
  c127:=by kernel_rfl
  c143:=by kernel_rfl
  c145:=by kernel_rfl
  c167:=by kernel_rfl
  c168:=by kernel_rfl
  c171:=by kernel_rfl
  c173:=by kernel_rfl
  c175:=by kernel_rfl
  c210:=by kernel_rfl
  c212:=by kernel_rfl
  c213:=by kernel_rfl
  c232:=by kernel_rfl
  c233:=by kernel_rfl }
open Go.RowKit in
theorem Tryz.strconv_Atoi_ok (s:ByteArray) (hmax:s.size≤9223372036854775806) (v:Int) (h:Lib.atoiAll s.data.toList = .ok v) (w:World) :
    Calls Tryz.prog 45 #[.string s] w fun e w'=>e = .returned (.tuple #[.int .i64 v,.nilIface])∧(w'=w∨∃ t,w'=Lib.bytesWorld w 5 t):=Any.strconv_Atoi_ok Tryz.laysC172 s hmax v h w
open Go.RowKit in
theorem Tryz.strconv_Atoi_syntax (s:ByteArray) (hlim:s.size≤281474976710656) (h:Lib.atoiAll s.data.toList=Lib.atoiAll []) (ev:Value) (w:World) (hv:w.cell? ⟨2,0,none⟩=some ev) (hev:ev = .nilIface∨∃ te pe,ev = .iface te pe) :
    Calls Tryz.prog 45 #[.string s] w fun e w'=>∃ N,e = .returned (.tuple #[.int .i64 (0),.iface 233 (.pointer (some ⟨N,0,none⟩))])∧w.heap.size≤N∧w'.heap[N]? = some (.cells #[.string ⟨#[65,116,111,105]⟩,.string s,ev] 296 (0,0))∧Below w.heap.size w w':=Any.strconv_Atoi_syntax Tryz.laysC172 s hlim h ev w hv hev
open Go.RowKit in
theorem Tryz.strconv_Atoi_range (s:ByteArray) (hlim:s.size≤281474976710656) (h:Lib.atoiAll s.data.toList = .range) (ev:Value) (w:World) (hv:w.cell? ⟨3,0,none⟩=some ev) (hev:ev = .nilIface∨∃ te pe,ev = .iface te pe) :
    Calls Tryz.prog 45 #[.string s] w fun e w'=>∃ N,e = .returned (.tuple #[.int .i64 (Lib.atoiSat s.data.toList),.iface 233 (.pointer (some ⟨N,0,none⟩))])∧w.heap.size≤N∧w'.heap[N]? = some (.cells #[.string ⟨#[65,116,111,105]⟩,.string s,ev] 296 (0,0))∧Below w.heap.size w w':=Any.strconv_Atoi_range Tryz.laysC172 s hlim h ev w hv hev
def Tryz.laysGw17_ren:Go.Shelf.Ren:=⟨fun | 17=>69 | 15=>119 | 20=>177 | n=>n,fun | 9=>9 | 23=>154 | 4=>4 | 3=>3 | 0=>0 | 21=>21 | n=>n,fun | n=>n⟩
theorem Tryz.laysGw17:Go.Proofs.LaysGw.n17 Tryz.prog Tryz.laysGw17_ren:={
  mixed:=by kernel_rfl
  f15:=Tryz.func119.trans (congrArg some (by kernel_rfl))
  f17:=Tryz.func69.trans (congrArg some (by kernel_rfl))
  f20:=Tryz.func177.trans (congrArg some (by kernel_rfl))
  t0:=Tryz.underlying0
  a0:=Tryz.isAgg0
  z0:=Tryz.sizeOf0
  v0:=Tryz.zeroValue0
  i0:=by kernel_rfl
  t3:=Tryz.underlying3
  a3:=Tryz.isAgg3
  z3:=Tryz.sizeOf3
  v3:=Tryz.zeroValue3
  i3:=by kernel_rfl
  t4:=Tryz.underlying4
  a4:=Tryz.isAgg4
  z4:=Tryz.sizeOf4
  v4:=Tryz.zeroValue4
  i4:=by kernel_rfl
  t9:=Tryz.underlying9
  a9:=Tryz.isAgg9
  z9:=Tryz.sizeOf9
  v9:=Tryz.zeroValue9
  i9:=by kernel_rfl
  t21:=Tryz.underlying21
  a21:=Tryz.isAgg21
  z21:=Tryz.sizeOf21
  v21:=Tryz.zeroValue21
  i21:=by kernel_rfl
  t23:=Tryz.underlying154
  a23:=Tryz.isAgg154
  z23:=Tryz.sizeOf154
  v23:=Tryz.zeroValue154
  i23:=by kernel_rfl }
def Tryz.lays100_ren:Go.Shelf.Ren:=⟨fun | 100=>50 | 207=>101 | n=>n,fun | 9=>9 | 4=>4 | 3=>3 | n=>n,fun | n=>n⟩
theorem Tryz.lays100:Go.Proofs.Lays.n100 Tryz.prog Tryz.lays100_ren:={
  mixed:=by kernel_rfl
  f100:=Tryz.func50.trans (congrArg some (by kernel_rfl))
  f207:=Tryz.func101.trans (congrArg some (by kernel_rfl))
  t3:=Tryz.underlying3
  a3:=Tryz.isAgg3
  z3:=Tryz.sizeOf3
  v3:=Tryz.zeroValue3
  t4:=Tryz.underlying4
  a4:=Tryz.isAgg4
  z4:=Tryz.sizeOf4
  v4:=Tryz.zeroValue4
  t9:=Tryz.underlying9
  a9:=Tryz.isAgg9
  z9:=Tryz.sizeOf9
  v9:=Tryz.zeroValue9 }
open Go.RowKit Go.Lib in
theorem Tryz.strings_HasSuffix (s p:ByteArray) (w:World) (hs:s.size≤9223372036854775807) :
    Calls Tryz.prog 50 #[.string s,.string p] w fun e w'=>e = .returned (.bool (Lib.hasSuffix s.data.toList p.data.toList))∧w'=w:=Any.strings_HasSuffix Tryz.lays100 s p w hs
def Tryz.lays102_ren:Go.Shelf.Ren:=⟨fun | 102=>52 | 209=>104 | 207=>101 | n=>n,fun | 9=>9 | 4=>4 | 3=>3 | n=>n,fun | n=>n⟩
theorem Tryz.lays102:Go.Proofs.Lays.n102 Tryz.prog Tryz.lays102_ren:={
  mixed:=by kernel_rfl
  f102:=Tryz.func52.trans (congrArg some (by kernel_rfl))
  f207:=Tryz.func101.trans (congrArg some (by kernel_rfl))
  f209:=Tryz.func104.trans (congrArg some (by kernel_rfl))
  t3:=Tryz.underlying3
  a3:=Tryz.isAgg3
  z3:=Tryz.sizeOf3
  v3:=Tryz.zeroValue3
  t4:=Tryz.underlying4
  a4:=Tryz.isAgg4
  z4:=Tryz.sizeOf4
  v4:=Tryz.zeroValue4
  t9:=Tryz.underlying9
  a9:=Tryz.isAgg9
  z9:=Tryz.sizeOf9
  v9:=Tryz.zeroValue9 }
open Go.RowKit Go.Lib in
theorem Tryz.strings_TrimSuffix (s p:ByteArray) (w:World) (hs:s.size≤9223372036854775807) :
    Calls Tryz.prog 52 #[.string s,.string p] w fun e w'=>e = .returned (.string ⟨(Lib.trimSuffix s.data.toList p.data.toList).toArray⟩)∧w'=w:=Any.strings_TrimSuffix Tryz.lays102 s p w hs
def Tryz.lays146_ren:Go.Shelf.Ren:=⟨fun | 146=>44 | 221=>94 | 268=>154 | 138=>110 | 143=>48 | 195=>161 | 197=>111 | 218=>162 | 219=>90 | 260=>163 | 217=>133 | 225=>134 | 224=>135 | 267=>136 | 266=>200 | 314=>201 | n=>n,fun | 9=>9 | 31=>29 | 3=>3 | 4=>4 | 0=>0 | 105=>182 | 21=>21 | 5=>5 | 46=>115 | 119=>298 | 139=>301 | 138=>300 | 146=>177 | 51=>176 | n=>n,fun | 1=>0 | 3=>4 | 4=>5 | n=>n⟩
theorem Tryz.lays146:Go.Proofs.Lays.n146 Tryz.prog Tryz.lays146_ren:={
  mixed:=by kernel_rfl
  f138:=Tryz.func110.trans (congrArg some (by kernel_rfl))
  f143:=Tryz.func48.trans (congrArg some (by kernel_rfl))
  f146:=Tryz.func44.trans (congrArg some (by kernel_rfl))
  f195:=Tryz.func161.trans (congrArg some (by kernel_rfl))
  f197:=Tryz.func111.trans (congrArg some (by kernel_rfl))
  f217:=Tryz.func133.trans (congrArg some (by kernel_rfl))
  f218:=Tryz.func162.trans (congrArg some (by kernel_rfl))
  f219:=Tryz.func90.trans (congrArg some (by kernel_rfl))
  f221:=Tryz.func94.trans (congrArg some (by kernel_rfl))
  f224:=Tryz.func135.trans (congrArg some (by kernel_rfl))
  f225:=Tryz.func134.trans (congrArg some (by kernel_rfl))
  f260:=Tryz.func163.trans (congrArg some (by kernel_rfl))
  f266:=Tryz.func200.trans (congrArg some (by kernel_rfl))
  f267:=Tryz.func136.trans (congrArg some (by kernel_rfl))
  f268:=Tryz.func154.trans (congrArg some (by kernel_rfl))
  f314:=Tryz.func201.trans (congrArg some (by kernel_rfl))
  t0:=Tryz.underlying0
  a0:=Tryz.isAgg0
  z0:=Tryz.sizeOf0
  v0:=Tryz.zeroValue0
  t3:=Tryz.underlying3
  a3:=Tryz.isAgg3
  z3:=Tryz.sizeOf3
  v3:=Tryz.zeroValue3
  t4:=Tryz.underlying4
  a4:=Tryz.isAgg4
  z4:=Tryz.sizeOf4
  v4:=Tryz.zeroValue4
  t5:=Tryz.underlying5
  a5:=Tryz.isAgg5
  z5:=Tryz.sizeOf5
  v5:=Tryz.zeroValue5
  t9:=Tryz.underlying9
  a9:=Tryz.isAgg9
  z9:=Tryz.sizeOf9
  v9:=Tryz.zeroValue9
  t21:=Tryz.underlying21
  a21:=Tryz.isAgg21
  z21:=Tryz.sizeOf21
  v21:=Tryz.zeroValue21
  t31:=Tryz.underlying29
  a31:=Tryz.isAgg29
  z31:=Tryz.sizeOf29
  v31:=Tryz.zeroValue29
  t46:=Tryz.underlying115
  a46:=Tryz.isAgg115
  z46:=Tryz.sizeOf115
  v46:=Tryz.zeroValue115
  t51:=Tryz.underlying176
  a51:=Tryz.isAgg176
  z51:=Tryz.sizeOf176
  v51:=Tryz.zeroValue176
  t105:=Tryz.underlying182
  a105:=Tryz.isAgg182
  z105:=Tryz.sizeOf182
  v105:=Tryz.zeroValue182
  t119:=Tryz.underlying298
  a119:=Tryz.isAgg298
  z119:=Tryz.sizeOf298
  t138:=Tryz.underlying300
  a138:=Tryz.isAgg300
  z138:=Tryz.sizeOf300
  v138:=Tryz.zeroValue300
  t139:=Tryz.underlying301
  a139:=Tryz.isAgg301
  z139:=Tryz.sizeOf301
  v139:=Tryz.zeroValue301
  t146:=Tryz.underlying177
  a146:=Tryz.isAgg177
  z146:=Tryz.sizeOf177
  v146:=Tryz.zeroValue177
  g1:=by kernel_rfl
  g3:=by kernel_rfl
  g4:=by kernel_rfl }
open Go.RowKit Go.Lib in
theorem Tryz.strings_Split (s sep:ByteArray) (m:Int) (w:World) (hs:s.size < 4294967281) (hm:w.cell? ⟨0,0,none⟩=some (.int .i64 m)) (h1:1≤sep.size) :
    Calls Tryz.prog 44 #[.string s,.string sep] w fun e w' =>
      e = .returned (.slice (some ⟨w.heap.size,0,none⟩) (Lib.countB s sep + 1) (Lib.countB s sep + 1))∧w'=w.alloc (.cells ((Lib.splitB sep 0 (Lib.countB s sep) s).map Value.string).toArray 9):=Any.strings_Split Tryz.lays146 (by kernel_rfl) s sep m w hs hm h1
open Go.RowKit Go.Lib in
theorem Tryz.strings_ContainsFunc_grows (g:Nat) (lb:Array Value) (eg:∀ args w,(callFunc g args).run Tryz.prog w = .ok (.enter g args) w) (p:Nat→Bool) (s:ByteArray) (w:World) (hp:PredGrows Tryz.prog g lb p w) :
    Calls Tryz.prog 69 #[.string s,.func (.func g) #[] lb] w fun e w'=>e = .returned (.bool (decide (0≤Lib.idxFunc p true s)))∧Below w.heap.size w w':=Any.strings_ContainsFunc_grows Tryz.laysGw17 g lb eg p s w hp

end Go.Proofs
namespace Go.Proofs.YtnmkdiagbkkmaabGreatDoor
open Go Go.Eng
theorem CM9:Enters Tryz.prog 45:=Aa1 Tryz.func45 (by kernel_rfl) rfl
theorem Dh1:Enters Tryz.prog 70:=Aa1 Tryz.func70 (by kernel_rfl) rfl
end Go.Proofs.YtnmkdiagbkkmaabGreatDoor
namespace Go.Dk
open Go Go.Eng Go.RowKit Go.Hp Go.Pw1
structure Lw (P:Program) (W:World):Prop where
  mx:∃ m:Int,W.cell? ⟨0,0,none⟩=some (.int .i64 m)
  tab:Lib.TabIs P W "internal/strconv.uint64pow10" .u64 Lib.pow10Tab
  syn:∃ ev,W.cell? ⟨2,0,none⟩=some ev∧(ev = .nilIface∨∃ te pe,ev = .iface te pe)
  ran:∃ ev,W.cell? ⟨3,0,none⟩=some ev∧(ev = .nilIface∨∃ te pe,ev = .iface te pe)
theorem Bq4 {W w:World} {news:Blks} {p:Addr} {v:Value} (hm:Mem W [] news w) (h:W.cell? p=some v):w.cell? p=some v:=by
  have hp:p.block < W.heap.size:=by
    unfold World.cell? at h
    rcases Nat.lt_or_ge p.block W.heap.size with h2 | h2
    · exact h2
    · rw [Array.getElem?_eq_none h2] at h;cases h
  rw [hm.cell hp (by simp)];exact h
theorem CP5 {P:Program} {W w:World} {news:Blks} {s:String} {v:Array Value} (hm:Mem W [] news w) (h:W.var? P s=some v):w.var? P s=some v:=by
  unfold World.var? at h ⊢
  cases hg:P.globalNamed s with
  | none=>rw [hg] at h;cases h
  | some g =>
    rw [hg] at h;simp only [Option.bind_some] at h ⊢
    rcases Nat.lt_or_ge g W.heap.size with h2 | h2
    · rw [hm.old g h2 (by simp)];exact h
    · rw [Array.getElem?_eq_none h2] at h;cases h
theorem Lw.mono {P:Program} {W w:World} {news:Blks} (h:Lw P W) (hm:Mem W [] news w):Lw P w :=
  ⟨let ⟨m,h1⟩:=h.mx;⟨m,Bq4 hm h1⟩,CP5 hm h.tab,let ⟨m,h1,h2⟩:=h.syn;⟨m,Bq4 hm h1,h2⟩,let ⟨m,h1,h2⟩:=h.ran;⟨m,Bq4 hm h1,h2⟩⟩
theorem CE5 {w:World} (os:Array Obj):Mem w [] [] (Sort.grow w os) :=
  ⟨rfl,rfl,rfl,by simp [Sort.grow],fun k hk _=>by simp [Sort.grow,Array.getElem?_append_left hk],fun _ _ h=>(by cases h),fun _ _ h=>(by cases h),by simp⟩
theorem Ck4 {w:World} {t:ByteArray}:Mem w [] [] (Lib.bytesWorld w 5 t):=by
  unfold Lib.bytesWorld;refine ⟨rfl,rfl,rfl,by simp [World.freeze],fun k hk _=>?_,fun _ _ h=>(by cases h),fun _ _ h=>(by cases h),by simp⟩
  have h2:k ≠ w.heap.size:=by omega
  unfold World.freeze
  split
  · exact Below.heap_alloc _ _ _ hk
  · show ((w.drew.alloc _).heap.modify w.heap.size _)[k]? = _
    rw [Array.getElem?_modify,if_neg (fun e=>h2 e.symm)];exact Below.heap_alloc _ _ _ hk
def numV (s:Str):Except Int Value:=match numX s with
  | some n=>.ok (.int .i64 n)
  | none=>.error 8
theorem Bn1 {s:Str} {v:Value} (h:numV s = .ok v):∃ n,numX s=some n∧v = .int .i64 n:=by
  unfold numV at h
  split at h
  · cases h;exact ⟨_,by assumption,rfl⟩
  · cases h
theorem AV0 {s:Str} {k:Int} (h:numV s = .error k):numX s=none∧k=8:=by
  unfold numV at h
  split at h
  · cases h
  · cases h;exact ⟨by assumption,rfl⟩
theorem CS4 {s:Str} {n:Int} (h:numX s=some n):0≤n∧n≤9223372036854775807:=by
  unfold numX at h
  split at h
  · rename_i m hm
    split at h
    · rename_i hc
      cases h
      exact ⟨hc.2.1,(Lib.atoiAll_bounds hm).2⟩
    · cases h
  · cases h
/-! ### A rune that is no letter -/
theorem Ct1 (s:ByteArray) (i:Nat) (h:(s.get! i).toNat < 128):Utf8.decode s i=((s.get! i).toNat,1):=by
  unfold Utf8.decode;simp only [Nat.add_zero];rw [if_pos h]
theorem Ct2 (s:ByteArray) (i:Nat) (h:¬ (s.get! i).toNat < 128):128≤(Utf8.decode s i).1:=by
  unfold Utf8.decode;simp only [Nat.add_zero];rw [if_neg h]
  repeat' split
  all_goals first | (simp only [Utf8.runeError];decide) | (rename_i h1;first | (have:=h1;omega) | (simp only [Bool.and_eq_true,decide_eq_true_eq] at h1;omega))
theorem BS2 (c:UInt8):wordR (c.toNat:Int)=wordB c:=by
  unfold wordR wordB
  congr 1
  · congr 1
    · congr 1
      · congr 1 <;> exact decide_eq_decide.2 (by omega)
      · congr 1 <;> exact decide_eq_decide.2 (by omega)
    · exact decide_eq_decide.2 (by omega)
  · exact decide_eq_decide.2 (by omega)
theorem Cy3 {n:Nat} (h:128≤n):wordR (n:Int)=false:=by
  unfold wordR;simp;omega
theorem Cy4 {c:UInt8} (h:wordB c=true):c.toNat < 128:=by
  unfold wordB at h;simp at h;omega
theorem De9 {s:Str} {i:Nat} {c:UInt8} (h:s[i]? = some c):(bs s).get! i=c:=by
  unfold bs ByteArray.get!;simp [h]
theorem Bx0 (s:Str):∀ (f pos:Nat),s.length≤pos + f→decide (0≤Lib.idxFuncFrom (fun r=>!wordR (r:Int)) true (bs s) f pos) = !(s.drop pos).all wordB
  | 0,pos,h=>by
    rw [List.drop_eq_nil_of_le (by omega)];simp [Lib.idxFuncFrom]
  | f + 1,pos,h=>by
    have hsz:(bs s).size=s.length:=by simp [bs,ByteArray.size]
    unfold Lib.idxFuncFrom;rw [hsz]
    by_cases hp:pos < s.length
    · rw [if_pos hp,List.drop_eq_getElem_cons hp,List.all_cons]
      have hg:=De9 (List.getElem?_eq_getElem hp)
      by_cases hlo:(s[pos]).toNat < 128
      · rw [Ct1 _ _ (by rw [hg];exact hlo),hg]
        dsimp only;rw [BS2]
        cases hw:wordB s[pos] with
        | true =>
          rw [if_neg (by simp),Bool.true_and];exact Bx0 s f (pos + 1) (by omega)
        | false =>
          rw [if_pos (by simp)];simp
      · have h1:=Ct2 (bs s) pos (by rw [hg];exact hlo)
        rw [Cy3 h1,if_pos (by simp)]
        have:wordB s[pos]=false:=by
          cases hw:wordB s[pos] with
          | true=>exact absurd (Cy4 hw) hlo
          | false=>rfl
        rw [this];simp
    · rw [if_neg hp,List.drop_eq_nil_of_le (by omega)]
      simp
theorem CF1 (s:Str):decide (0≤Lib.idxFunc (fun r=>!wordR (r:Int)) true (bs s)) = !s.all wordB:=by
  have h:=Bx0 s s.length 0 (by omega);unfold Lib.idxFunc;rw [show (bs s).size=s.length by simp [bs,ByteArray.size]];exact h
end Go.Dk
namespace Go.Proofs.YtnmkdiagbkkmaabGreatDoor
open Go Go.Eng Go.Dk Go.RowKit Go.Hp Go.Pw1

theorem AD4 (n:Int) (h:-9223372036854775808≤n∧n≤9223372036854775807) (W:World) (hL:Lw Tryz.prog W):Calls Tryz.prog 15 #[.int .i64 n] W (Pure (.string (bs (Lib.itoa n))) W) :=
  Af3 (Tryz.strconv_Itoa n h.1 h.2 W hL.tab) (by
    rintro e w' ⟨rfl,k,os,rfl⟩
    refine ⟨rfl,?_⟩
    have h1:∀ k,Mem W [] [] (W.drewN k):=fun k=>⟨rfl,rfl,rfl,Nat.le_refl _,fun _ _ _=>rfl,fun _ _ h=>(by cases h),fun _ _ h=>(by cases h),by simp⟩
    exact (h1 k).pass (CE5 os))
theorem Aw9 (s p:Str) (h:s.length≤9223372036854775807) (W:World):Calls Tryz.prog 50 #[.string (bs s),.string (bs p)] W (Pure (.bool (Lib.hasSuffix s p)) W) :=
  Af3 (Tryz.strings_HasSuffix (bs s) (bs p) W h) (by rintro e w' ⟨rfl,rfl⟩;exact ⟨rfl,Mem.refl _⟩)
theorem AT0 (s p:Str) (h:s.length≤9223372036854775807) (W:World):Calls Tryz.prog 52 #[.string (bs s),.string (bs p)] W (Pure (.string (bs (Lib.trimSuffix s p))) W) :=
  Af3 (Tryz.strings_TrimSuffix (bs s) (bs p) W h) (by rintro e w' ⟨rfl,rfl⟩;exact ⟨rfl,Mem.refl _⟩)
theorem AT5 (s:Str) (c:Int) (W:World):Calls Tryz.prog 103 #[.string (bs s),.int .u8 c] W (Pure (.int .i64 (Lib.indexByte s c.toNat.toUInt8)) W) :=
  Af3 (Tryz.strings_IndexByte (bs s) c W) (by rintro e w' ⟨rfl,rfl⟩;exact ⟨rfl,Mem.refl _⟩)
theorem BX4 (q:Option Addr) (b o c:Nat) (xs:List Str) (sep:Str) (W:World) (hS:Sl W q b o 1 (xs.map fun x=>[.string (bs x)])) (hN:xs.length≤140737488355328) (hc:xs.length≤c) (hl:(Lib.join xs sep).length≤140737488355328) :
    Calls Tryz.prog 105 #[.slice q xs.length c,.string (bs sep)] W (Pure (.string (bs (Lib.join xs sep))) W):=by
  cases xs with
  | nil=>exact Af3 (Tryz.strings_Join_none q c (bs sep) W) (by rintro e w' ⟨rfl,rfl⟩;exact ⟨rfl,Mem.refl _⟩)
  | cons x xs =>
    have hq:=hS.ptr (i:=0) (by simp);have e1:((x::xs).map bs).map (·.data.toList)=x::xs:=by rw [List.map_map];exact List.map_id' _
    have h0:=Tryz.strings_Join b o c ((x::xs).map bs) (bs sep) W (fun j y hj=>by
      obtain ⟨hj1,hj2⟩:=List.getElem?_eq_some_iff.1 hj;have hj3:j < (x::xs).length:=by simpa using hj1
      have h1:=hS.cell j (by simpa using hj3) 0 (by decide);rw [List.getElem_map] at h1;rw [List.getElem_map] at hj2;rw [Nat.mul_one,Nat.add_zero] at h1;rw [h1,← hj2];rfl) (by
      have h1:=hS.cell 0 (by simp) 0 (by decide);rw [List.getElem_map] at h1;unfold World.cell? at h1
      rcases Nat.lt_or_ge b W.heap.size with h2 | h2
      · exact h2
      · simp only [Array.getElem?_eq_none h2] at h1
        simp at h1) (by simpa using hN) (by simpa using hc) (by rw [e1];exact hl)
    rw [e1] at h0;rw [hq];have e2:((x::xs).map bs).length=(x::xs).length:=by simp
    rw [e2] at h0;exact Af3 h0 (by rintro e w' ⟨rfl,h⟩;exact ⟨rfl,Mem.of_below h⟩)
theorem Dm6:∃ ms,Tryz.prog.underlying 79=some (.interface ms):=⟨_,Tryz.underlying79⟩
theorem Br2 (s:Str) (h:s.length≤281474976710656) (v:Int) (hv:Lib.atoiAll s = .ok v) (W:World):Calls Tryz.prog 45 #[.string (bs s)] W (Pure (.tuple #[.int .i64 v,.nilIface]) W) :=
  Af3 (Tryz.strconv_Atoi_ok (bs s) (Nat.le_trans h (by decide)) v hv W) (by
    rintro e w' ⟨rfl,rfl | ⟨t,rfl⟩⟩
    · exact ⟨rfl,Mem.refl _⟩
    · exact ⟨rfl,Ck4⟩)
theorem Br3 (s:Str) (h:s.length≤281474976710656) (hv:∀ v,Lib.atoiAll s ≠ .ok v) (W:World) (hL:Lw Tryz.prog W):Calls Tryz.prog 45 #[.string (bs s)] W (News (fun z:Int×Nat=>.tuple #[.int .i64 z.1,.iface 233 (.pointer (some ⟨z.2,0,none⟩))]) (fun _=>[]) W):=by
  cases hr:Lib.atoiAll s with
  | ok v=>exact absurd hr (hv v)
  | range =>
    obtain ⟨ev,h1,h2⟩:=hL.ran;exact Af3 (Tryz.strconv_Atoi_range (bs s) h hr ev W h1 h2) (by rintro e w' ⟨N,rfl,_,_,hb⟩;exact ⟨(_,N),rfl,Mem.of_below hb⟩)
  | _ =>
    obtain ⟨ev,h1,h2⟩:=hL.syn;exact Af3 (Tryz.strconv_Atoi_syntax (bs s) h hr ev W h1 h2) (by rintro e w' ⟨N,rfl,_,_,hb⟩;exact ⟨(0,N),rfl,Mem.of_below hb⟩)
theorem Bn4:∀ args w,(callFunc 70 args).run Tryz.prog w = .ok (.enter 70 args) w:=Dh1
theorem AK9 (s:Str) (W:World):Calls Tryz.prog 69 #[.string (bs s),.func (.func 70) #[] #[]] W (Pure (.bool (!s.all wordB)) W) :=
  Af3 (Tryz.strings_ContainsFunc_grows 70 #[] Bn4 (fun r=>!wordR (r:Int)) (bs s) W (fun w x _ hb=>by
    refine Af3 (Bv1 (x:Int) w) ?_
    rintro e w' ⟨rfl,hm⟩
    exact ⟨rfl,hm.below⟩)) (by
    rintro e w' ⟨rfl,hb⟩
    rw [CF1];exact ⟨rfl,Mem.of_below hb⟩)
theorem Av0 (s:Str) (h:s.length≤281474976710656) (W:World) (hL:Lw Tryz.prog W):Calls Tryz.prog 85 #[.string (bs s)] W (Try dmis (numV s) W):=by
  obtain ⟨ms,hms⟩:=Dm6
  by_cases hv:∃ v,Lib.atoiAll s = .ok v
  · obtain ⟨v,hv⟩:=hv
    have hr:=Lib.atoiAll_bounds hv;refine Aa0 Tryz.func85 rfl rfl ?_;refine st ?_;refine zc (zF rfl CM9) (fun w hm=>Br2 s h v hv w) ?_;refine lv (Bc4 rfl hms) ?_;refine Af9 (dj:=12) true rfl rfl ?_;refine st ?_;refine lv (Ah0 rfl An7) ?_
    refine Ab3 (dj:=17) (dp:=20) 3 rfl (fun g17=>by
      have g17':=g17;try simp only [nH] at g17'
      refine sv ?_;exact zs g17
    ) (fun g17=>by
      have g17':=g17;try simp only [nH] at g17'
      refine Ab8 rfl rfl rfl ?_;refine Ab8 rfl rfl rfl ?_;refine sv ?_;exact zs g17
    ) ?_
    refine st ?_
    refine Ab3 (dj:=21) (dp:=26) 5 rfl (fun g21=>by
      have g21':=g21;try simp only [nH] at g21'
      refine st ?_;refine zc (zF rfl By9) (fun w hm=>AD4 v hr w (hL.mono hm)) ?_;refine Ac7 (Av7 rfl rfl) rfl rfl rfl ?_;refine sv ?_;exact zs g21
    ) (fun g21=>by
      have g21':=g21;try simp only [nH] at g21'
      iterate 4 refine Ab8 rfl rfl rfl ?_
      refine sv ?_;exact zs g21
    ) ?_
    refine Ac2 (zF rfl Al7) rfl rfl rfl (fun w hm=>Ad8 _ _ w) (fun e27 he27=>?_) (fun v27 hv27=>?_)
    ·obtain ⟨er27,rfl⟩:=Ae0 he27
     refine Aa5 ?_;exact Ae8 (k:=8) (by unfold numV numX;rw [hv];dsimp only;rw [if_neg (by simp at er27;rintro ⟨a1,a2,a3⟩;exact er27 (by omega) a2 a3)])
    obtain ⟨ok27,rfl⟩:=Ae7 hv27;refine su ?_;exact Am3 (.r1 rfl (.tmp rfl)) (by unfold numV numX;rw [hv];dsimp only;rw [if_pos (by simp at ok27;exact ⟨by omega,ok27.1.2,ok27.2⟩)])
  · have hv':∀ v,Lib.atoiAll s ≠ .ok v:=fun v hh=>hv ⟨v,hh⟩
    have e:numV s = .error 8:=by
      unfold numV numX
      cases hr:Lib.atoiAll s with
      | ok v=>exact absurd hr (hv' v)
      | _=>rfl
    rw [e];refine Aa0 Tryz.func85 rfl rfl ?_;refine st ?_;refine Ag3 (zF rfl CM9) rfl rfl rfl (fun w hm=>Br3 s h hv' w (hL.mono hm)) (fun b7=>?_)
    refine st ?_;refine lv (AQ4 rfl hms) ?_;refine Af9 (dj:=12) false rfl rfl ?_;refine su ?_;refine Af9 (dj:=17) false rfl rfl ?_;refine su ?_;refine Af9 (dj:=21) false rfl rfl ?_;refine su ?_;refine Ac2 (zF rfl Al7) rfl rfl rfl (fun w hm=>Ad8 _ _ w) (fun e27 he27=>?_) (fun v27 hv27=>?_)
    ·obtain ⟨er27,rfl⟩:=Ae0 he27
     refine Aa5 ?_;exact Ae8 (k:=8) rfl
    obtain ⟨ok27,rfl⟩:=Ae7 hv27;refine su ?_;exact Am3 (.r1 rfl (.tmp rfl)) (absurd ok27 (by decide))
end Go.Proofs.YtnmkdiagbkkmaabGreatDoor
namespace Go.Proofs.YtnmkdiagbkkmaabGreatDoor
open Go Go.Eng
theorem BQ4:Enters Tryz.prog 85:=Aa1 Tryz.func85 (by kernel_rfl) rfl
end Go.Proofs.YtnmkdiagbkkmaabGreatDoor
namespace Go.Dk
open Go Go.Eng Go.RowKit Go.Hp Go.Pw1
abbrev pV (b:Nat):Value:=.pointer (some ⟨b,0,none⟩)
def strC (s:Str):List Value:=[.string (bs s)]
def intC (n:Int):List Value:=[.int .i64 n]
theorem Au3 (l:List Str):strsC l=(l.map strC).flatten:=by
  induction l with
  | nil=>rfl
  | cons a l ih=>simp only [List.map_cons,List.flatten_cons,← ih];rfl
theorem AY3:∀ {a b:List Str},numsX (a++b)=match numsX a,numsX b with
    | some x,some y=>some (x++y)
    | _,_=>none
  | [],b=>by
    simp only [List.nil_append,numsX]
    cases numsX b <;> rfl
  | w::a,b=>by
    simp only [List.cons_append,numsX,AY3 (a:=a) (b:=b)]
    cases numX w <;> cases numsX a <;> cases numsX b <;> rfl
theorem CS3 {l:List Str} {k:Nat} (hk:k < l.length) {r:List Int} (h:numsX (l.take k)=some r) {s:Str} (hs:l[k]=s) {y:Int} (hy:numX s=some y):numsX (l.take (k + 1))=some (r++[y]):=by
  subst hs;rw [List.take_succ_eq_append_getElem hk,AY3,h];simp only [numsX,hy]
theorem CD3 {l:List Str} {k:Nat} (hk:k < l.length) {s:Str} (hs:l[k]=s) (hy:numX s=none):numsX l=none:=by
  subst hs;have e:l=l.take k++(l[k]::l.drop (k + 1)):=by rw [← List.drop_eq_getElem_cons hk,List.take_append_drop]
  rw [e,AY3];simp only [numsX,hy]
  cases numsX (l.take k) <;> rfl
theorem Cj7:∀ {l:List Str} {r:List Int},numsX l=some r→r.length=l.length
  | [],r,h=>by cases h;rfl
  | w::ws,r,h=>by
    simp only [numsX] at h
    split at h
    · rename_i a l h1 h2
      cases h
      simp [Cj7 h2]
    · cases h
theorem AH8:∀ {l:List Str} {r:List Int},numsX l=some r→∀ n∈r,0≤n∧n≤9223372036854775807
  | [],r,h=>by cases h;intro n hn;cases hn
  | w::ws,r,h=>by
    simp only [numsX] at h
    split at h
    · rename_i a l h1 h2
      cases h
      intro n hn
      rcases List.mem_cons.1 hn with rfl | hn
      · exact CS4 h1
      · exact AH8 h2 n hn
    · cases h
theorem AP4 {β γ:Type} {P:Program} {f:FuncId} {args:Array Value} {W0 w:World} {chg:Blks} {v:β→Value} {nw nw':β→Blks} {I:β→Prop} {mis:Int→Value} {kk:γ→Int} {np np':γ→Blks} {J:γ→Prop} (h:Calls P f args w (GrowT W0 chg v nw I mis kk np J)) (hp:∀ b,Pick (nw' b) (nw b)) (hq:∀ b,Pick (np' b) (np b)):Calls P f args w (GrowT W0 chg v nw' I mis kk np' J) :=
  Af3 h (by
    rintro e w' (⟨b,h1,h2,h3⟩ | ⟨b,h1,h2,h3⟩)
    · exact .inl ⟨b,h1,h2,h3.pick (hp b)⟩
    · exact .inr ⟨b,h1,h2,h3.pick (hq b)⟩)
theorem AO6 {w:World} {sb:Nat} {T:TypeId} {fr:Nat×Nat} {x:Str} {ws:List Str} {r:List Value} {q:Option Addr} (h:w.heap[sb]? = some (.cells (((x::ws).map strC).flatten++r).toArray T fr)) (hq:ws ≠ []→q=some ⟨sb,1,none⟩):Sl w q sb 1 1 (ws.map strC):=by
  have h1:Sl w (some ⟨sb,0,none⟩) sb 0 1 ((x::ws).map strC):=Sl.rowsR h (fun y hy=>by obtain ⟨z,_,rfl⟩:=List.mem_map.1 hy;rfl);refine ⟨fun hne=>hq (fun e=>hne (by rw [e];rfl)),fun y hy=>by obtain ⟨z,_,rfl⟩:=List.mem_map.1 hy;rfl,fun i hi j hj=>?_⟩
  have h2:=h1.cell (i + 1) (by simpa using hi) j hj;have e:0 + (i + 1) * 1 + j=1 + i * 1 + j:=by omega
  rw [e] at h2;rw [h2];simp
end Go.Dk
namespace Go.Proofs.YtnmkdiagbkkmaabGreatDoor
open Go Go.Eng Go.Dk Go.RowKit Go.Hp Go.Pw1

abbrev sbO (l:List Str) (r:List Value):Obj:=.cells ((l.map strC).flatten++r).toArray 9 (0,0)
abbrev nuB (z:Eng.Own×List Int):Blks:=ownB 3 z.1 (z.2.map intC).flatten
theorem Bn0 (x:Str) (ws:List Str) (r:List Value) (q:Option Addr) (sb cap:Nat) (rest:Blks) (W0 w:World) (hL:Lw Tryz.prog W0) (hm0:Mem W0 [] ((sb,sbO (x::ws) r)::(rest++[])) w) (hq:ws ≠ []→q=some ⟨sb,1,none⟩) (hl:ws.length≤100000) (hs:∀ s∈ws,s.length≤100000) :
    Calls Tryz.prog 36 #[.slice q ws.length cap] w (GrowT W0 [] (fun z:Eng.Own×List Int=>ownV z.1 z.2.length) (fun z=>nuB z++(rest++[])) (fun z=>OwnOk 1 z.1 z.2.length (z.2.map intC).flatten∧numsX ws=some z.2) dmis (fun _:Unit=>8) (fun _=>rest++[]) (fun _=>numsX ws=none)):=by
  refine Af7 hm0 Tryz.func36 rfl rfl ?_;refine su ?_;refine Ah4 (X:=Eng.Own×List Int) (n0:=[(sb,_)]) (ws.length) (fun k x q=>(7,.int .i64 (k:Int))::(2,ownV x.1 x.2.length)::q) (fun _ _=>_) (fun k x=>[]) (fun k x=>ownB 3 x.1 (x.2.map intC).flatten++(rest++[])) (fun k x=>OwnOk 1 x.1 x.2.length (x.2.map intC).flatten∧x.2.length=k∧numsX (ws.take k)=some x.2) (none,[]) ⟨OwnOk.start,rfl,rfl⟩ rfl (zE 7 rfl rfl (zE 2 rfl rfl (zS 5 rfl (zS 6 rfl (Sub.nil _))))) (.cons .here rfl (Pick.same (by rfl))) ?_;intro k x kN kI;obtain ⟨x1,xl⟩:=x;obtain ⟨kI1,kI2,kI3⟩:=kI;dsimp only at kI1 kI2 kI3 ⊢;refine st ?_;refine cn rfl ?_ ?_
  ·intro c0'
   have hk:k < ws.length:=by omega
   obtain ⟨s,hsk⟩:∃ s,ws[k]=s:=⟨_,rfl⟩;have hsl:=hs s (hsk ▸ List.getElem_mem hk);refine st ?_;refine lv (Aa8 rfl rfl Au5 (by omega) (by omega) (hq (List.ne_nil_of_length_pos (by omega)))) ?_;refine lv (Ab0 rfl (fun w hm=>Sl.loadM1 (AO6 (hm.at (.head _)) hq) (by decide) (Mem.refl w) (by simp) AE3 hk (v:=.string (bs s)) (by simp [strC,hsk]))) ?_;refine Ac2 (zF rfl BQ4) rfl rfl rfl (fun w hm=>Av0 _ (by omega) w (hL.mono hm)) (fun e13 he13=>?_) (fun v13 hv13=>?_)
   ·obtain ⟨hn13,rfl⟩:=AV0 he13
    refine Ad6 ?_;refine Aa5 ?_;refine Aa5 ?_;refine Ad6 ?_;refine Aa5 ?_;exact Ae4 () (CD3 hk hsk hn13) rfl (Pick.cnt fun x=>by simp only [nC];omega)
   obtain ⟨n13,hn13,rfl⟩:=Bn1 hv13;refine zn (New.buildSlice (parts:=[(0,.tmp 13)]) rfl Ah5 Ax7 rfl rfl rfl rfl) (fun b14=>?_)
   refine RunL.append (A:=[(b14,_),(sb,_)]) (B:=_) (x:=x1) (ys:=intC n13) CK1 rfl rfl rfl kI1 rfl (fun h=>by cases h) (fun w hm=>An1 (hm.at (.head _))) (Ar6 rfl) (by simp only [maxLen];omega) (by omega) rfl (fun z15 hz15=>?_)
   refine st ?_;refine lv (Val.add rfl rfl (IntWalk.i64_in _ ⟨by omega,by omega⟩)) ?_;exact Ad5 (z15,xl++[n13]) (by omega) ⟨by have h:=hz15;simp only [List.map_append,List.flatten_append,List.length_append,List.length_singleton];simpa using h,by simp [kI2],CS3 hk kI3 hsk hn13⟩ rfl (zE 7 rfl rfl (zE 2 rfl (by simp) (zS 5 rfl (zS 6 rfl (Sub.nil _))))) (.cons (.there .here) rfl (Pick.skip (Pick.same (by simp [List.map_append]))))
  intro c0';have hk:k=ws.length:=by omega
  refine RunC.exit ?_;refine su ?_;refine Ab1 ?_;refine su ?_;exact Am8 (x1,xl) ⟨kI1,by rw [← kI3,hk,List.take_length]⟩ (.r1 rfl (.tmp rfl)) rfl (Pick.skip (Pick.refl _))
end Go.Proofs.YtnmkdiagbkkmaabGreatDoor
namespace Go.Proofs.YtnmkdiagbkkmaabGreatDoor
open Go Go.Eng
theorem Cu8:apB Tryz.prog 29=some (9,1,16):=by kernel_rfl
theorem Di5:Enters Tryz.prog 44:=Aa1 Tryz.func44 (by kernel_rfl) rfl
theorem Dh5:Enters Tryz.prog 67:=Aa1 Tryz.func67 (by kernel_rfl) rfl
theorem Dh4:Enters Tryz.prog 68:=Aa1 Tryz.func68 (by kernel_rfl) rfl
theorem Dh3:Enters Tryz.prog 69:=Aa1 Tryz.func69 (by kernel_rfl) rfl
theorem AL1:zeroB Tryz.prog 9=some [.string ⟨#[]⟩]:=by kernel_rfl
end Go.Proofs.YtnmkdiagbkkmaabGreatDoor
namespace Go.Eng
open Go Go.RowKit
section
variable {ro:Option Nat} {P:Program} {ops:Array Oper} {Q:Exit→Act→World→Prop} {n:Nat} {r:Regs} {ds:List Deferred} {W:World} {chg news:Blks} {rest:List Oper} {d:Nat}
theorem BL4 {β:Type} {o:Oper} {f:FuncId} {args:Array Value} {v:β→Value} {nw:β→Blks} (hi:IsCall P r o f args) (hg:guardB ops r o.guard=some true) (hd:o.dst=some d) (hn:Nat.ble (d + 1) n=true)
    (hc:∀ w,Mem W chg news w→Calls P f args w (News v nw w)) (h:∀ b,RunLR ro P ops Q n rest ((d,v b)::r) ds W chg (nw b++news)) (hnd:notDefer o=true:=by rfl):RunLR ro P ops Q n (o::rest) r ds W chg news:=fun a w s =>
  Aj9 (Ad7 s.agree hg) hnd fun K hK=>by
    rw [hi.runs a w s.agree,Oper.uponIn_enter];refine ⟨fun h=>(by cases h),?_⟩
    have hc':CallsIn Fence.wide 8 P f args w (News v nw w):=callsIn_wide.2 (hc w s.mem)
    have hc2:CallsIn (Fr ro) 8 P f args w (News v nw w):=by
      cases ro with
      | none=>exact hc'
      | some l=>exact CallsIn.inRound l hc'
    refine hc2.mono ?_
    rintro e w' ⟨b,rfl,hm⟩
    show K _ _
    rw [hd];have s2:=s.put (Nat.le_of_ble_eq_true hn) (v b);exact hK _ _ (h b _ _ ⟨s2.size,s2.agree,s2.defers,s.mem.trans hm⟩)
theorem BL3 {o:Oper} {f:FuncId} {args:Array Value} {mis:Int→Value} {x:Except Int Value} (hi:IsCall P r o f args) (hg:guardB ops r o.guard=some true) (hd:o.dst=some d) (hn:Nat.ble (d + 1) n=true)
    (hc:∀ w,Mem W chg news w→Calls P f args w (Try mis x w)) (herr:∀ k,x = .error k→RunE Q n (.panic [{ v:=mis k,recovered:=false }]) r ds W chg news)
    (hok:∀ v,x = .ok v→RunLR ro P ops Q n rest ((d,v)::r) ds W chg news) (hnd:notDefer o=true:=by rfl):RunLR ro P ops Q n (o::rest) r ds W chg news:=fun a w s =>
  Aj9 (Ad7 s.agree hg) hnd fun K hK=>by
    rw [hi.runs a w s.agree,Oper.uponIn_enter];refine ⟨fun h=>(by cases h),?_⟩
    have hc':CallsIn Fence.wide 8 P f args w (Try mis x w):=callsIn_wide.2 (hc w s.mem)
    have hc2:CallsIn (Fr ro) 8 P f args w (Try mis x w):=by
      cases ro with
      | none=>exact hc'
      | some l=>exact CallsIn.inRound l hc'
    refine hc2.mono ?_
    rintro e w' ⟨he,hm⟩
    cases x with
    | ok v =>
      subst he
      show K _ _
      rw [hd];have s2:=s.put (Nat.le_of_ble_eq_true hn) v;exact hK _ _ (hok v rfl _ _ ⟨s2.size,s2.agree,s2.defers,s.mem.pass hm⟩)
    | error k =>
      subst he;exact herr k rfl a w' ⟨s.size,s.agree,s.defers,s.mem.pass hm⟩
end
end Go.Eng
namespace Go.Dk
open Go Go.Eng Go.RowKit Go.Hp Go.Pw1
def splitL (s:Str):List Str:=(Lib.splitB (bs [32]) 0 (Lib.countB (bs s) (bs [32])) (bs s)).map (·.data.toList)
theorem AX1 (l:Str):splitL l=Lib.split l [32]:=by
  unfold splitL Lib.split;rw [Lib.splitB_data];rfl
theorem BU1 {l:Str} {i:Nat} (h:Lib.indexByte l 32=(i:Int)):splitL l=l.take i::splitL (l.drop (i + 1)):=by
  have h1:Lib.index l [32]=(i:Int):=by rw [Lib.index_one];exact h
  have hc:=Lib.count_hit (s:=l) (sub:=[32]) (by simp) h1;rw [AX1,AX1];unfold Lib.split;rw [hc,Nat.add_comm,Lib.splitK];have hm:¬ (Lib.index l [32] == -1)=true:=fun e=>by have:=beq_iff_eq.1 e;omega
  rw [if_neg hm,h1];rfl
theorem BE1 {l:Str} (h:Lib.indexByte l 32 = -1):splitL l=[l]:=by
  have h1:Lib.index l [32] = -1:=by rw [Lib.index_one];exact h
  rw [AX1];unfold Lib.split;rw [Lib.count_miss h1];rfl
theorem Bb8:∀ {l:Str} {cur:Str},Lib.indexByte l 32 < 0→blanks l cur=[cur++l]
  | [],cur,_=>by simp [blanks]
  | c::s,cur,h=>by
    unfold Lib.indexByte at h
    by_cases hc:c=32
    · subst hc;simp at h
    · have hb:(c == 32)=false:=by simpa using hc
      rw [hb] at h;simp only [Bool.false_eq_true,if_false] at h;rw [blanks,if_neg hc]
      split at h
      · rename_i h1
        rw [Bb8 (l := s) (by have : Lib.indexByte s 32 = -1 := by simpa using h1
                             omega)]
        simp
      · have hge:=Lib.indexByte_ge s 32
        rename_i h1;have h2:Lib.indexByte s 32 ≠ -1:=by simpa using h1
        omega
theorem Bj3:∀ {l:Str} {cur:Str} {i:Nat},Lib.indexByte l 32=(i:Int)→i < l.length∧blanks l cur=(cur++l.take i)::blanks (l.drop (i + 1)) []
  | [],cur,i,h=>by unfold Lib.indexByte at h;omega
  | c::s,cur,i,h=>by
    unfold Lib.indexByte at h
    by_cases hc:c=32
    · subst hc
      simp at h
      obtain rfl:i=0:=by omega
      rw [blanks,if_pos rfl];simp
    · have hb:(c == 32)=false:=by simpa using hc
      rw [hb] at h;simp only [Bool.false_eq_true,if_false] at h
      split at h
      · omega
      · rename_i h1
        have hge:=Lib.indexByte_ge s 32;have h2:Lib.indexByte s 32 ≠ -1:=by simpa using h1
        obtain ⟨j,hj⟩:∃ j:Nat,Lib.indexByte s 32=j:=⟨(Lib.indexByte s 32).toNat,by omega⟩;obtain ⟨h3,h4⟩:=Bj3 (cur:=cur++[c]) hj;obtain rfl:i=j + 1:=by omega
        rw [blanks,if_neg hc,h4];simp only [List.length_cons,List.take_succ_cons,List.drop_succ_cons];exact ⟨by omega,by simp⟩
theorem AC0:∀ (n:Nat) (l:Str),l.length≤n→splitL l=blanks l []
  | n,l,hn=>by
    have hge:=Lib.indexByte_ge l 32
    by_cases h:Lib.indexByte l 32 < 0
    · rw [BE1 (by omega),Bb8 h]
      rfl
    · obtain ⟨i,hi⟩:∃ i:Nat,Lib.indexByte l 32=i:=⟨(Lib.indexByte l 32).toNat,by omega⟩
      obtain ⟨hlt,hb⟩:=Bj3 (cur:=[]) hi
      match n,hn with
      | 0,hn=>omega
      | n + 1,hn =>
        rw [BU1 hi,hb,AC0 n _ (by simp only [List.length_drop];omega)];rfl
theorem AG1:∀ (l cur:Str),(blanks l cur).length≤l.length + 1∧0 < (blanks l cur).length∧∀ w∈blanks l cur,w.length≤cur.length + l.length
  | [],cur=>by simp [blanks]
  | c::s,cur=>by
    unfold blanks
    split
    · have ih:=AG1 s []
      simp only [List.length_cons,List.length_nil] at ih ⊢;refine ⟨by omega,by omega,fun w hw=>?_⟩
      rcases List.mem_cons.1 hw with rfl | hw
      · omega
      · have:=ih.2.2 w hw;omega
    · have ih:=AG1 s (cur++[c])
      simp only [List.length_append,List.length_cons,List.length_nil,Nat.zero_add] at ih ⊢;refine ⟨by omega,ih.2.1,fun w hw=>?_⟩
      have:=ih.2.2 w hw;omega
theorem BC9 {s:Str} {l:List Str} (h:wordsX s=some l):l=blanks s []∧∀ w∈l,wordX w=true:=by
  unfold wordsX at h
  split at h
  · rename_i h1
    cases h
    exact ⟨rfl,List.all_eq_true.1 h1⟩
  · cases h
theorem BS1 {s:Str} {l:List Str} (h:l=blanks s []) (hw:∀ w∈l,wordX w=true):wordsX s=some l:=by
  subst h;unfold wordsX;rw [if_pos (List.all_eq_true.2 hw)]
theorem BD0 {s w:Str} (h:w∈blanks s []) (hw:wordX w=false):wordsX s=none:=by
  unfold wordsX;rw [if_neg];intro h1;rw [List.all_eq_true.1 h1 w h] at hw
  cases hw
end Go.Dk
namespace Go.Proofs.YtnmkdiagbkkmaabGreatDoor
open Go Go.Eng Go.Dk Go.RowKit Go.Hp Go.Pw1

abbrev strO (s:Str):Obj:=.cells [.string (bs s)].toArray 9 (0,0)
theorem Bz2 (s:Str) (hs:s.length < 4294967281) (W:World) (hL:Lw Tryz.prog W):Calls Tryz.prog 44 #[.string (bs s),.string (bs [32])] W (News (fun sb:Nat=>.slice (some ⟨sb,0,none⟩) (splitL s).length (splitL s).length) (fun sb=>[(sb,sbO (splitL s) [])]) W):=by
  obtain ⟨m,hm⟩:=hL.mx;refine Af3 (Tryz.strings_Split (bs s) (bs [32]) m W hs hm (by decide)) ?_
  rintro e w' ⟨rfl,rfl⟩
  have hlen:=Lib.splitB_all (bs [32]) (by decide) 0 _ (bs s) rfl;have hl2:(splitL s).length=Lib.countB (bs s) (bs [32]) + 1:=by unfold splitL;rw [List.length_map,hlen]
  refine ⟨W.heap.size,?_,?_⟩
  · show Ending.returned _=Ending.returned (.slice (some ⟨W.heap.size,0,none⟩) (splitL s).length (splitL s).length)
    rw [hl2]
  · have h1:=(Mem.refl W).alloc (.cells ((Lib.splitB (bs [32]) 0 (Lib.countB (bs s) (bs [32])) (bs s)).map Value.string).toArray 9)
    have e:((splitL s).map strC).flatten++[]=(Lib.splitB (bs [32]) 0 (Lib.countB (bs s) (bs [32])) (bs s)).map Value.string:=by
      rw [List.append_nil,← Au3];unfold splitL strsC;rw [List.map_map];rfl
    show Mem W [] [(W.heap.size,sbO (splitL s) [])] _
    unfold sbO;rw [e];exact h1
theorem Bz0 (s:Str) (W:World):Calls Tryz.prog 34 #[.string (bs s)] W (News (fun b:Nat=>.func (.func 68) #[] #[pV b]) (fun b=>[(b,strO s)]) W):=by
  refine Aa0 Tryz.func34 rfl rfl ?_;refine st ?_;refine zn (New.box rfl) (fun b1=>?_)
  exact RunE.ret (chg:=[]) (.r1 rfl (.tmp rfl)) (fun _ hm=>⟨b1,rfl,hm.pick (.cons .here rfl .nil)⟩)
theorem CI6 (s:Str) (hs:s.length≤100000) (lb:Nat) (W0:World) (hL:Lw Tryz.prog W0):SeqQ Tryz.prog 68 #[pV lb] (fun x:Str=>[.string (bs x)]) (fun _=>[]) [(lb,strO s)] dmis (fun xs=>xs=splitL s∧∀ w∈xs,wordX w=true) (fun xs=>xs <+: splitL s) (fun k xs=>k=8∧∃ w,w∈splitL s∧wordX w=false) (s.length + 2) W0:=by
  intro X l U I Ix Ip rest w0 x0 hy i0 hm0;have hbk:=AC0 _ s (Nat.le_refl _);have hbo:=AG1 s [];rw [← hbk] at hbo;simp only [List.length_nil,Nat.zero_add] at hbo;refine AS1 (vs:=[.func (.yield l) #[] #[],pV lb]) (W:=W0) (chg:=[]) (news:=(lb,strO s)::(U x0++(rest++[]))) (hm0.pick (Pick.cnt fun x=>by simp only [List.nil_append,List.cons_append,List.count_append,List.count_cons,List.count_nil];omega)) Tryz.func68 rfl rfl ?_ 8
  refine RunCR.seq ?_;refine RunCR.region ?_;refine Aa6 (Ab6 rfl (.head _) AE3 rfl) rfl rfl rfl ?_;refine BL4 (zF rfl Di5) rfl rfl rfl (fun w hm=>(Bz2 s (by omega) w (hL.mono hm))) (fun b6=>?_)
  refine Aa6 (Al1 rfl Au5) rfl rfl rfl ?_;refine Aa6 (Aa3 rfl) rfl rfl rfl ?_;refine RunLR.nil ?_;refine RunER.next ?_;refine RunCR.block ?_;refine Bc9 (X:=X) (n0:=[(b6,_),(lb,_)]) ((splitL s).length) (fun k y q=>(8,.int .i64 (k:Int))::q) (fun _ _=>_) (fun k y=>[]) (fun k y=>U y++(rest++[])) (fun k y=>I ((splitL s).take k) y∧∀ w∈(splitL s).take k,wordX w=true) x0 ⟨i0,fun w hw=>by cases hw⟩ rfl (zE 8 rfl rfl (zS 0 rfl (zS 1 rfl (zS 6 rfl (zS 7 rfl (Sub.nil _)))))) (.cons .here rfl (.cons .here rfl (Pick.same (by rfl)))) ?_;intro k y kN kI;obtain ⟨kI1,kI2⟩:=kI;refine RunCR.seq ?_;refine RunCR.region ?_;refine Aa6 (Aa3 rfl) rfl rfl rfl ?_;refine RunLR.nil ?_;refine RunER.next ?_;refine RunCR.seq ?_;refine RunCR.cond rfl ?_ ?_
  ·intro c0
   have c0':=c0;clear c0;try simp only [nH] at c0'
   have hk:k < (splitL s).length:=by omega
   obtain ⟨v,hv⟩:∃ v,(splitL s)[k]=v:=⟨_,rfl⟩;refine RunCR.skip ?_;refine RunER.next ?_;refine RunCR.seq ?_;refine RunCR.block ?_;refine RunCR.seq ?_;refine RunCR.region ?_;refine Aa6 (Ab4 rfl rfl Au5 (by omega) (by omega)) rfl rfl rfl ?_;refine Aa6 (Ab0 rfl (fun w hm=>Sl.loadM1 (Sl.rowsR (xs:=(splitL s).map strC) (hm.at (.head _)) (fun x hx=>by obtain ⟨z,_,rfl⟩:=List.mem_map.1 hx;rfl)) (by decide) (Mem.refl w) (by simp) AE3 hk (v:=.string (bs v)) (by simp [strC,hv]))) rfl rfl rfl ?_;refine Aa6 (Aa3 rfl) rfl rfl rfl ?_;refine RunLR.nil ?_;refine RunER.next ?_;refine RunCR.seq ?_;refine RunCR.region ?_;refine Aa6 (Aa3 rfl) rfl rfl rfl ?_;refine Aa6 (Av6 rfl rfl) rfl rfl rfl ?_;refine Aa6 (Aa3 rfl) rfl rfl rfl ?_
   refine AO2 (dj:=14) (dp:=18) 4 rfl (fun g14=>by
     have g14':=g14;try simp only [nH] at g14'
     refine Aa6 (Aa3 rfl) rfl rfl rfl ?_;refine Aq4 (zF rfl Dh3) rfl rfl rfl (fun w hm=>(AK9 v w)) ?_;refine Aa6 (Aa3 rfl) rfl rfl rfl ?_;refine Aa6 (Aa3 rfl) rfl rfl rfl ?_;exact Az3 (Sub.cons rfl (Sub.skip rfl (Sub.skip rfl (Sub.skip rfl (Sub.skip rfl (Ah3 rfl (by rw [g14]) (Ac1 _))))))) (List.Sublist.refl _)
   ) (fun g14=>by
     have g14':=g14;try simp only [nH] at g14'
     iterate 3 refine AV8 rfl rfl rfl ?_
     refine Aa6 (Aa3 rfl) rfl rfl rfl ?_;exact Az3 (Sub.cons rfl (Sub.skip rfl (Sub.skip rfl (Sub.skip rfl (Sub.skip rfl (Ah3 rfl (by rw [g14]) (Ac1 _))))))) (List.Sublist.refl _)
   ) ?_
   refine BL3 (zF rfl Al7) rfl rfl rfl (fun w hm=>Ad8 _ _ w) (fun e19 he19=>?_) (fun v19 hv19=>?_)
   ·obtain ⟨er19,rfl⟩:=Ae0 he19
    have hbad:wordX v=false:=by (unfold wordX;simpa using er19)
    refine Aa5 ?_;refine Ad6 ?_;refine Aa5 ?_;refine Aa5 ?_;refine Ad6 ?_;exact fun _ w s0=>⟨s0.defers,y,s0.mem.pick (Pick.cnt fun x=>by simp only [nC];omega),.inr (.inr ⟨8,(splitL s).take k,rfl,⟨rfl,v,hv ▸ List.getElem_mem hk,hbad⟩,kI1⟩)⟩
   obtain ⟨ok19,rfl⟩:=Ae7 hv19;have hgood:wordX v=true:=by (unfold wordX;simpa using ok19)
   refine RunLR.nil ?_;refine RunER.next ?_;refine RunCR.seq ?_;refine RunCR.region ?_;refine Aa6 (Aa3 rfl) rfl rfl rfl ?_;refine Aa6 (Aa3 rfl) rfl rfl rfl ?_;refine AG3 (Ak0 rfl rfl) rfl rfl rfl (fun w hm=>(Bl6 (α:=Str) (encs:=fun x=>[.string (bs x)]) (eb:=fun _=>[]) (U:=U) (I:=I) (Ix:=Ix) (Ip:=Ip) (pre:=(splitL s).take k) (v:=v) (N':=fun x=>(b6,sbO (splitL s) [])::(lb,strO s)::(U x++(rest++[]))) (tl:=(b6,sbO (splitL s) [])::(lb,strO s)::rest) (fun x=>(Pick.cnt fun x=>by simp only [nC];omega)) (hy ((splitL s).take k) v y ((b6,sbO (splitL s) [])::(lb,strO s)::rest) w kI1 (by rw [← hv,← List.take_succ_eq_append_getElem hk];exact List.take_prefix _ _) (by rw [List.length_take];omega) ((show Mem W0 [] ((b6,sbO (splitL s) [])::(lb,strO s)::(U y++(rest++[]))) w from hm).pick (Pick.cnt fun x=>by simp only [nC];omega))))) (fun p22 hp22=>?_) (fun z22 hz22=>?_)
   ·refine Aa5 ?_
    refine Ad6 ?_;refine Aa5 ?_;refine Aa5 ?_;refine Ad6 ?_;exact fun _ w s0=>⟨s0.defers,p22.2,s0.mem.pick (Pick.cnt fun x=>by simp only [nC];omega),.inr (.inl ⟨p22.1,rfl,hp22⟩)⟩
   refine Aa6 (Aa3 rfl) rfl rfl rfl ?_;refine RunLR.nil ?_;refine RunER.next ?_;refine RunCR.cond rfl ?_ ?_
   ·intro c1
    have c1':=c1;clear c1;try simp only [nH] at c1'
    have hno:Ix z22.2:=hz22.elim (fun h=>absurd (h.1.symm.trans c1') (by decide)) (fun h=>h.2);refine RunCR.ret ?_;refine su ?_;exact RunE.ret (chg:=[]) (.r0 rfl) (fun _ hm=>⟨z22.2,hm.pick (Pick.cnt fun x=>by simp only [nC];omega),.inl ⟨_,rfl,.inr hno⟩⟩)
   intro c1;have c1':=c1;clear c1;try simp only [nH] at c1'
   have hyes:=hz22.resolve_right (fun h=>absurd (h.1.symm.trans c1') (by decide));refine RunCR.skip ?_;refine st ?_;refine RunER.next ?_;refine RunCR.region ?_;refine Aa6 (Val.add rfl rfl (IntWalk.i64_in _ ⟨by omega,by omega⟩)) rfl rfl rfl ?_;refine Aa6 (Aa3 rfl) rfl rfl rfl ?_;refine RunLR.nil ?_;exact Ad5 z22.2 (by omega) ⟨by rw [List.take_succ_eq_append_getElem hk,hv];exact hyes.2,fun w hw=>by rw [List.take_succ_eq_append_getElem hk,hv] at hw;rcases List.mem_append.1 hw with hw | hw;exact kI2 w hw;simp only [List.mem_singleton] at hw;subst hw;exact hgood⟩ rfl (zE 8 rfl rfl (zS 0 rfl (zS 1 rfl (zS 6 rfl (zS 7 rfl (Sub.nil _)))))) (.cons .here rfl (.cons .here rfl (Pick.refl _)))
  intro c0;have c0':=c0;clear c0;try simp only [nH] at c0'
  have hk:k=(splitL s).length:=by omega
  refine RunCR.exit ?_;refine su ?_;refine Ab1 ?_;exact AO4 (chg:=[]) (.r0 rfl) (fun _ hm=>⟨y,hm.pick (Pick.cnt fun x=>by simp only [nC];omega),.inl ⟨_,rfl,.inl ⟨splitL s,⟨rfl,fun w hw=>kI2 w (by rw [hk,List.take_length];exact hw)⟩,by rw [hk,List.take_length] at kI1;exact kI1⟩⟩⟩)
abbrev stB (z:Eng.Own×List Str):Blks:=ownB 9 z.1 (z.2.map strC).flatten
abbrev stBO (z:Eng.Own×List Str):Obj:=.cells [ownV z.1 z.2.length].toArray 29 (0,0)
set_option maxHeartbeats 1000000 in
theorem Bc0 (s:Str) (lb:Nat) (rest:Blks) (W0 w0:World) (hL:Lw Tryz.prog W0) (hsl:s.length≤100000) (hm0:Mem W0 [] ((lb,strO s)::(rest++[])) w0) :
    Calls Tryz.prog 67 #[.slice none 0 0,.func (.func 68) #[] #[pV lb]] w0 (GrowT W0 [] (fun z:Eng.Own×List Str=>ownV z.1 z.2.length) (fun z=>stB z++(rest++[])) (fun z=>OwnOk 1 z.1 z.2.length (z.2.map strC).flatten∧wordsX s=some z.2) dmis (fun _:Unit=>8) (fun _=>rest++[]) (fun _=>wordsX s=none)):=by
  have hbk:=AC0 _ s (Nat.le_refl _);have hbo:=AG1 s [];rw [← hbk] at hbo;simp only [List.length_nil,Nat.zero_add] at hbo;refine AD7 hm0 Tryz.func67 rfl rfl ?_;refine RunCF.seq ?_;refine Ak4 ?_;refine st ?_;refine zn (New.box rfl) (fun b2=>?_)
  refine RunEF.next ?_;refine RunCF.seq ?_;refine RunCF.seq ?_;refine Ak4 ?_;refine st ?_;refine RunEF.next ?_;refine RunCF.block ?_;refine RunCF.range Tryz.func67 (α:=Str) (X:=Eng.Own×List Str) (enc:=fun x=>.string (bs x)) (eb:=fun _=>[]) (itb:=[(lb,strO s)]) (mis:=dmis) (S:=fun xs=>xs=splitL s∧∀ w∈xs,wordX w=true) (Sp:=fun xs=>xs <+: splitL s) (Sq:=fun k xs=>k=8∧∃ w,w∈splitL s∧wordX w=false) (N:=s.length + 2) (fun x=>(b2,stBO x)::stB x) (fun pre x=>x.2=pre∧OwnOk 1 x.1 x.2.length (x.2.map strC).flatten) (fun _ _=>False) (fun _ _=>False) (none,[]) ⟨rfl,OwnOk.start⟩ (rest++[]) (.cons .here rfl (.cons .here rfl (Pick.cnt fun x=>by simp only [nC,List.map_append,List.flatten_append,List.map_cons,List.map_nil,List.flatten_cons,List.flatten_nil,List.append_nil,List.length_append,List.length_singleton,List.set_cons_zero,markB,dfrO,stB,stBO];omega))) rfl Dh4 (CI6 s hsl lb W0 hL) rfl rfl (fun _=>rfl) rfl rfl rfl ?_ ?_ ?_ ?_ ?_
  ·intro l D ob pre v x tl hI hsp hlen
   obtain ⟨xo,xl⟩:=x;obtain ⟨rfl,hx⟩:=hI;dsimp only at hx hsp hlen ⊢;have hxl:xl.length≤100000:=by (have:=hsp.length_le;simp only [List.length_append,List.length_singleton] at this;omega)
   have hxl2:(xo,xl).2.length≤100000:=hxl;refine Bk5 (Ac1 _) (news':=(l,ob)::(D,dfrO)::(b2,stBO (xo,xl))::(stB (xo,xl)++(tl++[]))) (Pick.cnt fun x=>by simp only [nC,List.map_append,List.flatten_append,List.map_cons,List.map_nil,List.flatten_cons,List.flatten_nil,List.append_nil,List.length_append,List.length_singleton,List.set_cons_zero,markB,dfrO,stB,stBO];omega) ?_;refine RunCR.block ?_;refine Ac3 ?_;refine su ?_;refine zn (New.buildSlice (parts:=[(0,.tmp 9)]) rfl Au5 AL1 rfl rfl rfl rfl) (fun b10=>?_)
   refine RunL.append (A:=[(b10,_),(l,_),(D,_),(b2,_)]) (B:=_) (x:=xo) (ys:=strC v) Cu8 rfl rfl rfl hx rfl (fun h=>by cases h) (fun w hm=>An1 (hm.at (.head _))) (Ar6 rfl) (by simp only [maxLen];omega) (by omega) rfl (fun z11 hz11=>?_)
   refine Aa9 (As7 rfl rfl (.there (.there (.there .here))) Cz5 rfl rfl) rfl rfl ?_;refine st ?_;exact AQ7 (z11,xl++[v]) ⟨rfl,by have h:=hz11;simp only [List.map_append,List.flatten_append,List.length_append,List.length_singleton];simpa using h⟩ (Pick.cnt fun x=>by simp only [nC,List.map_append,List.flatten_append,List.map_cons,List.map_nil,List.flatten_cons,List.flatten_nil,List.append_nil,List.length_append,List.length_singleton,List.set_cons_zero,markB,dfrO,stB,stBO];omega)
  ·intro D xs x hS hI
   obtain ⟨xo,xl⟩:=x;obtain ⟨rfl,hx⟩:=hI;obtain ⟨rfl,AT4⟩:=hS;refine Aj8 (Ac1 _) (news':=(D,dfrO)::(b2,stBO (xo,splitL s))::(stB (xo,splitL s)++(rest++[]))) (Pick.cnt fun x=>by simp only [nC,List.map_append,List.flatten_append,List.map_cons,List.map_nil,List.flatten_cons,List.flatten_nil,List.append_nil,List.length_append,List.length_singleton,List.set_cons_zero,markB,dfrO,stB,stBO];omega) ?_;refine st ?_;refine RunEF.next ?_;refine RunCF.seq ?_;refine Ak4 ?_;refine su ?_;refine RunEF.next ?_;refine Ak4 ?_;refine RunC.ret ?_;exact Ap4 (news2:=stB (xo,splitL s)++(rest++[])) [D] (Pick.cnt fun x=>by simp only [nC,List.map_append,List.flatten_append,List.map_cons,List.map_nil,List.flatten_cons,List.flatten_nil,List.append_nil,List.length_append,List.length_singleton,List.set_cons_zero,markB,dfrO,stB,stBO];omega) (.r1 rfl (.tmp rfl)) (fun w hm=>.inl ⟨(xo,splitL s),⟨hx,BS1 hbk AT4⟩,rfl,hm.pick (Pick.cnt fun x=>by simp only [nC,List.map_append,List.flatten_append,List.map_cons,List.map_nil,List.flatten_cons,List.flatten_nil,List.append_nil,List.length_append,List.length_singleton,List.set_cons_zero,markB,dfrO,stB,stBO];omega)⟩)
  ·intro D c x hst
   exact hst.elim
  ·intro D c x hp
   exact hp.elim
  intro D k xs x hq hI;obtain ⟨rfl,w,hw1,hw2⟩:=hq;refine Ad6 ?_;refine Aa5 ?_;exact Ca6 (news2:=rest++[]) [D] (Pick.cnt fun x=>by simp only [nC,List.map_append,List.flatten_append,List.map_cons,List.map_nil,List.flatten_cons,List.flatten_nil,List.append_nil,List.length_append,List.length_singleton,List.set_cons_zero,markB,dfrO,stB,stBO];omega) (fun w0 hm=>.inr ⟨(),BD0 (hbk ▸ hw1) hw2,rfl,hm.pick (Pick.cnt fun x=>by simp only [nC,List.map_append,List.flatten_append,List.map_cons,List.map_nil,List.flatten_cons,List.flatten_nil,List.append_nil,List.length_append,List.length_singleton,List.set_cons_zero,markB,dfrO,stB,stBO];omega)⟩)
theorem Bq2 (s:Str) (lb:Nat) (rest:Blks) (W0 w0:World) (hL:Lw Tryz.prog W0) (hsl:s.length≤100000) (hm0:Mem W0 [] ((lb,strO s)::(rest++[])) w0) :
    Calls Tryz.prog 33 #[.func (.func 68) #[] #[pV lb]] w0 (GrowT W0 [] (fun z:Eng.Own×List Str=>ownV z.1 z.2.length) (fun z=>stB z++(rest++[])) (fun z=>OwnOk 1 z.1 z.2.length (z.2.map strC).flatten∧wordsX s=some z.2) dmis (fun _:Unit=>8) (fun _=>rest++[]) (fun _=>wordsX s=none)):=by
  refine Af7 hm0 Tryz.func33 rfl rfl ?_;refine st ?_;refine Ax3 (zF rfl Dh5) rfl rfl rfl (fun w hm=>(Bc0 s lb rest W0 w hL hsl hm)) (fun p4 hp4=>?_) (fun z4 hz4=>?_)
  ·refine Aa5 ?_
   exact Ae4 () hp4 rfl (Pick.refl _)
  refine su ?_;exact Am8 z4 hz4 (.r1 rfl (.tmp rfl)) rfl (Pick.refl _)
end Go.Proofs.YtnmkdiagbkkmaabGreatDoor
namespace Go.Proofs.YtnmkdiagbkkmaabGreatDoor
open Go Go.Eng
theorem CZ2:Enters Tryz.prog 105:=Aa1 Tryz.func105 (by kernel_rfl) rfl
theorem Ao7:slB Tryz.prog 174=some (20,1):=by kernel_rfl
instance:Slc Tryz.prog 174 20 1:=⟨Ao7⟩
theorem Dc1:tyB Tryz.prog 20=some (false,1):=by kernel_rfl
instance:Tyc Tryz.prog 20 false 1:=⟨Dc1⟩
end Go.Proofs.YtnmkdiagbkkmaabGreatDoor
namespace Go.Dk
open Go Go.Eng Go.RowKit Go.Pw1 Go.Hp
theorem CR6 {sz n:Nat} {x:Eng.Own} {xs:List Value} (h:OwnOk sz x n xs):n≤ownC x:=by
  match x,h with
  | none,h=>rw [h.nil rfl];exact Nat.zero_le _
  | some (b,c,r),h=>exact (h.cap b c r rfl).1
inductive Prt
  | s (x:Str)
  | n (x:Int)
  | sp (a b:Int)
def Prt.v:Prt→Value
  | .s x=>.iface 9 (.string (bs x))
  | .n x=>.iface 3 (.int .i64 x)
  | .sp a b=>.iface 23 (.agg #[.int .i64 a,.int .i64 b])
def Prt.words:Prt→List Str
  | .s x=>[x]
  | .n x=>[Lib.itoa x]
  | .sp a b=>[Lib.itoa a,Lib.itoa b]
def In64 (n:Int):Prop:=-9223372036854775808≤n∧n≤9223372036854775807
def Prt.ok:Prt→Prop
  | .s x=>x.length≤40
  | .n x=>In64 x
  | .sp a b=>In64 a∧In64 b
def Prt.isS:Prt→Bool
  | .s _=>true
  | _=>false
def Prt.asS:Prt→Value
  | .s x=>.string (bs x)
  | _=>.string ⟨#[]⟩
def Prt.isN:Prt→Bool
  | .n _=>true
  | _=>false
def Prt.asN:Prt→Value
  | .n x=>.int .i64 x
  | _=>.int .i64 0
def Prt.isSp:Prt→Bool
  | .sp _ _=>true
  | _=>false
def Prt.asSp:Prt→Value
  | .sp a b=>.agg #[.int .i64 a,.int .i64 b]
  | _=>.agg #[.int .i64 0,.int .i64 0]
theorem Prt.ofS {p:Prt} (h:p.isS=true):∃ x,p = .s x:=by cases p <;> first | exact ⟨_,rfl⟩ | cases h
theorem Prt.ofN {p:Prt} (h:p.isN=true):∃ x,p = .n x:=by cases p <;> first | exact ⟨_,rfl⟩ | cases h
theorem Prt.ofSp {p:Prt} (h:p.isSp=true):∃ a b,p = .sp a b:=by cases p <;> first | exact ⟨_,_,rfl⟩ | cases h
theorem Prt.no {p:Prt} (h1:p.isS=false) (h2:p.isN=false) (h3:p.isSp=false):False:=by cases p <;> simp_all [Prt.isS,Prt.isN,Prt.isSp]
def stV (l:List Str):List Value:=(l.map strC).flatten
theorem Aw5 (l m:List Str):stV (l++m)=stV l++stV m:=by simp [stV]
def wsK (ps:List Prt) (k:Nat):List Str:=((ps.take k).map Prt.words).flatten
theorem Ap7 {ps:List Prt} {k:Nat} (hk:k < ps.length) {p:Prt} (hp:ps[k]=p):wsK ps (k + 1)=wsK ps k++p.words:=by
  unfold wsK;rw [List.take_succ_eq_append_getElem hk,List.map_append,List.flatten_append,hp];simp
theorem Da6 (ps:List Prt) (k j:Nat):(wsK ps k).length≤(wsK ps (k + j)).length:=by
  unfold wsK;have h:ps.take (k + j)=ps.take k++(ps.drop k).take j:=List.take_add;rw [h,List.map_append,List.flatten_append,List.length_append];omega
theorem BC8 (ps:List Prt):wsK ps ps.length=(ps.map Prt.words).flatten:=by unfold wsK;rw [List.take_length]
theorem Da7 {ps:List Prt} {k:Nat} (hk:k < ps.length) {p:Prt} (hp:ps[k]=p) {N:Nat} (h:((ps.map Prt.words).flatten).length≤N):(wsK ps k).length + p.words.length≤N:=by
  have h1:=Da6 ps (k + 1) (ps.length - (k + 1));rw [show k + 1 + (ps.length - (k + 1))=ps.length by omega,BC8,Ap7 hk hp,List.length_append] at h1;omega
theorem AI1 {n:Int} (h:In64 n):(Lib.itoa n).length≤20:=by
  have key:∀ (m u:Nat),u < 10 ^ (m + 1)→(Lib.decDigits u).length≤m + 1:=by
    intro m
    induction m with
    | zero=>intro u hu;unfold Lib.decDigits;rw [dif_pos (by omega)];simp
    | succ m ih =>
      intro u hu;unfold Lib.decDigits
      split
      · simp
      · rw [List.length_append]
        have:=ih (u / 10) (by rw [Nat.pow_succ] at hu;omega)
        simp only [List.length_singleton];omega
  unfold Lib.itoa;obtain ⟨h1,h2⟩:=h
  split
  · rw [List.length_cons]
    have:=key 18 n.natAbs (by omega)
    omega
  · have:=key 18 n.toNat (by omega)
    omega
theorem Cb7 {p:Prt} (h:p.ok):∀ x∈p.words,x.length≤50:=by
  cases p with
  | s x=>intro y hy;simp only [Prt.words,List.mem_singleton] at hy;subst hy;have h9:y.length≤40:=h;omega
  | n x=>intro y hy;simp only [Prt.words,List.mem_singleton] at hy;subst hy;exact Nat.le_trans (AI1 h) (by decide)
  | sp a b =>
    intro y hy;simp only [Prt.words,List.mem_cons,List.not_mem_nil,or_false] at hy
    rcases hy with rfl | rfl
    · exact Nat.le_trans (AI1 h.1) (by decide)
    · exact Nat.le_trans (AI1 h.2) (by decide)
theorem Cm5 {sep:Str} {m:Nat}:∀ {xs:List Str},(∀ x∈xs,x.length≤m)→(Lib.join xs sep).length≤xs.length * (m + sep.length)
  | [],_=>by simp [Lib.join,List.intercalate]
  | [x],h=>by
    rw [Lib.join_one]
    have:=h x (by simp)
    simp only [List.length_singleton,Nat.one_mul];omega
  | x::y::xs,h=>by
    have ih:=Cm5 (sep:=sep) (xs:=y::xs) (fun z hz=>h z (by simp [hz]));have h1:=h x (by simp);have e:Lib.join (x::y::xs) sep=x++(sep++Lib.join (y::xs) sep):=by simp [Lib.join,List.intercalate]
    rw [e,List.length_append,List.length_append,List.length_cons,Nat.add_mul,Nat.one_mul];omega
theorem AZ4 (x:Str):∀ (l:List Str),Lib.join (x::l) [32]=x++(l.map fun y=>32::y).flatten
  | []=>by rw [Lib.join_one];simp
  | y::l=>by
    have e:Lib.join (x::y::l) [32]=x++([32]++Lib.join (y::l) [32]):=by simp [Lib.join,List.intercalate]
    rw [e,AZ4 y l];simp
theorem Am4 (w:Str) (l:List Int):Lib.join (w::l.map Lib.itoa) [32]=sayX w l:=by
  rw [AZ4,sayX,List.map_map];rfl
section
variable {P:Program} {n:Nat} {r:Regs} {W:World} {chg news:Blks} {ty:TypeId} {pos:String} {after:Array Edge} {dst:Option Tmp} {gd:Option (Nat×Bool)}
theorem BE9 {x:Operand} {T t:TypeId} {p:Prt} {z v:Value} {b:Bool} (hx:rev r x=some p.v) (hi:(P.underlying t).any (fun t=>match t with | .interface _=>false | _=>true)=true) (hz:zeroV P t=some z)
    (h1:b=true→p.v = .iface t v) (h2:b=false→v=z∧∃ t' u,p.v = .iface t' u∧Nat.beq t' t=false) :
    Val P r W chg news { dst,op:=.typeAssert x T t true,type:=ty,pos,after,guard:=gd } (.tuple #[v,.bool b]):=by
  cases b with
  | true=>exact Av2 (by rw [hx,h1 rfl]) hi
  | false =>
    obtain ⟨rfl,t',u,h3,h4⟩:=h2 rfl;exact Bs0 (by rw [hx,h3]) hi h4 hz
end
end Go.Dk
namespace Go.Proofs.YtnmkdiagbkkmaabGreatDoor
open Go Go.Eng Go.Dk Go.RowKit Go.Pw1 Go.Hp

section
variable {n:Nat} {r:Regs} {W:World} {chg news:Blks} {ty:TypeId} {pos:String} {after:Array Edge} {dst:Option Tmp} {gd:Option (Nat×Bool)} {x:Operand} {T:TypeId} {p:Prt}
theorem Dd5 (hx:rev r x=some p.v):Val Tryz.prog r W chg news { dst,op:=.typeAssert x T 9 true,type:=ty,pos,after,guard:=gd } (.tuple #[p.asS,.bool p.isS]) :=
  BE9 hx (by kernel_rfl) (z:=.string ⟨#[]⟩) (by kernel_rfl) (fun h=>by obtain ⟨x,rfl⟩:=Prt.ofS h;rfl) (fun h=>by cases p <;> first | exact ⟨rfl,_,_,rfl,rfl⟩ | cases h)
theorem Dd6 (hx:rev r x=some p.v):Val Tryz.prog r W chg news { dst,op:=.typeAssert x T 3 true,type:=ty,pos,after,guard:=gd } (.tuple #[p.asN,.bool p.isN]) :=
  BE9 hx (by kernel_rfl) (z:=.int .i64 0) (by kernel_rfl) (fun h=>by obtain ⟨x,rfl⟩:=Prt.ofN h;rfl) (fun h=>by cases p <;> first | exact ⟨rfl,_,_,rfl,rfl⟩ | cases h)
theorem CR4 (hx:rev r x=some p.v):Val Tryz.prog r W chg news { dst,op:=.typeAssert x T 23 true,type:=ty,pos,after,guard:=gd } (.tuple #[p.asSp,.bool p.isSp]) :=
  BE9 hx (by kernel_rfl) (z:=.agg #[.int .i64 0,.int .i64 0]) (by kernel_rfl) (fun h=>by obtain ⟨a,b,rfl⟩:=Prt.ofSp h;rfl) (fun h=>by cases p <;> first | exact ⟨rfl,_,_,rfl,rfl⟩ | cases h)
end
set_option maxHeartbeats 1000000 in
theorem Bg3 (ps:List Prt) (q:Option Addr) (b o c:Nat) (W:World) (hL:Lw Tryz.prog W) (hS:Sl W q b o 1 (ps.map fun p=>[p.v])) (hps:ps.length≤100) (hok:∀ p∈ps,p.ok) (hN:((ps.map Prt.words).flatten).length≤20000) :
    Calls Tryz.prog 53 #[.slice q ps.length c] W (Pure (.string (bs (Lib.join (ps.map Prt.words).flatten [32]))) W):=by
  refine Aa0 Tryz.func53 rfl rfl ?_;refine su ?_;refine Ah4 (X:=Eng.Own) (n0:=[]) (ps.length) (fun k x q=>(11,.int .i64 (k:Int))::(3,ownV x (wsK ps k).length)::q) (fun _ _=>_) (fun k x=>[]) (fun k x=>ownB 9 x (stV (wsK ps k))++[]) (fun k x=>OwnOk 1 x (wsK ps k).length (stV (wsK ps k))) none OwnOk.start rfl (zE 11 rfl rfl (zE 3 rfl rfl (zS 9 rfl (zS 10 rfl (Sub.nil _))))) (Pick.same rfl) ?_;intro k x kN kI;have hx1:=kI;refine st ?_;refine cn rfl ?_ ?_
  ·intro c0'
   have hk:k < ps.length:=by omega
   obtain ⟨p,hp⟩:∃ p,ps[k]=p:=⟨_,rfl⟩;have hpo:=hok p (hp ▸ List.getElem_mem hk);have hbd:=Da7 hk hp hN;refine st ?_;refine lv (Aa8 rfl rfl Ao7 (by omega) (by omega) (hS.ptrM hk)) ?_;refine lv (Ab0 rfl (fun w hm=>hS.loadM1 (by decide) hm (by simp) Dc1 hk (v:=p.v) (by simp [hp]))) ?_;refine lv (Dd5 rfl) ?_;refine cn rfl ?_ ?_
   ·intro c1'
    obtain ⟨x2,rfl⟩:=Prt.ofS c1';have hw1:(Prt.s x2).words.length=1:=rfl;refine st ?_;refine zn (New.buildSlice (parts:=[(0,.tmp 20)]) rfl Au5 AL1 rfl rfl rfl rfl) (fun b21=>?_)
    refine RunL.append (A:=[(b21,_)]) (B:=_) (x:=x) (ys:=stV (Prt.s x2).words) Cu8 rfl rfl rfl hx1 rfl (fun h=>by cases h) (fun w hm=>An1 (hm.at (.head _))) (Ar6 rfl) (by simp only [maxLen];omega) (by omega) rfl (fun z22 hz22=>?_)
    refine st ?_;refine lv (Val.add rfl rfl (IntWalk.i64_in _ ⟨by omega,by omega⟩)) ?_;exact Ad5 z22 (by omega) (by rw [Ap7 hk hp,Aw5,List.length_append];exact hz22) rfl (zE 11 rfl rfl (zE 3 rfl (by first | (rw [Ap7 hk hp];simp only [List.length_append];rfl) | (simp only [Ap7 hk hp,List.length_append,hw1]) | (rw [Ap7 hk hp];rfl) | exact (Prt.no q1 q2 c3').elim) (zS 9 rfl (zS 10 rfl (Sub.nil _))))) (Pick.skip (Pick.same (by first | (rw [Ap7 hk hp,Aw5];rfl) | (rw [Ap7 hk hp,Aw5] <;> rfl) | (rw [Ap7 hk hp];rfl) | exact (Prt.no q1 q2 c3').elim)))
   intro c1';have q1:p.isS=false:=c1';refine st ?_;refine lv (Dd6 rfl) ?_;refine cn rfl ?_ ?_
   ·intro c2'
    obtain ⟨x2,rfl⟩:=Prt.ofN c2';have hw1:(Prt.n x2).words.length=1:=rfl;refine st ?_;refine zc (zF rfl By9) (fun w hm=>AD4 x2 hpo w (hL.mono hm)) ?_;refine zn (New.buildSlice (parts:=[(0,.tmp 28)]) rfl Au5 AL1 rfl rfl rfl rfl) (fun b29=>?_)
    refine RunL.append (A:=[(b29,_)]) (B:=_) (x:=x) (ys:=stV (Prt.n x2).words) Cu8 rfl rfl rfl hx1 rfl (fun h=>by cases h) (fun w hm=>An1 (hm.at (.head _))) (Ar6 rfl) (by simp only [maxLen];omega) (by omega) rfl (fun z30 hz30=>?_)
    refine st ?_;refine lv (Val.add rfl rfl (IntWalk.i64_in _ ⟨by omega,by omega⟩)) ?_;exact Ad5 z30 (by omega) (by rw [Ap7 hk hp,Aw5,List.length_append];exact hz30) rfl (zE 11 rfl rfl (zE 3 rfl (by first | (rw [Ap7 hk hp];simp only [List.length_append];rfl) | (simp only [Ap7 hk hp,List.length_append,hw1]) | (rw [Ap7 hk hp];rfl) | exact (Prt.no q1 q2 c3').elim) (zS 9 rfl (zS 10 rfl (Sub.nil _))))) (Pick.skip (Pick.same (by first | (rw [Ap7 hk hp,Aw5];rfl) | (rw [Ap7 hk hp,Aw5] <;> rfl) | (rw [Ap7 hk hp];rfl) | exact (Prt.no q1 q2 c3').elim)))
   intro c2';have q2:p.isN=false:=c2';refine st ?_;refine lv (CR4 rfl) ?_;refine cn rfl ?_ ?_
   ·intro c3'
    obtain ⟨xa,xb,rfl⟩:=Prt.ofSp c3';have hw1:(Prt.sp xa xb).words.length=2:=rfl;refine st ?_;refine zn (New.alloc Ae2) (fun b8=>?_)
    refine Aa9 (Sto.store rfl rfl .here Ag5 rfl rfl) rfl rfl ?_;refine st ?_;refine Ao6 (X:=Eng.Own) 8 (n0:=[]) (fun z q=>(3,ownV z ((wsK ps k).length + 2))::q) (fun z=>[]) (fun z=>[]) (fun z=>ownB 9 z (stV (wsK ps k)++stV (Prt.sp xa xb).words)++[]) (fun z=>OwnOk 1 z ((wsK ps k).length + 2) (stV (wsK ps k)++stV (Prt.sp xa xb).words)) Aj3 (.cons .here rfl .nil) (zS 9 rfl (zS 10 rfl (zS 11 rfl (Sub.nil _)))) .nil ?_ ?_
    ·refine zw 0 ?_
     refine zw 1 ?_;refine zw 2 ?_;refine zw 4 ?_;refine zw 5 ?_;refine zA 3 ?_;refine Ab5 rfl (zF rfl By9) rfl rfl rfl (fun w hm=>AD4 xa hpo.1 w (hL.mono hm)) (Aa7 (.cons .here rfl .nil) (.cons .here rfl .nil) rfl ?_)
     refine zA 6 ?_;refine Ab5 rfl (zF rfl By9) rfl rfl rfl (fun w hm=>AD4 xb hpo.2 w (hL.mono hm)) (Aa7 (.cons .here rfl .nil) (.cons .here rfl .nil) rfl ?_)
     refine zA 7 ?_;refine Ac6 rfl (New.buildSlice (parts:=[(0,.tmp 37),(1,.tmp 40)]) rfl Au5 AL1 rfl rfl rfl rfl) rfl rfl rfl (fun b41=>(Aa7 (.cons .here rfl (.cons .here rfl .nil)) (.cons (.there .here) rfl .nil) rfl ?_))
     refine zt ?_;refine zB 8 ?_;refine RunI.append (A:=[(b41,_),(b8,_)]) (B:=_) (x:=x) (ys:=stV (Prt.sp xa xb).words) rfl Cu8 rfl rfl rfl hx1 rfl (fun h=>by cases h) (fun w hm=>An1 (hm.at (.head _))) (Ar6 rfl) (by simp only [maxLen];omega) (by omega) rfl (fun z42 hz42=>(Ab9 ?_))
     refine zp 9 ?_;refine zd ?_;exact Ai5 z42 hz42 rfl (zE 3 rfl rfl (zS 9 rfl (zS 10 rfl (zS 11 rfl (Sub.nil _))))) (Pick.skip (Pick.skip (Pick.same rfl)))
    intro z zI;refine st ?_;refine lv (Val.add rfl rfl (IntWalk.i64_in _ ⟨by omega,by omega⟩)) ?_;exact Ad5 z (by omega) (by rw [Ap7 hk hp,Aw5,List.length_append];exact zI) rfl (zE 11 rfl rfl (zE 3 rfl (by first | (rw [Ap7 hk hp];simp only [List.length_append];rfl) | (simp only [Ap7 hk hp,List.length_append,hw1]) | (rw [Ap7 hk hp];rfl) | exact (Prt.no q1 q2 c3').elim) (zS 9 rfl (zS 10 rfl (Sub.nil _))))) (Pick.same (by first | (rw [Ap7 hk hp,Aw5];rfl) | (rw [Ap7 hk hp,Aw5] <;> rfl) | (rw [Ap7 hk hp];rfl) | exact (Prt.no q1 q2 c3').elim))
   intro c3';refine st ?_;refine lv (Val.add rfl rfl (IntWalk.i64_in _ ⟨by omega,by omega⟩)) ?_;exact Ad5 x (by omega) (by exact (Prt.no q1 q2 c3').elim) rfl (zE 11 rfl rfl (zE 3 rfl (by first | (rw [Ap7 hk hp];simp only [List.length_append];rfl) | (simp only [Ap7 hk hp,List.length_append,hw1]) | (rw [Ap7 hk hp];rfl) | exact (Prt.no q1 q2 c3').elim) (zS 9 rfl (zS 10 rfl (Sub.nil _))))) (Pick.same (by first | (rw [Ap7 hk hp,Aw5];rfl) | (rw [Ap7 hk hp,Aw5] <;> rfl) | (rw [Ap7 hk hp];rfl) | exact (Prt.no q1 q2 c3').elim))
  intro c0';obtain rfl:k=ps.length:=by omega
  rw [BC8] at hx1;simp only [BC8];have hcap:((ps.map Prt.words).flatten).length≤ownC x:=CR6 hx1;have hjl:=Cm5 (sep:=[32]) (m:=50) (xs:=(ps.map Prt.words).flatten) (fun y hy=>by obtain ⟨ws,h1,h2⟩:=List.mem_flatten.1 hy;obtain ⟨p,h3,rfl⟩:=List.mem_map.1 h1;exact Cb7 (hok p h3) y h2);simp only [List.length_singleton] at hjl;refine RunC.exit ?_;refine su ?_;refine Ab1 ?_;refine st ?_;refine zc (zF rfl CZ2) (fun w hm=>(by rw [Ad9 hx1];exact BX4 (ownQ x) (ownK x) 0 (ownC x) ((ps.map Prt.words).flatten) [32] w (Ar5 (f:=strC) (fun _=>rfl) (by decide) hx1 (fun b o h=>hm.at (by simp only [List.nil_append,List.append_nil];exact h))) (by omega) hcap (by omega))) ?_;exact Aa4 (.r1 rfl (.tmp rfl)) (by first | rfl | simp)
end Go.Proofs.YtnmkdiagbkkmaabGreatDoor
namespace Go.Dk
open Go Go.Eng Go.RowKit Go.Pw1 Go.Hp
/-! ## What is told is a number -/
theorem Ag8:In64 0:=⟨by decide,by decide⟩
theorem CK8 (p:Pr) (n:Int):In64 (whyX p n).1:=by
  unfold whyX
  split
  · exact Ag8
  · rename_i w hw
    unfold whyS;dsimp only
    split
    · exact Ag8
    · have h1:=Bn8 id [!levelS p (thingAt p n),decide ((shift (thingAt p n)).2 < 0),decide (2000 < (shift (thingAt p n)).1∨w.2 < (shift (thingAt p n)).1 * p.near),true]
      have h2:=CF2 id [!levelS p (thingAt p n),decide ((shift (thingAt p n)).2 < 0),decide (2000 < (shift (thingAt p n)).1∨w.2 < (shift (thingAt p n)).1 * p.near),true];simp only [List.length_cons,List.length_nil] at h1;unfold In64;omega
theorem Bm7 (p:Pr):In64 (powerX p).1.1∧In64 (powerX p).1.2:=by
  unfold powerX
  split
  · exact ⟨Ag8,Ag8⟩
  · rename_i w hw
    have:=Aw4 hw
    unfold In64;dsimp only;omega
theorem BJ5 (p:Pr) (n:Int):In64 (distX p n).1.1∧In64 (distX p n).1.2:=by
  unfold distX
  split
  · exact ⟨Ag8,Ag8⟩
  · rename_i w hw
    obtain ⟨hp,ho,hw1,hw2,hw3⟩:=Aw4 hw;obtain ⟨k,rfl,hk⟩:=AM2 ho (List.mem_singleton.2 rfl);dsimp only;have hn1:=hp.n1;have hn2:=hp.n2;have hn3:=hp.n3
    split
    · rename_i hst
      split
      · rename_i hf
        have ht:=(hp.ths _ (List.getElem_mem hk)).2;rw [Af2 hk rfl] at hf ⊢;unfold In64;dsimp only;omega
      · have hsh:=AU5 (Bt1 hst).1
        have h1:0≤w.1 / ((shownS (thingAt p k)).2 + 1):=Int.ediv_nonneg (by omega) (by omega);have h2:w.1 / ((shownS (thingAt p k)).2 + 1)≤w.1:=Int.ediv_le_self _ (by omega)
        have h3:0≤(if 0 < (shownS (thingAt p k)).1 then w.2 / (shownS (thingAt p k)).1 else p.far):=by
          split
          · exact Int.ediv_nonneg (by omega) (by omega)
          · omega
        unfold In64 nar;dsimp only;omega
    · exact ⟨Ag8,Ag8⟩
theorem By5 (p:Pr):In64 (fewestX p).1:=by
  unfold fewestX
  split
  · exact Ag8
  · rename_i w hw
    have hp:=(Aw4 hw).1;have h:=Bq9 hp (Ar7 hp w.1) (triedS p w);unfold In64 bestS;dsimp only;omega
theorem AV1 (c:Cd) (t:Tr):∀ l:List Int,((hurtF c t l).1=0∨(hurtF c t l).1∈l)∧0≤(hurtF c t l).2∧(hurtF c t l).2≤5
  | []=>by simp [hurtF]
  | i::l=>by
    have ih:=AV1 c t l;have hr:=Cy6 c t i;unfold hurtF
    split
    · exact ⟨ih.1.imp id (List.mem_cons_of_mem _),ih.2⟩
    · exact ⟨.inr (List.mem_cons_self ..),hr⟩
theorem BP4 (c:Cd) (t:Tr) (hl:c.p.things.length≤1000):In64 (hurtsX c t).1∧In64 (hurtsX c t).2.1:=by
  unfold hurtsX
  split
  · split
    · exact ⟨Ag8,Ag8⟩
    · have h:=AV1 c t (seenN c.p)
      have h2:0≤(hurtM c t).1∧(hurtM c t).1≤1000:=by
        rcases h.1 with h1 | h1
        · unfold hurtM;omega
        · obtain ⟨j,hj,hlt,_⟩:=AU7 h1
          unfold hurtM;omega
      unfold hurtM at h2 ⊢;unfold In64;dsimp only;omega
  · exact ⟨Ag8,Ag8⟩
theorem Ce5 (c:Cd):In64 (trimX c).1.ll∧In64 (trimX c).1.lr∧In64 (trimX c).1.rl∧In64 (trimX c).1.rr:=by
  unfold trimX
  split
  · rename_i ho
    split
    · rename_i t ht
      have hc:=(AB1 (AM3 ho).1).1;have h1:=(AW7 ((AL5 hc).1 (List.mem_of_find?_eq_some ht))).1;obtain ⟨a1,a2,b1,b2,c1,c2,d1,d2⟩:=h1
      have:=hc.c2
      unfold In64;dsimp only;omega
    · exact ⟨Ag8,Ag8,Ag8,Ag8⟩
  · exact ⟨Ag8,Ag8,Ag8,Ag8⟩
theorem Bb2 (c:Cd) (t:Tr):In64 (depthsX c t).1.1∧In64 (depthsX c t).1.2:=by
  unfold depthsX
  split
  · rename_i h0
    split
    · exact ⟨Ag8,Ag8⟩
    · have ho:openM c [t]=0:=by
        unfold roomX at h0
        split at h0
        · assumption
        · rename_i h1;exact absurd h0 h1
      have hpw:=(AM3 ho).2.2
      have hp:c.p.Ok:=by
        unfold powerX at hpw
        split at hpw
        · rename_i k hk
          exact absurd hpw (by
            unfold truthsX at hk
            split at hk
            · rename_i k2 hk2
              cases hk
              unfold openX at hk2
              split at hk2
              · split at hk2
                · cases hk2;decide
                · cases hk2
              · cases hk2;decide
            · unfold lookX at hk
              split at hk
              · cases hk
              · cases hk;decide)
        · rename_i w hw
          exact (Aw4 hw).1
      have hn1:=hp.n1;have hn2:=hp.n2;have hn3:=hp.n3;have l1:=Ap2 (fun i=>decide ((standsAt c.p (c.p.near + i)).2≤(roomX c t).1.2)) (c.p.far - c.p.near + 1).toNat;have l2:=Ap2 (fun i=>decide ((standsAt c.p (c.p.near + i)).1 < (roomX c t).1.1)) (c.p.far - c.p.near + 1).toNat;unfold depthsOf In64;dsimp only;omega
  · exact ⟨Ag8,Ag8⟩
theorem BR0 (m:MxA):In64 (CountX m.pl).1:=by
  unfold CountX
  split
  · rename_i h
    have:=Ct5 m h
    unfold In64;dsimp only;omega
  · exact Ag8
theorem BP3 (p:Nat→Bool):∀ n,-1≤lastP p n∧lastP p n < (n:Int)
  | 0=>by simp [lastP]
  | n + 1=>by
    have:=BP3 p n
    unfold lastP
    split <;> omega
theorem De3 {m:MxA} (h:mixedX m.pl=true):neX m.pl≤12:=by
  obtain ⟨_,_,h12⟩:=Ar1 h;exact h12
theorem BD8 (m:MxA):∀ e∈(SureX m.pl).1,In64 e:=by
  intro e he;unfold SureX at he
  split at he
  · rename_i hw
    obtain ⟨c,_,rfl⟩:=List.mem_map.1 he;have hX:=(Cc0 hw).1;have h1:=De3 hX;have h2:=BP3 (sureP m.pl c) (neX m.pl);unfold sureC In64;omega
  · cases he
/-! ## A desk in memory -/
def VwX.cellsS (v:VwX):List Value:=v.p.cells (ownQ v.t) (ownC v.t)++[.int .i64 v.cuts.ll,.int .i64 v.cuts.lr,.int .i64 v.cuts.rl,.int .i64 v.cuts.rr,.bool v.up]
theorem VwX.cells_eq {v:VwX} (h:OwnOk 9 v.t v.p.things.length (v.p.things.map Th.cells).flatten):v.cells=v.cellsS:=by
  unfold VwX.cells VwX.cellsS Pr.cells;rw [Ad9 h];rfl
theorem VwX.cells_len (v:VwX):v.cells.length=13:=rfl
def BoX.a (x:BoX):BxA:=⟨⟨x.colour,x.titles⟩,ownQ x.t,ownK x.t,0,ownC x.t⟩
theorem BoX.cells_eq {x:BoX} (h:OwnOk 1 x.t x.titles.length (strsC x.titles)):x.cells=x.a.cells:=by
  unfold BoX.cells BxA.cells;rw [Ad9 h];rfl
def DkX.mx (d:DkX):MxA:=⟨d.bs.map BoX.a,ownQ d.b,ownK d.b,0,ownC d.b,d.cs,ownQ d.c,ownK d.c,0,ownC d.c⟩
theorem DkX.mx_pl (d:DkX):d.mx.pl=d.pl.heap:=by
  unfold DkX.mx MxA.pl DkX.pl;dsimp only;rw [List.map_map];rfl
def DkX.cellsS (d:DkX) (c:Cd):List Value:=[.slice (ownQ d.v) d.vs.length (ownC d.v),.slice (ownQ d.b) (d.bs.map BoX.a).length (ownC d.b),.slice (ownQ d.c) d.cs.length (ownC d.c)]++(bareC c).cells none 0++[.bool true]
theorem DkX.cells_eq {d:DkX} (h:DkOk d) (c:Cd):d.cells c=d.cellsS c:=by
  unfold DkX.cells DkX.cellsS;rw [Ad9 h.v,Ad9 h.b,Ad9 h.c,List.length_map]
structure DkAt (W:World) (xb:Nat) (T:TypeId) (d:DkX) (c:Cd):Prop where
  ob:W.heap[xb]? = some (.cells (d.cellsS c).toArray T (0,0))
  v:Sl W (ownQ d.v) (ownK d.v) 0 13 (d.vs.map VwX.cellsS)
  t:∀ x∈d.vs,Sl W (ownQ x.t) (ownK x.t) 0 9 (x.p.things.map Th.cells)
  m:MOk W d.mx
  sm:MSm d.mx
  few:d.vs.length≤4∧d.bs.length≤4∧d.cs.length≤8
  th:∀ x∈d.vs,x.p.things.length≤12
theorem DkAt.mono {W w:World} {xb:Nat} {T:TypeId} {d:DkX} {c:Cd} {news:Blks} (h:DkAt W xb T d c) (hm:Mem W [] news w):DkAt w xb T d c :=
  ⟨hm.old_at h.ob (by simp),h.v.mono (by decide) hm (by simp),fun x hx=>(h.t x hx).mono (by decide) hm (by simp),h.m.mono0 hm,h.sm,h.few,h.th⟩
theorem _root_.Go.Eng.Sl.cellE {α:Type} {f:α→List Value} {P:Program} {W w:World} {chg news:Blks} {T:TypeId} {p:Option Addr} {b o sz s1:Nat} {l:List α} (h:Sl W p b o sz (l.map f)) (hm:Mem W chg news w) (hc:∀ ob,(b,ob) ∉ chg) (hT:tyB P T=some (false,s1)) {i:Nat} (hi:i < l.length) {x:α} (hx:l[i]=x) {j off:Nat} (hj:j < sz) {v:Value} (hv:nth (f x) j=some v) (ho:off=o + i * sz + j) :
    (loadVar T ⟨b,off,none⟩).run P w = .ok v w:=by
  subst ho
  have:=h.cellX hm hc hT hi hx hj hv
  simpa using this
theorem pl_view {d:DkX} {i:Nat} (hi:i < d.vs.length) {v:VwX} (hv:d.vs[i]=v):d.pl.views.getD i noVw=v.pl:=by
  unfold DkX.pl;dsimp only;rw [List.getD_eq_getElem?_getD,List.getElem?_map,List.getElem?_eq_getElem hi,hv];rfl
def ansV (a:Ans):Except Int Value:=match a with
  | .ok z=>.ok (.string (bs z.2))
  | .error k=>.error k
end Go.Dk
namespace Go.Proofs.YtnmkdiagbkkmaabGreatDoor
open Go Go.Eng Go.Dk Go.RowKit Go.Pw1 Go.Hp

theorem Dm8 {d:DkX} {b:Nat} {o:Obj} (h:(b,o)∈ownB 62 d.v (d.vs.map VwX.cells).flatten):(b,o)∈dkB d:=List.mem_append_left _ h
theorem Dm9 {d:DkX} {b:Nat} {o:Obj} {x:VwX} (hx:x∈d.vs) (h:(b,o)∈vwB x):(b,o)∈dkB d :=
  List.mem_append_right _ (List.mem_append_left _ (List.mem_flatten.2 ⟨_,List.mem_map.2 ⟨x,hx,rfl⟩,h⟩))
theorem Dn1 {d:DkX} {b:Nat} {o:Obj} (h:(b,o)∈ownB 68 d.b (d.bs.map BoX.cells).flatten):(b,o)∈dkB d :=
  List.mem_append_right _ (List.mem_append_right _ (List.mem_append_left _ h))
theorem Dk2 {d:DkX} {b:Nat} {o:Obj} {x:BoX} (hx:x∈d.bs) (h:(b,o)∈boB x):(b,o)∈dkB d :=
  List.mem_append_right _ (List.mem_append_right _ (List.mem_append_right _ (List.mem_append_left _ (List.mem_flatten.2 ⟨_,List.mem_map.2 ⟨x,hx,rfl⟩,h⟩))))
theorem Dn0 {d:DkX} {b:Nat} {o:Obj} (h:(b,o)∈ownB 70 d.c (d.cs.map Tn.cells).flatten):(b,o)∈dkB d :=
  List.mem_append_right _ (List.mem_append_right _ (List.mem_append_right _ (List.mem_append_right _ h)))
theorem CP9 (t:Th):t.cells.length=9:=rfl
abbrev DkA (W:World) (xb:Nat) (d:DkX) (c:Cd):Prop:=DkAt W xb 86 d c
abbrev dkM (xb:Nat) (d:DkX) (c:Cd) (tl:Blks):Blks:=(xb,dkO d c)::(dkB d++tl)
theorem An9 {W0 w:World} {xb:Nat} {d:DkX} {c:Cd} {tl:Blks} (hd:DkOk d) (hm:Mem W0 [] (dkM xb d c tl) w):DkA w xb d c:=by
  have hat:∀ b o,(b,o)∈dkB d→w.heap[b]? = some o:=fun b o hb=>(hm.newd b o (.tail _ (List.mem_append_left _ hb))).2
  have e1:d.vs.map VwX.cells=d.vs.map VwX.cellsS:=List.map_congr_left fun x hx=>VwX.cells_eq (hd.vs x hx)
  have e2:d.bs.map BoX.cells=(d.bs.map BoX.a).map BxA.cells:=by
    rw [List.map_map];exact List.map_congr_left fun x hx=>BoX.cells_eq (hd.bs x hx)
  refine ⟨?_,?_,fun x hx=>?_,⟨?_,fun x hx=>?_,?_⟩,⟨?_,?_,fun x hx=>?_,fun t ht=>?_⟩,hd.few,hd.things⟩
  · rw [← DkX.cells_eq hd]
    exact (hm.newd _ _ (.head _)).2
  · rw [← e1]
    exact Ar5 (f:=VwX.cells) (e:=62) (fun _=>rfl) (by decide) hd.v (fun b o h=>hat b o (Dm8 h))
  · exact Ar5 (f:=Th.cells) (e:=66) (fun _=>rfl) (by decide) (hd.vs x hx) (fun b o h=>hat b o (Dm9 hx h))
  · show Sl w (ownQ d.b) (ownK d.b) 0 2 ((d.bs.map BoX.a).map BxA.cells)
    rw [← e2];exact Ar5 (f:=BoX.cells) (e:=68) (fun _=>rfl) (by decide) hd.b (fun b o h=>hat b o (Dn1 h))
  · obtain ⟨y,hy,rfl⟩:=List.mem_map.1 hx
    have h1:=hd.bs y hy;rw [Au3] at h1;exact Ar5 (f:=strC) (e:=9) (fun _=>rfl) (by decide) h1 (fun b o h=>hat b o (Dk2 hy (by rw [boB,Au3];exact h)))
  · exact Ar5 (f:=Tn.cells) (e:=70) (fun _=>rfl) (by decide) hd.c (fun b o h=>hat b o (Dn0 h))
  · show (d.bs.map BoX.a).length≤1000
    rw [List.length_map]
    have:=hd.few
    omega
  · have:=hd.few
    show d.cs.length≤1000
    omega
  · obtain ⟨y,hy,rfl⟩:=List.mem_map.1 hx
    exact ⟨(hd.ti y hy).1,(hd.ti y hy).2⟩
  · exact hd.tx t ht
theorem Ag2 (ps:List Prt) (r:Str) (hr:Lib.join (ps.map Prt.words).flatten [32]=r) (b:Nat) (w:World) (hL:Lw Tryz.prog w) (hb:w.heap[b]? = some (.cells ((ps.map fun p=>[p.v]).flatten).toArray 20 (0,0))) (hps:ps.length≤100) (hok:∀ p∈ps,p.ok) (hN:((ps.map Prt.words).flatten).length≤20000) :
    Calls Tryz.prog 53 #[.slice (some ⟨b,0,none⟩) ps.length ps.length] w (Pure (.string (bs r)) w):=by
  subst hr;exact Bg3 ps (some ⟨b,0,none⟩) b 0 ps.length w hL (Sl.rowsR (t:=[]) (by rw [List.append_nil];exact hb) (by simp)) hps hok hN
end Go.Proofs.YtnmkdiagbkkmaabGreatDoor
namespace Go.Proofs.YtnmkdiagbkkmaabGreatDoor
open Go Go.Eng Go.Pw1

theorem Bv0 (s:Nat) (hs:s < 4096) (W:World):Calls Tryz.prog 239 #[.int .u64 (s:Int)] W (Pure (.int .i64 (oc s:Int)) W):=by
  have b1:=CM0 s;have b2':=Cj6 s;have b3:=Cj4 s;have b3':=Cj5 s;have b4:=Cj3 s;have b5:=Cj2 s;have b6:=CL9 s;have h1:=Nat.shiftRight_le s 1;have h2:=Nat.shiftRight_le (oc1 s) 2;refine Aa0 Tryz.func239 rfl rfl ?_;refine st ?_;refine lv (Ak2 (a:=s) (b:=1) rfl rfl (by decide)) ?_;refine lv (Val.and (a:=s >>> 1) (b:=6148914691236517205) rfl rfl (by show _ < 18446744073709551616;omega) (by decide) (u64_in (by have:=Nat.and_le_right (n:=s >>> 1) (m:=6148914691236517205);omega))) ?_;refine lv (Val.and (a:=s) (b:=6148914691236517205) rfl rfl (by show _ < 18446744073709551616;omega) (by decide) (u64_in (by have:=Nat.and_le_right (n:=s) (m:=6148914691236517205);omega))) ?_;refine lv (Ah1 (oc1 s) rfl rfl rfl (u64_in (by omega))) ?_;refine lv (Ak2 (a:=oc1 s) (b:=2) rfl rfl (by decide)) ?_;refine lv (Val.and (a:=oc1 s >>> 2) (b:=3689348814741910323) rfl rfl (by show _ < 18446744073709551616;omega) (by decide) (u64_in (by have:=Nat.and_le_right (n:=oc1 s >>> 2) (m:=3689348814741910323);omega))) ?_;refine lv (Val.and (a:=oc1 s) (b:=3689348814741910323) rfl rfl (by show _ < 18446744073709551616;omega) (by decide) (u64_in (by have:=Nat.and_le_right (n:=oc1 s) (m:=3689348814741910323);omega))) ?_;refine lv (Ah1 (oc2 s) rfl rfl rfl (u64_in (by omega))) ?_;refine lv (Ak2 (a:=oc2 s) (b:=4) rfl rfl (by decide)) ?_;refine lv (Ah1 (oc3a s) rfl rfl rfl (u64_in (by omega))) ?_;refine lv (Val.and (a:=oc3a s) (b:=1085102592571150095) rfl rfl (by show _ < 18446744073709551616;omega) (by decide) (u64_in (by have:=Nat.and_le_right (n:=oc3a s) (m:=1085102592571150095);omega))) ?_;refine lv (Ak2 (a:=oc3 s) (b:=8) rfl rfl (by decide)) ?_;refine lv (Ah1 (oc4 s) rfl rfl rfl (u64_in (by omega))) ?_;refine lv (Ak2 (a:=oc4 s) (b:=16) rfl rfl (by decide)) ?_;refine lv (Ah1 (oc5 s) rfl rfl rfl (u64_in (by omega))) ?_;refine lv (Ak2 (a:=oc5 s) (b:=32) rfl rfl (by decide)) ?_;refine lv (Ah1 (oc6 s) rfl rfl rfl (u64_in (by omega))) ?_;refine lv (Ao1 rfl Cc8 BD2 (IntWalk.i64_in _ ⟨by omega,by omega⟩)) ?_;refine lu (Val.and (a:=oc6 s) (b:=127) rfl rfl (by show _ < 18446744073709551616;omega) (by decide) (Ap3 (by have:=Nat.and_le_right (n:=oc6 s) (m:=127);omega))) ?_;exact Aa4 (.r1 rfl (.tmp rfl)) (by first | rfl | simp)
theorem BW1 (s:Nat) (hs:s < 4096) (W:World):Calls Tryz.prog 221 #[.int .u64 (s:Int)] W (Pure (.int .i64 (pc s 12:Int)) W):=by
  rw [← De0 hs];refine Aa0 Tryz.func221 rfl rfl ?_;refine st ?_;refine Ax6 rfl ?_;refine st ?_;refine zc (zF rfl Cq1) (fun w hm=>Bv0 s hs w) ?_;exact Aa4 (.r1 rfl (.tmp rfl)) (by first | rfl | simp)
def rankV (s:Nat):Value:=.agg #[.int .i64 (pc s 12:Int),.int .u64 (s:Int)]
theorem Ay2 (s:Nat) (hs:s < 4096) (W:World):Calls Tryz.prog 182 #[.int .u64 (s:Int)] W (Pure (rankV s) W):=by
  refine Aa0 Tryz.func182 rfl rfl ?_;refine st ?_;refine zn (New.alloc AG8) (fun b2=>?_)
  refine zc (zF rfl Cq4) (fun w hm=>BW1 s hs w) ?_;refine lv (Val.build (parts:=[(0,.tmp 4),(1,.tmp 5)]) rfl AG8 BV6 rfl) ?_;refine Aa9 (Sto.store rfl rfl .here AA2 rfl rfl) rfl rfl ?_;refine su ?_;exact Aa4 (.r1 rfl (.agg rfl (.head _) AA2 rfl)) (by first | rfl | simp)
theorem BS3 (s i:Nat) (hs:s < 4096) (hi:i < 12) (W:World):Calls Tryz.prog 222 #[.int .u64 (s:Int),.int .i64 (i:Int)] W (Pure (.int .u64 ((s ||| 2 ^ i:Nat):Int)) W):=by
  have h1:2 ^ i < 2 ^ 12:=Nat.pow_lt_pow_right (a:=2) (by decide) hi;have h2:s ||| 2 ^ i < 2 ^ 12:=Nat.or_lt_two_pow hs h1;refine Aa0 Tryz.func222 rfl rfl ?_;refine st ?_;refine lv (AI7 (b:=i) rfl rfl (by show i≤64;omega) (u64_in (n:=2 ^ i) (by omega))) ?_;refine lu (Val.or (a:=s) (b:=2 ^ i) rfl rfl (by show s < 18446744073709551616;omega) (by show 2 ^ i < 18446744073709551616;omega) (u64_in (n:=s ||| 2 ^ i) (by omega))) ?_;exact Aa4 (.r1 rfl (.tmp rfl)) (by first | rfl | simp)
theorem CZ9 (s u:Nat):befS s u=(!(decide ((pc s 12:Int)=(pc u 12:Int)) && decide ((s:Int)=(u:Int))) && (decide ((pc s 12:Int) < (pc u 12:Int)) || (decide ((pc s 12:Int)=(pc u 12:Int)) && decide ((s:Int) < (u:Int))))):=by
  unfold befS;rw [Bool.eq_iff_iff];simp only [Bool.or_eq_true,Bool.and_eq_true,decide_eq_true_eq,Bool.not_eq_true',Bool.and_eq_false_iff,decide_eq_false_iff_not];omega
theorem BA9 (s u:Nat) (W:World):Calls Tryz.prog 184 #[rankV s,rankV u] W (Pure (.bool (befS s u)) W):=by
  refine Aa0 Tryz.func184 rfl rfl ?_;refine st ?_;refine zn (New.box rfl) (fun b2=>?_)
  refine zn (New.box rfl) (fun b3=>?_)
  refine lv (AS4 rfl rfl BO6) ?_
  refine Ab3 (dj:=8) (dp:=28) (x:=decide ((pc s 12:Int) < (pc u 12:Int)) || (decide ((pc s 12:Int)=(pc u 12:Int)) && decide ((s:Int) < (u:Int)))) 20 rfl (fun g8=>by
    have g8':=g8;try simp only [nH] at g8'
    refine su ?_
    refine Ad4 (dj:=14) (dp:=27) (x:=decide ((pc s 12:Int)=(pc u 12:Int)) && decide ((s:Int) < (u:Int))) 13 rfl (fun g14=>by
      have g14':=g14;try simp only [nH] at g14'
      refine su ?_
      refine Ab3 (dj:=20) (dp:=26) (x:=decide ((s:Int) < (u:Int))) 6 rfl (fun g20=>by
        have g20':=g20;try simp only [nH] at g20'
        refine lv (Val.fieldAddr rfl Ba3) ?_;refine lv (Ab6 rfl (.tail _ (.head _)) Cd4 rfl) ?_;refine lv (Val.fieldAddr rfl Ba3) ?_;refine Ac7 (Ab6 rfl (.head _) Cd4 rfl) rfl rfl rfl ?_;refine sv ?_;exact zs g20
      ) (fun g20=>by
        have g20':=g20;try simp only [nH] at g20'
        iterate 5 refine Ab8 rfl rfl rfl ?_
        refine sv ?_;exact zs g20
      ) ?_
      refine sv ?_;exact zs g14
    ) (fun g14=>by
      have g14':=g14;try simp only [nH] at g14'
      iterate 12 refine Ab8 rfl rfl rfl ?_
      refine sv ?_;exact zs g14
    ) ?_
    refine sv ?_;exact zs g8
  ) (fun g8=>by
    have g8':=g8;try simp only [nH] at g8'
    iterate 19 refine Ab8 rfl rfl rfl ?_
    refine sv ?_;exact zs g8
  ) ?_
  refine su ?_;exact Aa4 (.r1 rfl (.tmp rfl)) (by rw [CZ9])
theorem AK4 (p:Pr) (hp:p.Ok) (q:Option Addr) (b o cap:Nat) (pw:Int×Int) (x:Int) (bv:Nat) (W:World) (hV:W.heap[bv]? = some (.cells (vwCells p q cap pw).toArray 244 (0,0))) (hS:Sl W q b o 9 (p.things.map Th.cells)) :
    Calls Tryz.prog 183 #[.pointer (some ⟨bv,0,none⟩),.int .i64 x] W (Pure (.int .u64 (movedS p x:Int)) W):=by
  have hlen:=hp.len;refine Aa0 Tryz.func183 rfl rfl ?_;refine su ?_;refine lu (Aa2 rfl hV (by simp) AB8 rfl) ?_;refine Ae5 (p.things.length) (fun k q=>(16,.int .i64 (k:Int))::(4,.int .u64 ((movedK p x k:Nat):Int))::q) (fun _=>_) (fun _=>[]) (fun _=>True) trivial rfl (zE 16 rfl rfl (zE 4 rfl rfl (zS 0 rfl (zS 1 rfl (zS 5 rfl (zS 14 rfl (zS 15 rfl (Sub.nil _)))))))) .nil ?_;intro k kN kI;clear kI;refine st ?_;refine cn rfl ?_ ?_
  ·intro c0'
   have hk:k < p.things.length:=by omega
   obtain ⟨t,ht⟩:∃ t,p.things[k]=t:=⟨_,rfl⟩;have hth:=hp.ths _ (List.getElem_mem hk);rw [ht] at hth;have hmk:=BW6 hp x (show k≤p.things.length by omega);refine st ?_;refine lv (Aa8 rfl rfl AE5 (by omega) (by omega) (hS.ptrM hk)) ?_;refine lv (Ab0 rfl (fun w hm=>hS.loadX (by decide) hm (by simp) AA1 hk ht)) ?_;refine zn (New.alloc Aw1) (fun b7=>?_)
   refine Aa9 (Sto.store rfl rfl .here AA1 rfl rfl) rfl rfl ?_;refine su ?_;refine lv (Val.build (parts:=[(0,.tmp 24),(1,.tmp 25)]) rfl Ac8 Ai3 rfl) ?_;refine zc (zF rfl Az6) (fun w hm=>Aj2 p hp q cap pw t hth.1 hth.2 (x,x) bv w (hm.old_at hV (by simp))) ?_;refine zn (New.alloc Ac8) (fun b8=>?_)
   refine Aa9 (Sto.store rfl rfl .here Af4 rfl rfl) rfl rfl ?_;refine st ?_;refine cn rfl ?_ ?_
   ·intro c1'
    refine st ?_;refine Ab7 (Ac5 rfl rfl CV5) rfl rfl rfl (fun w hm=>BS3 (movedK p x k) k hmk (by omega) w) ?_;refine st ?_;refine lv (Val.add rfl rfl (IntWalk.i64_in _ ⟨by omega,by omega⟩)) ?_;exact Ad0 (by omega) trivial rfl (zE 16 rfl rfl (zE 4 rfl (by first | (rw [Bv4 (Af2 hk ht) c1']) | (rw [Bh1 (Af2 hk ht) c1'])) (zS 0 rfl (zS 1 rfl (zS 5 rfl (zS 14 rfl (zS 15 rfl (Sub.nil _)))))))) .nil
   intro c1';refine st ?_;refine lv (Val.add rfl rfl (IntWalk.i64_in _ ⟨by omega,by omega⟩)) ?_;exact Ad0 (by omega) trivial rfl (zE 16 rfl rfl (zE 4 rfl (by first | (rw [Bv4 (Af2 hk ht) c1']) | (rw [Bh1 (Af2 hk ht) c1'])) (zS 0 rfl (zS 1 rfl (zS 5 rfl (zS 14 rfl (zS 15 rfl (Sub.nil _)))))))) .nil
  intro c0';obtain rfl:k=p.things.length:=by omega
  refine RunC.exit ?_;refine su ?_;refine Ab1 ?_;refine su ?_;exact Aa4 (.r1 rfl (.tmp rfl)) (by first | rfl | simp)
end Go.Proofs.YtnmkdiagbkkmaabGreatDoor
namespace Go.Proofs.YtnmkdiagbkkmaabGreatDoor
open Go Go.Eng Go.Pw1

structure Seen (p:Pr) (q:Option Addr) (b o cap:Nat) (pw:Int×Int) (bv b1:Nat) (W:World):Prop where
  v:W.heap[bv]? = some (.cells (vwCells p q cap pw).toArray 244 (0,0))
  x:W.heap[b1]? = some (.cells [.pointer (some ⟨bv,0,none⟩)].toArray 240 (0,0))
  s:Sl W q b o 9 (p.things.map Th.cells)
theorem Seen.mem {p:Pr} {q:Option Addr} {b o cap:Nat} {pw:Int×Int} {bv b1:Nat} {W w:World} {news:Blks} (h:Seen p q b o cap pw bv b1 W) (hm:Mem W [] news w):Seen p q b o cap pw bv b1 w :=
  ⟨hm.old_at h.v (by simp),hm.old_at h.x (by simp),h.s.mono (by decide) hm (by simp)⟩
structure Safe (p:Pr) (b bv b1 B:Nat) (nm:List Nat):Prop where
  v:bv < B∧bv ∉ nm
  x:b1 < B∧b1 ∉ nm
  s:p.things.map Th.cells ≠ []→b < B∧b ∉ nm
theorem Seen.kp {p:Pr} {q:Option Addr} {b o cap:Nat} {pw:Int×Int} {bv b1 B:Nat} {nm:List Nat} {W W':World} (h:Seen p q b o cap pw bv b1 W) (hs:Safe p b bv b1 B nm) (hk:KpX B nm W W'):Seen p q b o cap pw bv b1 W' :=
  ⟨(hk bv hs.v.1 hs.v.2).trans h.v,(hk b1 hs.x.1 hs.x.2).trans h.x,h.s.kp (fun hne=>hk b (hs.s hne).1 (hs.s hne).2)⟩
set_option maxHeartbeats 2000000 in
theorem BD6 (p:Pr) (hp:p.Ok) (q:Option Addr) (b o cap:Nat) (pw:Int×Int) (bv b1:Nat) (w0:World) (nm:List Nat) (h0:Seen p q b o cap pw bv b1 w0) (hs:Safe p b bv b1 w0.heap.size nm) :
    SeqStopsK (Fr none) 8 Tryz.prog 223 #[.pointer (some ⟨b1,0,none⟩)] (fun x:Int=>#[.int .i64 x]) (KpX w0.heap.size nm) (fun xs=>xs=triedS p pw) (fun _=>True) 100 w0:=by
  unfold SeqStopsK;intro l J Jx W hW hJ hJx hY hJ0;have hlen:=hp.len;have hSn:Seen p q b o cap pw bv b1 W:=⟨(hW.block bv hs.v.1).trans h0.v,(hW.block b1 hs.x.1).trans h0.x,h0.s.kp (fun hne=>hW.block b (hs.s hne).1)⟩;have hJm:∀ {s:List Int} {A C:World} {news:Blks},J s A→Mem A [] news C→J s C:=fun h hm=>hJ _ _ _ none h hm.grown (fun r e=>by cases e)
  have hJxm:∀ {s:List Int} {A C:World} {news:Blks},Jx s A→Mem A [] news C→Jx s C:=fun h hm=>hJx _ _ _ none h hm.grown (fun r e=>by cases e)
  have hYY:∀ (pre:List Int) (x:Int) (A:World),J pre A→pre.length < 100→Seen p q b o cap pw bv b1 A→YieldAt (Fr none) 8 Tryz.prog l #[.int .i64 x] A (fun e w'=>∃ y,e = .returned (.bool y)∧((y=true∧J (pre++[x]) w'∧Seen p q b o cap pw bv b1 w')∨(y=false∧Jx (pre++[x]) w'))):=fun pre x A h1 h2 h3 =>
    AJ9 (hY pre x A h1 h2) (fun e w' hh=>by
      rcases hh with ⟨rfl,hh,hk⟩ | ⟨rfl,hh⟩
      · exact ⟨true,rfl,.inl ⟨rfl,hh,h3.kp hs hk⟩⟩
      · exact ⟨false,rfl,.inr ⟨rfl,hh⟩⟩)
  refine AD8 (vs:=[.func (.yield l) #[] #[],.pointer (some ⟨b1,0,none⟩)]) Tryz.func223 rfl rfl ?_ 8
  refine RunCR.seq ?_;refine RunCR.seq ?_;refine RunCR.region ?_;refine Aa6 (Aa3 rfl) rfl rfl rfl ?_;refine Aa6 (Aa2 rfl hSn.x (by simp) AJ0 rfl) rfl rfl rfl ?_;refine Aa6 (Aa3 rfl) rfl rfl rfl ?_;refine Aa6 (Val.fieldAddr rfl Bx6) rfl rfl rfl ?_;refine Aa6 (Ab2 rfl rfl Ah7 (by decide) (by decide)) rfl rfl rfl ?_;refine Aa6 (Aa2 rfl hSn.v (by simp) Ag4 rfl) rfl rfl rfl ?_;refine RunLR.yield (RY:=fun y w'=>(y=true∧J ([]++[pw.1]) w'∧Seen p q b o cap pw bv b1 w')∨(y=false∧Jx ([]++[pw.1]) w')) (Ak0 rfl rfl) rfl rfl rfl (fun w hm=>hYY [] pw.1 w (hJm hJ0 hm) (by simp) (hSn.mem hm)) ?_;intro y13 W13 h13;refine Aa6 (Aa3 rfl) rfl rfl rfl ?_;refine RunLR.nil ?_;refine RunER.next ?_;refine RunCR.cond rfl ?_ ?_
  ·intro c0
   have c0':=c0;clear c0;try simp only [nH] at c0'
   have hX1:Jx [pw.1] W13:=by
     rcases h13 with ⟨h,_⟩ | ⟨_,h⟩
     · rw [h] at c0';cases c0'
     · exact h
   refine RunCR.ret ?_;refine Ad2 ?_;intro a w2 s;exact ⟨s.defers,_,results_none rfl _ _ _,⟨_,rfl⟩,.inr ⟨_,trivial,hJxm hX1 s.mem⟩⟩
  intro c0;have c0':=c0;clear c0;try simp only [nH] at c0'
  obtain ⟨hJ1,hS1⟩:J [pw.1] W13∧Seen p q b o cap pw bv b1 W13:=by
    rcases h13 with ⟨_,h⟩ | ⟨h,_⟩
    · exact h
    · rw [h] at c0';cases c0'
  refine RunCR.skip ?_;refine RunER.next ?_;refine RunCR.seq ?_;refine RunCR.region ?_;refine Aa6 (Aa2 rfl hS1.x (by simp) AJ0 rfl) rfl rfl rfl ?_;refine Aa6 (Aa3 rfl) rfl rfl rfl ?_;refine Aa6 (Val.fieldAddr rfl As5) rfl rfl rfl ?_;refine Aa6 (Val.fieldAddr rfl Bo5) rfl rfl rfl ?_;refine Aa6 (Aa2 rfl hS1.v (by simp) AB8 rfl) rfl rfl rfl ?_;refine Aa6 (Al1 rfl AE5) rfl rfl rfl ?_;refine Aa6 (Aa3 rfl) rfl rfl rfl ?_;refine RunLR.nil ?_;refine RunER.next ?_;refine RunCR.block ?_;refine Aq7 (p.things.length) (fun k q=>(21,.int .i64 (k:Int))::q) (fun k Wk=>J (triedK p pw k) Wk∧Seen p q b o cap pw bv b1 Wk) (fun w hm=>⟨hJm hJ1 hm,hS1.mem hm⟩) (zE 21 rfl rfl (zS 0 rfl (zS 1 rfl (zS 19 rfl (zS 20 rfl (Sub.nil _)))))) ?_;intro k Wk kN kI;obtain ⟨hJk,hSk⟩:=kI;refine RunCR.seq ?_;refine RunCR.region ?_;refine Aa6 (Aa3 rfl) rfl rfl rfl ?_;refine RunLR.nil ?_;refine RunER.next ?_;refine RunCR.seq ?_;refine RunCR.cond rfl ?_ ?_
  ·intro c1
   have c1':=c1;clear c1;try simp only [nH] at c1'
   have hk:k < p.things.length:=by omega
   obtain ⟨t,ht⟩:∃ t,p.things[k]=t:=⟨_,rfl⟩;have hth:=hp.ths _ (List.getElem_mem hk);rw [ht] at hth;refine RunCR.skip ?_;refine RunER.next ?_;refine RunCR.seq ?_;refine RunCR.block ?_;refine RunCR.seq ?_;refine RunCR.region ?_;refine Aa6 (Aa8 rfl rfl AE5 (by omega) (by omega) (hSk.s.ptrM hk)) rfl rfl rfl ?_;refine Aa6 (Ab0 rfl (fun w hm=>hSk.s.loadX (by decide) hm (by simp) AA1 hk ht)) rfl rfl rfl ?_;refine BB8 (New.alloc Aw1) rfl rfl rfl (fun b4=>?_)
   refine AG4 (Sto.store rfl rfl .here AA1 rfl rfl) rfl rfl ?_;refine RunLR.nil ?_;refine RunER.next ?_;refine RunCR.seq ?_;refine BR9 ?_
   apply Al3 (J:=J1 _ _ _ _ _ _) 12 Aj3 (.cons .here rfl .nil)
   ·refine zv 0 rfl (Aa2 rfl hSk.x (by simp) AJ0 rfl) ?_
    refine zw 1 ?_;refine zv 2 rfl (Aa2 rfl hSk.x (by simp) AJ0 rfl) ?_;refine zw 3 ?_;refine zw 4 ?_;refine zv 5 rfl (Ag9 rfl hSk.v (by simp) Af4 rfl) ?_;refine Ag7 (rs:=[6,10]) (by kernel_rfl) (by simp) (by kernel_rfl) (fun m hm=>?_)
    simp only [List.mem_cons,List.not_mem_nil,or_false] at hm
    rcases hm with rfl | rfl
    ·refine Ab5 rfl (zF rfl Az6) rfl rfl rfl (fun w hm=>Aj2 p hp q cap pw t hth.1 hth.2 pw bv w (hm.old_at hSk.v (by simp))) (Aa7 (.cons .here rfl .nil) (.cons .here rfl .nil) rfl ?_)
     refine zw 7 ?_;refine zw 8 ?_;refine zw 9 ?_;refine zA 10 ?_;refine Ac6 rfl (New.alloc Ac8) rfl rfl rfl (fun b5=>(Aa7 (.cons (.there .here) rfl .nil) (.cons .here rfl .nil) rfl ?_))
     refine zA 11 ?_;refine Ac0 rfl (Sto.store rfl rfl .here Af4 rfl rfl) rfl rfl (Aa7 (.cons (.there .here) rfl .nil) (.cons .here rfl .nil) rfl ?_)
     refine zt ?_;refine zp 12 ?_;refine zd ?_;exact Af1 b5 (Ac1 _) (Pick.refl _)
    refine Ac6 rfl (New.alloc Ac8) rfl rfl rfl (fun b5=>(Aa7 (.cons (.there .here) rfl .nil) (.cons .here rfl .nil) rfl ?_))
    refine zA 6 ?_;refine Ab5 rfl (zF rfl Az6) rfl rfl rfl (fun w hm=>Aj2 p hp q cap pw t hth.1 hth.2 pw bv w (hm.old_at hSk.v (by simp))) (Aa7 (.cons (.there .here) rfl .nil) (.cons .here rfl .nil) rfl ?_)
    refine zw 7 ?_;refine zw 8 ?_;refine zw 9 ?_;refine zA 11 ?_;refine Ac0 rfl (Sto.store rfl rfl .here Af4 rfl rfl) rfl rfl (Aa7 (.cons (.there .here) rfl .nil) (.cons .here rfl .nil) rfl ?_)
    refine zt ?_;refine zp 12 ?_;refine zd ?_;exact Af1 b5 (zS 6 rfl (zS 5 rfl (zS 34 rfl (zS 33 rfl (zS 25 rfl (zS 32 rfl (zS 31 rfl (zS 30 rfl (zS 29 rfl (zS 28 rfl (zS 27 rfl (zS 26 rfl (Sub.skip rfl (Sub.skip rfl (Sub.skip rfl (Sub.skip rfl (Sub.skip rfl (Sub.skip rfl (Sub.skip rfl (Sub.skip rfl (Sub.skip rfl (Sub.skip rfl (Sub.skip rfl (Sub.skip rfl (Ac1 _))))))))))))))))))))))))) (.cons .here rfl (.cons .here rfl .nil))
   refine J1.out (fun b5=>?_)
   refine RunER.next ?_;refine RunCR.seq ?_;refine RunCR.region ?_;refine Aa6 (Aa3 rfl) rfl rfl rfl ?_;refine Aa6 (Aa3 rfl) rfl rfl rfl ?_;refine Bk1 (dj:=36) rfl ?_ ?_
   ·intro g36
    have g36':=g36;clear g36;try simp only [nH] at g36'
    refine Aa6 (Aa3 rfl) rfl rfl rfl ?_;refine Aa6 (Ab2 rfl rfl Ah7 (by decide) (by decide)) rfl rfl rfl ?_;refine Aa6 (Ab6 rfl (.head _) Ag4 rfl) rfl rfl rfl ?_;refine RunLR.yield (RY:=fun y w'=>(y=true∧J (triedK p pw k++[(stillS p t pw).1.1]) w'∧Seen p q b o cap pw bv b1 w')∨(y=false∧Jx (triedK p pw k++[(stillS p t pw).1.1]) w')) (Ak0 rfl rfl) rfl rfl rfl (fun w hm=>hYY _ (stillS p t pw).1.1 w (hJm hJk hm) (by have:=Bf5 p pw k;omega) (hSk.mem hm)) ?_;intro y40 W40 h40;refine Aa6 (Aa3 rfl) rfl rfl rfl ?_;refine Aa6 (Aa3 rfl) rfl rfl rfl ?_;refine RunLR.nil ?_;refine RunER.next ?_;refine RunCR.cond rfl ?_ ?_
    ·intro c2
     have c2':=c2;clear c2;try simp only [nH] at c2'
     refine RunCR.ret ?_;refine Ad3 ?_;refine Ad2 ?_;refine Ad2 ?_;refine Ad3 ?_;intro a w2 s
     rcases h40 with ⟨h,_⟩ | ⟨_,hX2⟩
     ·rw [h] at c2';cases c2'
     exact ⟨s.defers,_,results_none rfl _ _ _,⟨_,rfl⟩,.inr ⟨_,trivial,hJxm hX2 s.mem⟩⟩
    intro c2;have c2':=c2;clear c2;try simp only [nH] at c2'
    refine RunCR.skip ?_;refine st ?_;refine RunER.next ?_;refine RunCR.region ?_;refine Aa6 (Val.add rfl rfl (IntWalk.i64_in _ ⟨by omega,by omega⟩)) rfl rfl rfl ?_;refine Aa6 (Aa3 rfl) rfl rfl rfl ?_;refine RunLR.nil ?_;exact Am2 (by omega) (fun w hm=>(by first | exact ⟨by rw [Bs9 (Af2 hk ht) g36'];exact hJm hJk hm,hSk.mem hm⟩ | (rcases h40 with ⟨_,hJ2,hS2⟩ | ⟨h,_⟩;exact ⟨by rw [Bf4 (Af2 hk ht) g36'];exact hJm hJ2 hm,hS2.mem hm⟩;rw [h] at c2';cases c2'))) (zE 21 rfl rfl (zS 0 rfl (zS 1 rfl (zS 19 rfl (zS 20 rfl (Sub.nil _))))))
   intro g36;have g36':=g36;clear g36;try simp only [nH] at g36'
   iterate 5 refine AV8 rfl rfl rfl ?_
   refine Aa6 (Aa3 rfl) rfl rfl rfl ?_;refine RunLR.nil ?_;refine RunER.next ?_;refine RunCR.cond rfl ?_ ?_
   ·intro c2
    have c2':=c2;clear c2;try simp only [nH] at c2'
    refine RunCR.ret ?_;refine su ?_;exact absurd c2' (by simp)
   intro c2;have c2':=c2;clear c2;try simp only [nH] at c2'
   refine RunCR.skip ?_;refine st ?_;refine RunER.next ?_;refine RunCR.region ?_;refine Aa6 (Val.add rfl rfl (IntWalk.i64_in _ ⟨by omega,by omega⟩)) rfl rfl rfl ?_;refine Aa6 (Aa3 rfl) rfl rfl rfl ?_;refine RunLR.nil ?_;exact Am2 (by omega) (fun w hm=>(by first | exact ⟨by rw [Bs9 (Af2 hk ht) g36'];exact hJm hJk hm,hSk.mem hm⟩ | (rcases h40 with ⟨_,hJ2,hS2⟩ | ⟨h,_⟩;exact ⟨by rw [Bf4 (Af2 hk ht) g36'];exact hJm hJ2 hm,hS2.mem hm⟩;rw [h] at c2';cases c2'))) (zE 21 rfl rfl (zS 0 rfl (zS 1 rfl (zS 19 rfl (zS 20 rfl (Sub.nil _))))))
  intro c1;have c1':=c1;clear c1;try simp only [nH] at c1'
  obtain rfl:k=p.things.length:=by omega
  refine RunCR.exit ?_;refine su ?_;refine Ab1 ?_;intro a w2 s;exact ⟨s.defers,_,results_none rfl _ _ _,⟨_,rfl⟩,.inl ⟨_,rfl,hJm hJk s.mem⟩⟩
theorem BD7 (bv:Nat) (W:World):Calls Tryz.prog 185 #[.pointer (some ⟨bv,0,none⟩)] W (News (fun b=>.func (.func 223) #[] #[.pointer (some ⟨b,0,none⟩)]) (fun b=>[(b,.cells [.pointer (some ⟨bv,0,none⟩)].toArray 240 (0,0))]) W):=by
  refine Aa0 Tryz.func185 rfl rfl ?_;refine st ?_;refine zn (New.box rfl) (fun b1=>?_)
  exact RunE.ret (chg:=[]) (.r1 rfl (.tmp rfl)) (fun _ hm=>⟨b1,rfl,hm⟩)
theorem Bq6 (b:Nat) (w:World):CallsDIn Fence.wide 8 Tryz.prog 166 #[.pointer (some ⟨b,0,none⟩)] .returning w fun e u w'=>(∃ v,e = .returned v)∧u = .returning∧Mem w [] [] w':=by
  refine callsDIn_of_wpSIn Tryz.func166 rfl trivial fun c₀ cs hu=>?_
  refine wpSIn_seq ?_;refine wpSIn_region ?_;simp [wpOpsSIn,Fence.wide,go_sem,recoverD,hu,Tryz.ntmps166,Exit.thenS]
  refine wpSIn_of_wpIn rfl ?_;refine wpIn_wide.2 ?_;refine Bs3 20 [(0,.pointer (some ⟨b,0,none⟩)),(2,.nilIface)] w [] ?_ ?_
  · exact ⟨by simp,.consA (by simp) (.consA (by simp [Array.getElem?_append]) (Agree.nil _)),rfl,Mem.refl w⟩
  refine st ?_;refine lv (Ax1 rfl Bf0) ?_;refine RunC.cond rfl (fun h=>absurd h (by simp)) ?_;intro c0;clear c0;refine RunC.skip ?_;intro a w2 s;exact ⟨s.defers,.returning,by rw [← hu],_,results_none rfl _ _ _,⟨_,rfl⟩,rfl,s.mem.drop⟩
theorem Bq5 (b:Nat) (k:Int) (x:Value) (w:World) (hb:w.heap[b]? = some (.cells #[x] 34 (0,0))):CallsDIn Fence.wide 8 Tryz.prog 166 #[.pointer (some ⟨b,0,none⟩)] (.panicking [{ v:=misf k,recovered:=false }]) w fun e u w' =>
    (∃ v,e = .returned v)∧u = .panicking [{ v:=misf k,recovered:=true }]∧Mem w [(b,.cells #[.int .i64 k] 34 (0,0))] [] w':=by
  refine callsDIn_of_wpSIn Tryz.func166 rfl trivial fun c₀ cs hu=>?_
  refine wpSIn_seq ?_;refine wpSIn_region ?_;simp [wpOpsSIn,Fence.wide,go_sem,recoverD,hu,Tryz.ntmps166,Exit.thenS]
  refine wpSIn_of_wpIn rfl ?_;refine wpIn_wide.2 ?_;refine Bs3 20 [(0,.pointer (some ⟨b,0,none⟩)),(2,misf k)] w [(b,.cells #[x] 34 (0,0))] ?_ ?_
  · exact ⟨by simp,.consA (by simp) (.consA (by simp [Array.getElem?_append]) (Agree.nil _)),rfl,Mem.start hb⟩
  refine st ?_;refine lv (Aq3 rfl Bf0) ?_;refine RunC.cond rfl ?_ (fun h=>absurd h (by simp))
  intro c0;clear c0;refine st ?_;refine lv (Av2 rfl Bn2) ?_;refine zn (New.alloc Bl2) (fun b3=>?_)
  refine Aa9 (Sto.store rfl rfl .here Cd3 rfl rfl) rfl rfl ?_;refine st ?_;refine RunC.cond rfl (fun h=>absurd h (by simp)) ?_;intro c1;clear c1;refine su ?_;refine Aa9 (Ad1 rfl rfl .here Ag0 rfl rfl) rfl rfl ?_;refine RunL.nil ?_;intro a w2 s;exact ⟨s.defers,.panicking [{ v:=misf k,recovered:=true }],rfl,_,results_none rfl _ _ _,⟨_,rfl⟩,rfl,s.mem.drop⟩
theorem BA1:CatchesIn Tryz.prog 166 34 misf:=⟨Bq6,fun b k x w h=>Bq5 b k x w h⟩
end Go.Proofs.YtnmkdiagbkkmaabGreatDoor
namespace Go.Proofs.YtnmkdiagbkkmaabGreatDoor
open Go Go.Eng Go.Pw1

theorem AS8 (p:Pr) (q:Option Addr) (b o cap:Nat) (W:World) (hS:Sl W q b o 9 (p.things.map Th.cells)) (hl:p.things.length≤100000000000) :
    Calls Tryz.prog 125 #[p.v q cap] W (Pure (.tuple #[.int .i64 (fewestX p).1,b2v (fewestX p).2.1,.int .i64 (fewestX p).2.2]) W):=by
  refine Aj6 Tryz.func125 rfl rfl ?_;refine st ?_;refine zn (New.box rfl) (fun b1=>?_)
  refine zn (New.alloc Ae2) (fun b3=>?_)
  refine zn (New.alloc At0) (fun b4=>?_)
  refine RunL.defer rfl ?_;refine su ?_;refine Ao2 (zF rfl Bp4) rfl rfl rfl (fun w hm=>Ax9 p q b o cap [] _ 0 0 _ w (hS.mono (by decide) hm (by simp)) hl Sl.emp (by simp)) (fun e14 he14=>?_) (fun a14 ha14 b14=>?_)
  ·refine Aa5 ?_
   exact Cw2 BA1 Al4 .here (.r3 rfl (.tmp rfl) (.agg rfl (.tail _ (.head _)) Ag5 rfl) (.one rfl (.head _) Ag0 rfl)) (by simp [fewestX,he14,b2v])
  obtain ⟨hp,hop,wb1,wb2,wb3⟩:=Aw4 ha14;have hlen:=hp.len;refine zn (New.alloc BM1) (fun b5=>?_)
  refine Aa9 (Sto.store rfl rfl .here AJ0 rfl rfl) rfl rfl ?_;refine nnx ?_;refine RunC.seq ?_
  apply Aq8 (J:=J1 _ _ _ _ _ _) 9 Aj3 (.cons .here rfl (.cons .here rfl (.cons .here rfl (.cons .here rfl (.cons .here rfl .nil)))))
  ·refine zw 0 ?_
   refine zw 1 ?_;refine zw 2 ?_;refine zw 3 ?_;refine zv 4 rfl (Ab2 rfl rfl Ah7 (by decide) (by decide)) ?_;refine zw 5 ?_;refine Ag7 (rs:=[6,8]) (by kernel_rfl) (by simp) (by kernel_rfl) (fun m hm=>?_)
   simp only [List.mem_cons,List.not_mem_nil,or_false] at hm
   rcases hm with rfl | rfl
   ·refine Ab5 rfl (zF rfl BI0) rfl rfl rfl (fun w hm=>AK4 p hp q b o cap a14 _ b14 w (hm.at (.tail _ (.head _))) (hS.mono (by decide) hm (by simp))) (Aa7 (.cons .here rfl (.cons .here rfl (.cons .here rfl (.cons .here rfl (.cons .here rfl .nil))))) (.cons .here rfl (.cons .here rfl (.cons .here rfl (.cons .here rfl (.cons .here rfl .nil))))) rfl ?_)
    refine Ag7 (rs:=[7,8]) (by kernel_rfl) (by simp) (by kernel_rfl) (fun m hm=>?_)
    simp only [List.mem_cons,List.not_mem_nil,or_false] at hm
    rcases hm with rfl | rfl
    ·refine Ab5 rfl (zF rfl Bp1) rfl rfl rfl (fun w hm=>Ay2 (movedS p a14.1) (Ar7 hp _) w) (Aa7 (.cons .here rfl (.cons .here rfl (.cons .here rfl (.cons .here rfl (.cons .here rfl .nil))))) (.cons .here rfl (.cons .here rfl (.cons .here rfl (.cons .here rfl (.cons .here rfl .nil))))) rfl ?_)
     refine zA 8 ?_;refine Ac6 rfl (New.alloc AG8) rfl rfl rfl (fun b6=>(Aa7 (.cons .here rfl (.cons .here rfl (.cons .here rfl (.cons .here rfl (.cons .here rfl (.cons .here rfl .nil)))))) (.cons (.there .here) rfl (.cons (.there .here) rfl (.cons (.there .here) rfl (.cons (.there .here) rfl (.cons (.there .here) rfl .nil))))) rfl ?_))
     refine zt ?_;refine zB 9 ?_;refine Ac0 rfl (Sto.store rfl rfl .here AA2 rfl rfl) rfl rfl (Ab9 ?_)
     refine zd ?_;refine Ae6 ?_;exact Af1 b6 (Ac1 _) (Pick.refl _)
    refine Ac6 rfl (New.alloc AG8) rfl rfl rfl (fun b6=>(Aa7 (.cons .here rfl (.cons .here rfl (.cons .here rfl (.cons .here rfl (.cons .here rfl (.cons .here rfl .nil)))))) (.cons (.there .here) rfl (.cons (.there .here) rfl (.cons (.there .here) rfl (.cons (.there .here) rfl (.cons (.there .here) rfl .nil))))) rfl ?_))
    refine zA 7 ?_;refine Ab5 rfl (zF rfl Bp1) rfl rfl rfl (fun w hm=>Ay2 (movedS p a14.1) (Ar7 hp _) w) (Aa7 (.cons .here rfl (.cons .here rfl (.cons .here rfl (.cons .here rfl (.cons .here rfl (.cons .here rfl .nil)))))) (.cons .here rfl (.cons .here rfl (.cons .here rfl (.cons .here rfl (.cons .here rfl (.cons .here rfl .nil)))))) rfl ?_)
    refine zt ?_;refine zB 9 ?_;refine Ac0 rfl (Sto.store rfl rfl .here AA2 rfl rfl) rfl rfl (Ab9 ?_)
    refine zd ?_;refine Ae6 ?_;exact Af1 b6 (zS 6 rfl (zS 22 rfl (zS 21 rfl (zS 20 rfl (zS 19 rfl (zS 18 rfl (zS 17 rfl (zS 16 rfl (zS 15 rfl (Sub.skip rfl (Sub.skip rfl (Sub.skip rfl (Sub.skip rfl (Sub.skip rfl (Sub.skip rfl (Sub.skip rfl (Sub.skip rfl (Sub.skip rfl (Ac1 _))))))))))))))))))) (.cons .here rfl (.cons .here rfl (.cons .here rfl (.cons .here rfl (.cons .here rfl (.cons .here rfl .nil))))))
   refine Ac6 rfl (New.alloc AG8) rfl rfl rfl (fun b6=>(Aa7 (.cons .here rfl (.cons .here rfl (.cons .here rfl (.cons .here rfl (.cons .here rfl (.cons .here rfl .nil)))))) (.cons (.there .here) rfl (.cons (.there .here) rfl (.cons (.there .here) rfl (.cons (.there .here) rfl (.cons (.there .here) rfl .nil))))) rfl ?_))
   refine zA 6 ?_;refine Ab5 rfl (zF rfl BI0) rfl rfl rfl (fun w hm=>AK4 p hp q b o cap a14 _ b14 w (hm.at (.tail _ (.tail _ (.head _)))) (hS.mono (by decide) hm (by simp))) (Aa7 (.cons .here rfl (.cons .here rfl (.cons .here rfl (.cons .here rfl (.cons .here rfl (.cons .here rfl .nil)))))) (.cons .here rfl (.cons .here rfl (.cons .here rfl (.cons .here rfl (.cons .here rfl (.cons .here rfl .nil)))))) rfl ?_)
   refine zA 7 ?_;refine Ab5 rfl (zF rfl Bp1) rfl rfl rfl (fun w hm=>Ay2 (movedS p a14.1) (Ar7 hp _) w) (Aa7 (.cons .here rfl (.cons .here rfl (.cons .here rfl (.cons .here rfl (.cons .here rfl (.cons .here rfl .nil)))))) (.cons .here rfl (.cons .here rfl (.cons .here rfl (.cons .here rfl (.cons .here rfl (.cons .here rfl .nil)))))) rfl ?_)
   refine zt ?_;refine zB 9 ?_;refine Ac0 rfl (Sto.store rfl rfl .here AA2 rfl rfl) rfl rfl (Ab9 ?_)
   refine zd ?_;refine Ae6 ?_;exact Af1 b6 (zS 6 rfl (zS 22 rfl (zS 21 rfl (zS 20 rfl (zS 19 rfl (zS 18 rfl (zS 17 rfl (zS 16 rfl (zS 15 rfl (Sub.skip rfl (Sub.skip rfl (Sub.skip rfl (Sub.skip rfl (Sub.skip rfl (Sub.skip rfl (Sub.skip rfl (Sub.skip rfl (Sub.skip rfl (Ac1 _))))))))))))))))))) (.cons .here rfl (.cons .here rfl (.cons .here rfl (.cons .here rfl (.cons .here rfl (.cons .here rfl .nil))))))
  refine J1.out (fun b6=>?_)
  refine su ?_;refine zn (New.alloc Cx5) (fun b7=>?_)
  refine Aa9 (Sto.store rfl rfl .here BM9 rfl rfl) rfl rfl ?_;refine su ?_;refine Ag3 (zF rfl CX0) rfl rfl rfl (fun w hm=>BD7 b14 w) (fun b26=>?_)
  refine st ?_;refine RunC.rangeFunc (S:=fun xs=>xs=triedS p a14) (N:=100) (enc:=(fun x:Int=>.int .i64 x)) (fun pre=>[(b6,.cells [.int .i64 (pc (bestL p (movedS p a14.1) pre) 12:Int),.int .u64 ((bestL p (movedS p a14.1) pre):Int)].toArray 260 (0,0)),(b7,.cells [.func (.func 184) #[rankV (bestL p (movedS p a14.1) pre)] #[]].toArray 263 (0,0))]) _ rfl CV4 (.cons (.there (.there .here)) rfl (.cons (.there .here) rfl (.cons .here rfl (.cons .here rfl (.cons .here rfl (.cons .here rfl (.cons .here rfl (.cons .here rfl .nil)))))))) (fun _=>rfl) (fun pre b o hb=>by simp at hb;rcases hb with ⟨_,rfl⟩ | ⟨_,rfl⟩ <;> rfl) (fun w hm=>BD6 p hp q b o cap a14 b14 b26 w _ ⟨hm.at (.tail _ (.tail _ (.tail _ (.tail _ (.head _))))),hm.at (.tail _ (.tail _ (.head _))),hS.mono (by decide) hm (by simp)⟩ ⟨hm.apart (.tail _ (.tail _ (.head _))),hm.apart (.head _),fun hx=>hm.oldApart (hS.lt0 (by decide) hx)⟩) rfl rfl (fun _=>rfl) rfl rfl rfl ?_ ?_
  ·intro l pre x W1 hpl hI
   have hV1:=hI.at (.tail _ (.tail _ (.tail _ (.tail _ (.head _)))));have hV5:=hI.at (.tail _ (.tail _ (.tail _ (.head _))));have hA14:=(hI.apart (.tail _ (.tail _ (.head _)))).2;have hA5:=(hI.apart (.tail _ (.head _))).2;simp only [List.map_cons,List.map_nil,List.mem_cons,List.not_mem_nil,or_false,not_or] at hA14 hA5;have hS1:=hS.mono (by decide) hI (by simp);have hAS:p.things.map Th.cells ≠ []→_:=fun hx=>(hI.oldApart (hS.lt0 (by decide) hx)).2
   simp only [List.map_cons,List.map_nil,List.mem_cons,List.not_mem_nil,or_false,not_or] at hAS;have hb4:=Bq9 hp (Ar7 hp a14.1) pre;refine RunCR.block ?_;refine RunCR.seq ?_;refine RunCR.region ?_;refine Aa6 (Aa2 rfl hV5 (by simp [hA14,hA5]) AJ0 rfl) rfl rfl rfl ?_;refine Aa6 (Aa3 rfl) rfl rfl rfl ?_;refine Aq4 (zF rfl BI0) rfl rfl rfl (fun w hm=>AK4 p hp q b o cap a14 x b14 w (hm.old_at hV1 (by simp [hA14])) (hS1.mono' (by decide) hm (fun hx ob=>by simp [hAS hx]))) ?_;refine Aq4 (zF rfl Bp1) rfl rfl rfl (fun w hm=>Ay2 (movedS p x) (Ar7 hp _) w) ?_;refine BB8 (New.alloc AG8) rfl rfl rfl (fun b9=>?_)
   refine AG4 (Sto.store rfl rfl .here AA2 rfl rfl) rfl rfl ?_;refine RunLR.nil ?_;refine RunER.next ?_;refine RunCR.seq ?_;refine RunCR.region ?_;refine Aa6 (Ah2 rfl (.tail _ (.tail _ (.head _))) AA2 rfl) rfl rfl rfl ?_;refine Aa6 (Ah2 rfl (.head _) AA2 rfl) rfl rfl rfl ?_;refine Aa6 (AS4 rfl rfl BO6) rfl rfl rfl ?_;refine Aa6 (Aa3 rfl) rfl rfl rfl ?_
   refine AO2 (dj:=35) (dp:=40) 5 rfl (fun g35=>by
     have g35':=g35;try simp only [nH] at g35'
     refine Aa6 (Ab6 rfl (.tail _ (.head _)) BM9 rfl) rfl rfl rfl ?_;refine Aa6 (Ah2 rfl (.tail _ (.tail _ (.head _))) AA2 rfl) rfl rfl rfl ?_;refine Aq4 (Ac5 rfl rfl CX1) rfl rfl rfl (fun w hm=>BA9 (bestL p (movedS p a14.1) pre) (movedS p x) w) ?_;refine Aa6 (Aa3 rfl) rfl rfl rfl ?_;refine Aa6 (Aa3 rfl) rfl rfl rfl ?_;exact Az3 (Sub.cons rfl (Sub.skip rfl (Sub.skip rfl (Sub.skip rfl (Sub.skip rfl (Sub.skip rfl (Ah3 rfl (by rw [g35]) (Ac1 _)))))))) (List.Sublist.refl _)
   ) (fun g35=>by
     have g35':=g35;try simp only [nH] at g35'
     iterate 4 refine AV8 rfl rfl rfl ?_
     refine Aa6 (Aa3 rfl) rfl rfl rfl ?_;exact Az3 (Sub.cons rfl (Sub.skip rfl (Sub.skip rfl (Sub.skip rfl (Sub.skip rfl (Sub.skip rfl (Ah3 rfl (by rw [g35]) (Ac1 _)))))))) (List.Sublist.refl _)
   ) ?_
   refine RunLR.nil ?_;refine RunER.next ?_;refine RunCR.cond rfl ?_ ?_
   ·intro c0
    have c0':=c0;clear c0;try simp only [nH] at c0'
    refine RunCR.seq ?_;refine RunCR.region ?_;refine Aa6 (Ah2 rfl (.tail _ (.tail _ (.head _))) AA2 rfl) rfl rfl rfl ?_;refine AG4 (Ad1 rfl rfl .here AA2 rfl rfl) rfl rfl ?_;refine RunLR.nil ?_;refine RunER.next ?_;refine RunCR.region ?_;refine Aa6 (Ah2 rfl (.head _) AA2 rfl) rfl rfl rfl ?_;refine Aa6 (Aa3 rfl) rfl rfl rfl ?_;refine AG4 (Ad1 rfl rfl (.there .here) BM9 rfl rfl) rfl rfl ?_;refine RunLR.nil ?_;refine st ?_;exact AO5 (by simp only [Bj7];first | (rw [Bj6 c0'];rfl) | rw [BA7 c0'])
   intro c0;have c0':=c0;clear c0;try simp only [nH] at c0'
   refine RunCR.skip ?_;refine st ?_;exact AO5 (by simp only [Bj7];first | (rw [Bj6 c0'];rfl) | rw [BA7 c0'])
  intro xs bD hXS;obtain rfl:=hXS;have hbs:bestS p a14 < 4096:=Bq9 hp (Ar7 hp a14.1) (triedS p a14);rw [show bestL p (movedS p a14.1) (triedS p a14)=bestS p a14 from rfl];refine su ?_;refine zn (New.alloc Ac8) (fun b10=>?_)
  refine Aa9 (Sto.store rfl rfl .here Af4 rfl rfl) rfl rfl ?_;refine su ?_;refine lu (Ab6 rfl (.tail _ (.tail _ (.tail _ (.tail _ (.tail _ (.tail _ (.head _))))))) AB8 rfl) ?_;refine Ae5 (p.things.length) (fun k q=>(54,.int .i64 (k:Int))::q) (fun _=>_) (fun k=>[(b10,.cells (b2c (nbK p (bestS p a14) a14 k)).toArray 242 (0,0))]) (fun _=>True) trivial rfl (zE 54 rfl rfl (zS 3 rfl (zS 4 rfl (zS 5 rfl (zS 6 rfl (zS 10 rfl (zS 52 rfl (zS 53 rfl (Sub.nil _))))))))) (.cons .here rfl (.cons .here rfl (.cons .here rfl (.cons .here rfl (.cons .here rfl (.cons .here rfl (.cons .here rfl (.cons .here rfl (.cons .here rfl (.cons .here rfl .nil)))))))))) ?_;intro k kN kI;clear kI;refine st ?_;refine cn rfl ?_ ?_
  ·intro c1'
   have hk:k < p.things.length:=by omega
   obtain ⟨t,ht⟩:∃ t,p.things[k]=t:=⟨_,rfl⟩;have hth:=hp.ths _ (List.getElem_mem hk);rw [ht] at hth;refine st ?_;refine lv (Aa8 rfl rfl AE5 (by omega) (by omega) (hS.ptrM hk)) ?_;refine lv (Ab0 rfl (fun w hm=>hS.loadX (by decide) hm (by simp) AA1 hk ht)) ?_;refine zn (New.alloc Aw1) (fun b12=>?_)
   refine Aa9 (Sto.store rfl rfl .here AA1 rfl rfl) rfl rfl ?_;refine su ?_;refine lv (Ak2 (a:=bestS p a14) (b:=k) rfl rfl (by show k≤64;omega)) ?_;refine lv (Val.and (a:=bestS p a14 >>> k) (b:=1) rfl rfl (by have:=Nat.shiftRight_le (bestS p a14) k;show _ < 18446744073709551616;omega) (by decide) (u64_in (by have:=Nat.and_le_right (n:=bestS p a14 >>> k) (m:=1);omega))) ?_;refine cn rfl ?_ ?_
   ·intro c2'
    refine st ?_;refine lu (Ab6 rfl (.tail _ (.tail _ (.tail _ (.tail _ (.tail _ (.tail _ (.head _))))))) AJ0 rfl) ?_;refine zc (zF rfl Az6) (fun w hm=>Aj2 p hp q cap a14 t hth.1 hth.2 (nbK p (bestS p a14) a14 k) b14 w (hm.at (.tail _ (.tail _ (.tail _ (.tail _ (.tail _ (.tail _ (.tail _ (.head _)))))))))) ?_;refine Aa9 (Sto.store rfl rfl (.there .here) Af4 rfl rfl) rfl rfl ?_;refine st ?_;refine lv (Val.add rfl rfl (IntWalk.i64_in _ ⟨by omega,by omega⟩)) ?_;exact Ad0 (by omega) trivial rfl (zE 54 rfl rfl (zS 3 rfl (zS 4 rfl (zS 5 rfl (zS 6 rfl (zS 10 rfl (zS 52 rfl (zS 53 rfl (Sub.nil _))))))))) (.cons (.there .here) (by first | (rw [CM1 (Af2 hk ht) c2'];rfl) | (rw [Ck1 c2'])) (.cons (.there .here) rfl (.cons (.there .here) rfl (.cons (.there .here) rfl (.cons (.there .here) rfl (.cons (.there .here) rfl (.cons (.there .here) rfl (.cons (.there .here) rfl (.cons (.there .here) rfl (.cons (.there .here) rfl .nil))))))))))
   intro c2';refine st ?_;refine lv (Val.add rfl rfl (IntWalk.i64_in _ ⟨by omega,by omega⟩)) ?_;exact Ad0 (by omega) trivial rfl (zE 54 rfl rfl (zS 3 rfl (zS 4 rfl (zS 5 rfl (zS 6 rfl (zS 10 rfl (zS 52 rfl (zS 53 rfl (Sub.nil _))))))))) (.cons (.there .here) (by first | (rw [CM1 (Af2 hk ht) c2'];rfl) | (rw [Ck1 c2'])) (.cons (.there .here) rfl (.cons (.there .here) rfl (.cons (.there .here) rfl (.cons (.there .here) rfl (.cons (.there .here) rfl (.cons (.there .here) rfl (.cons (.there .here) rfl (.cons (.there .here) rfl (.cons (.there .here) rfl .nil))))))))))
  intro c1';obtain rfl:k=p.things.length:=by omega
  refine RunC.exit ?_;refine su ?_;refine Ab1 ?_;refine st ?_;refine Aw0 5 Aj3 (.cons .here rfl (.cons .here rfl (.cons .here rfl (.cons .here rfl (.cons .here rfl (.cons .here rfl (.cons .here rfl (.cons .here rfl (.cons .here rfl (.cons .here rfl .nil)))))))))) ?_;refine zw 0 ?_;refine zw 1 ?_;refine zv 2 rfl (Ao1 rfl CP7 BD2 (IntWalk.i64_in _ ⟨by omega,by omega⟩)) ?_;refine zw 3 ?_;refine zA 4 ?_;refine Ab5 rfl (zF rfl Bp2) rfl rfl rfl (fun w hm=>Ay1 (_,_) w) (Aa7 (.cons .here rfl (.cons .here rfl (.cons .here rfl (.cons .here rfl (.cons .here rfl (.cons .here rfl (.cons .here rfl (.cons .here rfl (.cons .here rfl (.cons .here rfl .nil)))))))))) (.cons .here rfl (.cons .here rfl (.cons .here rfl (.cons .here rfl (.cons .here rfl (.cons .here rfl (.cons .here rfl (.cons .here rfl (.cons .here rfl (.cons .here rfl .nil)))))))))) rfl ?_)
  refine zt ?_;refine zp 5 ?_;refine zB 6 ?_;refine Ac0 rfl (Sto.store rfl rfl (.there (.there (.there (.there (.there (.there (.there (.there .here)))))))) Ag5 rfl rfl) rfl rfl (Ab9 ?_)
  refine zB 7 ?_;refine Ac0 rfl (Sto.store rfl rfl (.there (.there (.there (.there (.there (.there (.there .here))))))) Ag0 rfl rfl) rfl rfl (Ab9 ?_)
  refine zd ?_;refine Ae6 ?_;refine su ?_;exact Cw0 BA1 Al4 (.there .here) (.r3 rfl (.tmp rfl) (.agg rfl (.tail _ (.tail _ (.tail _ (.tail _ (.tail _ (.tail _ (.tail _ (.head _)))))))) Ag5 rfl) (.one rfl (.tail _ (.tail _ (.tail _ (.tail _ (.tail _ (.tail _ (.head _))))))) Ag0 rfl)) (by simp only [fewestX,ha14];rfl)
end Go.Proofs.YtnmkdiagbkkmaabGreatDoor
namespace Go.Proofs.YtnmkdiagbkkmaabGreatDoor
open Go Go.Eng
theorem At8:Enters Tryz.prog 121:=Aa1 Tryz.func121 (by kernel_rfl) rfl
theorem BI6:Enters Tryz.prog 122:=Aa1 Tryz.func122 (by kernel_rfl) rfl
theorem Cr8:Enters Tryz.prog 124:=Aa1 Tryz.func124 (by kernel_rfl) rfl
theorem Cr7:Enters Tryz.prog 125:=Aa1 Tryz.func125 (by kernel_rfl) rfl
theorem CZ0:Enters Tryz.prog 126:=Aa1 Tryz.func126 (by kernel_rfl) rfl
theorem Bp5:Enters Tryz.prog 127:=Aa1 Tryz.func127 (by kernel_rfl) rfl
theorem Cr6:Enters Tryz.prog 129:=Aa1 Tryz.func129 (by kernel_rfl) rfl
theorem CN7:Enters Tryz.prog 13:=Aa1 Tryz.func13 (by kernel_rfl) rfl
theorem BI5:Enters Tryz.prog 130:=Aa1 Tryz.func130 (by kernel_rfl) rfl
theorem Ba9:Enters Tryz.prog 132:=Aa1 Tryz.func132 (by kernel_rfl) rfl
theorem Dj7:Enters Tryz.prog 16:=Aa1 Tryz.func16 (by kernel_rfl) rfl
theorem Au1:Enters Tryz.prog 53:=Aa1 Tryz.func53 (by kernel_rfl) rfl
theorem Bo3:fieldB Tryz.prog 62 0=some 0:=by kernel_rfl
instance:Fld Tryz.prog 62 0 0:=⟨Bo3⟩
theorem BP7:fieldB Tryz.prog 62 1=some 8:=by kernel_rfl
instance:Fld Tryz.prog 62 1 8:=⟨BP7⟩
theorem AN2:fieldB Tryz.prog 84 0=some 0:=by kernel_rfl
instance:Fld Tryz.prog 84 0 0:=⟨AN2⟩
theorem Bo1:fieldB Tryz.prog 84 1=some 1:=by kernel_rfl
instance:Fld Tryz.prog 84 1 1:=⟨Bo1⟩
theorem AD1:fieldB Tryz.prog 86 0=some 0:=by kernel_rfl
instance:Fld Tryz.prog 86 0 0:=⟨AD1⟩
theorem CF4:fieldB Tryz.prog 86 1=some 3:=by kernel_rfl
instance:Fld Tryz.prog 86 1 3:=⟨CF4⟩
theorem BF4:(Tryz.prog.underlying 23).any (fun t=>match t with | .interface _=>false | _=>true)=true:=by kernel_rfl
theorem Au0:(Tryz.prog.underlying 3).any (fun t=>match t with | .interface _=>false | _=>true)=true:=by kernel_rfl
theorem Ap0:(Tryz.prog.underlying 9).any (fun t=>match t with | .interface _=>false | _=>true)=true:=by kernel_rfl
theorem AE4:slB Tryz.prog 37=some (62,13):=by kernel_rfl
instance:Slc Tryz.prog 37 62 13:=⟨AE4⟩
theorem Bs7:tyB Tryz.prog 37=some (false,1):=by kernel_rfl
instance:Tyc Tryz.prog 37 false 1:=⟨Bs7⟩
theorem Al8:zeroB Tryz.prog 20=some [.nilIface]:=by kernel_rfl
theorem Bl3:zeroB Tryz.prog 28=some [.int .i64 0,.int .i64 0,.int .i64 0,.int .i64 0,.int .i64 0,.int .i64 0,.int .i64 0,.slice none 0 0,.int .i64 0,.int .i64 0,.int .i64 0,.int .i64 0,.int .i64 0,.int .i64 0,.int .i64 0,.int .i64 0,.int .i64 0]:=by kernel_rfl
end Go.Proofs.YtnmkdiagbkkmaabGreatDoor
namespace Go.Proofs.YtnmkdiagbkkmaabGreatDoor
open Go Go.Eng Go.Dk Go.RowKit Go.Pw1 Go.Hp

theorem Bm9 {sz n:Nat} {x:Eng.Own} {xs:List Value} (h:OwnOk sz x n xs) (hn:0 < n):ownQ x=some ⟨ownK x,0,none⟩:=by
  match x,h with
  | none,h=>have:=h.nil rfl;omega
  | some _,_=>rfl
theorem AF9 {α:Type} {f:α→List Value} (p:Option Addr) (b o off:Nat) (l:List α) (i:Nat) (x:α) (m:Bool) (W:World) (hS:Sl W p b o 13 (l.map f)) (hi:i < l.length) (hx:l[i]=x) (hc:nth (f x) 12=some (.bool m)) (ho:off=o + i * 13):Calls Tryz.prog 120 #[.pointer (some ⟨b,off,none⟩)] W (Try dmis (needX (!m) 6) W):=by
  refine Aa0 Tryz.func120 rfl rfl ?_;refine su ?_;refine lv (Ab0 rfl (fun w hm=>hS.cellE hm (by simp) BT1 hi hx (j:=12) (by decide) hc (by rw [ho]))) ?_;refine Ac2 (zF rfl Al7) rfl rfl rfl (fun w hm=>Ad8 _ _ w) (fun e7 he7=>?_) (fun v7 hv7=>?_)
  ·obtain ⟨er7,rfl⟩:=Ae0 he7
   exact Ae8 (by simp_all [needX])
  obtain ⟨ok7,rfl⟩:=Ae7 hv7;refine st ?_;exact AB4 (.r0 rfl) (by simp_all [needX])
theorem AR9 {α:Type} {f:α→List Value} (p:Option Addr) (b o off:Nat) (l:List α) (i:Nat) (x:α) (m:Bool) (W:World) (hS:Sl W p b o 13 (l.map f)) (hi:i < l.length) (hx:l[i]=x) (hc:nth (f x) 12=some (.bool m)) (ho:off=o + i * 13):Calls Tryz.prog 129 #[.pointer (some ⟨b,off,none⟩)] W (Try dmis (needX m 6) W):=by
  refine Aa0 Tryz.func129 rfl rfl ?_;refine su ?_;refine lv (Ab0 rfl (fun w hm=>hS.cellE hm (by simp) BT1 hi hx (j:=12) (by decide) hc (by rw [ho]))) ?_;refine Ac2 (zF rfl Al7) rfl rfl rfl (fun w hm=>Ad8 _ _ w) (fun e6 he6=>?_) (fun v6 hv6=>?_)
  ·obtain ⟨er6,rfl⟩:=Ae0 he6
   exact Ae8 (by simp_all [needX])
  obtain ⟨ok6,rfl⟩:=Ae7 hv6;refine st ?_;exact AB4 (.r0 rfl) (by simp_all [needX])
section
variable (xb:Nat) (d:DkX) (c:Cd) (W:World) (hL:Lw Tryz.prog W) (hD:DkA W xb d c)
include hD
theorem Az7 (i k:Nat) (v:VwX) (hi:i < d.vs.length) (hv:d.vs[i]=v):Calls Tryz.prog 122 #[pV xb,.int .i64 (i:Int),.int .i64 (k:Int)] W (Try dmis (needX (decide ((k:Int) < (v.p.things.length:Int))) 2) W):=by
  refine Aa0 Tryz.func122 rfl rfl ?_;refine su ?_;refine lv (Aa2 rfl hD.ob (by simp) Bs7 rfl) ?_;refine lu (Aa8 rfl rfl AE4 (by omega) (by omega) (hD.v.ptrM hi)) ?_;refine lu (Ab0 rfl (fun w hm=>hD.v.cellE hm (by simp) AB8 hi hv (j:=7) (by decide) rfl (by simp))) ?_;refine Ac2 (zF rfl Al7) rfl rfl rfl (fun w hm=>Ad8 _ _ w) (fun e19 he19=>?_) (fun v19 hv19=>?_)
  ·obtain ⟨er19,rfl⟩:=Ae0 he19
   exact Ae8 (by unfold needX;rw [if_neg (by rw [er19];decide)])
  obtain ⟨ok19,rfl⟩:=Ae7 hv19;refine st ?_;exact AB4 (.r0 rfl) (by unfold needX;rw [if_pos ok19])
theorem Av1 (i:Nat) (v:VwX) (hi:i < d.vs.length) (hv:d.vs[i]=v):Calls Tryz.prog 127 #[pV xb,.int .i64 (i:Int)] W (Pure ((cardV (bareC c) v.pl).v (ownQ v.t) (ownC v.t)) W):=by
  refine Aa0 Tryz.func127 rfl rfl ?_;refine st ?_;refine zn (New.alloc Bl3) (fun b4=>?_)
  refine lv (Ag9 rfl hD.ob (by simp) BD3 rfl) ?_;refine zn (New.alloc Bl3) (fun b5=>?_)
  refine Aa9 (Sto.store rfl rfl .here BD3 rfl rfl) rfl rfl ?_;refine su ?_;refine lv (Aa2 rfl hD.ob (by simp) Bs7 rfl) ?_;refine lu (Aa8 rfl rfl AE4 (by omega) (by omega) (hD.v.ptrM hi)) ?_;refine lu (Ab0 rfl (fun w hm=>hD.v.loadPart hm (by simp) Bm1 hi hv (j:=0) (by decide) (vs:=v.p.cells (ownQ v.t) (ownC v.t)) rfl (by decide) (by simp))) ?_;refine Aa9 (Sto.store rfl rfl .here Bm1 rfl rfl) rfl rfl ?_;refine su ?_;refine Aa9 (Sto.store rfl rfl (.there .here) BD3 rfl rfl) rfl rfl ?_;refine su ?_;exact Aa4 (.r1 rfl (.agg rfl (.tail _ (.head _)) BD3 rfl)) (by first | rfl | simp)
theorem BQ6 (h:waysE d.mx.pl ≠ 0):Calls Tryz.prog 132 #[pV xb] W (Try dmis (.error (waysE d.mx.pl)) W):=by
  refine Aa0 Tryz.func132 rfl rfl ?_;refine su ?_;refine lv (Ag9 rfl hD.ob (by simp) Cd2 rfl) ?_;refine zc (zF rfl CN7) (fun w hm=>CA4 d.mx hD.sm w (hD.m.mono0 hm) h) ?_;refine Ac2 (zF rfl At8) rfl rfl rfl (fun w hm=>Ah6 _ w) (fun e15 he15=>?_) (fun v15 hv15=>?_)
  ·have er15:=An5 he15
   refine Aa5 ?_;exact Ae8 (by rw [er15.2])
  obtain ⟨ok15,rfl⟩:=At6 hv15;refine su ?_;exact Am3 (.r1 rfl (.tmp rfl)) (absurd ok15 h)
theorem Bp8 (h:waysE d.mx.pl=0):Calls Tryz.prog 132 #[pV xb] W (News (fun z:IO (SureX d.mx.pl).1=>.slice (ownQ z.1) (SureX d.mx.pl).1.length (ownC z.1)) (fun z=>ownB 3 z.1 (intsW (SureX d.mx.pl).1).flatten++[]) W):=by
  refine Aa0 Tryz.func132 rfl rfl ?_;refine su ?_;refine lv (Ag9 rfl hD.ob (by simp) Cd2 rfl) ?_;refine Ah9 (zF rfl CN7) rfl rfl rfl (fun w hm=>BT9 d.mx hD.sm w (hD.m.mono0 hm) h) (fun z11=>?_)
  obtain ⟨y11,hy11⟩:=z11;dsimp only;rw [Ad9 hy11];refine st ?_;refine Ac2 (zF rfl At8) rfl rfl rfl (fun w hm=>Ah6 _ w) (fun e15 he15=>?_) (fun v15 hv15=>?_)
  ·have er15:=An5 he15
   refine Aa5 ?_;exact absurd rfl er15.1
  obtain ⟨ok15,rfl⟩:=At6 hv15;refine su ?_;exact RunE.ret (chg:=[]) (.r1 rfl (.tmp rfl)) (fun _ hm=>⟨⟨y11,hy11⟩,rfl,hm.pick (Pick.refl _)⟩)
include hL
theorem BY9 (i k:Nat) (hi:i < d.vs.length) (wv:Value) (q:Option Addr) (b o cap:Nat) (hN:Sl W q b o 1 ([(i:Int),(k:Int)].map intC)):Calls Tryz.prog 75 #[pV xb,wv,.slice q 2 cap] W (Try dmis (ansV (farD d.pl i k)) W):=by
  obtain ⟨v,hv⟩:∃ v,d.vs[i]=v:=⟨_,rfl⟩;have hvm:v∈d.vs:=hv ▸ List.getElem_mem hi;have hth:=hD.th v hvm;have hpl:=pl_view hi hv;have hS:=fun (w:World) (hm:Mem W [] [] w)=>(hD.t v hvm).mono (by decide) hm (by simp)
  refine Aa0 Tryz.func75 rfl rfl ?_;refine st ?_;refine Ac4 7 Aj3 .nil ?_;refine va 0 rfl (Aa3 rfl) rfl rfl rfl .nil rfl ?_;refine va 1 rfl (Aa3 rfl) rfl rfl rfl .nil rfl ?_;refine va 2 rfl (Aa8 rfl rfl Ah5 (by omega) (by omega) (hN.ptrM (i:=0) (by simp))) rfl rfl rfl .nil rfl ?_;refine va 3 rfl (Ab0 rfl (fun w hm=>hN.cellE hm (by simp) Ag4 (i:=0) (by simp) (x:=(i:Int)) rfl (j:=0) (by decide) rfl (by simp))) rfl rfl rfl .nil rfl ?_;refine va 4 rfl (Aa3 rfl) rfl rfl rfl .nil rfl ?_;refine va 5 rfl (Aa8 rfl rfl Ah5 (by omega) (by omega) (hN.ptrM (i:=1) (by simp))) rfl rfl rfl .nil rfl ?_;refine va 6 rfl (Ab0 rfl (fun w hm=>hN.cellE hm (by simp) Ag4 (i:=1) (by simp) (x:=(k:Int)) rfl (j:=0) (by decide) rfl (by simp))) rfl rfl rfl .nil rfl ?_;refine zt ?_;refine zB 7 ?_;refine Am7 rfl (zF rfl BI6) rfl rfl rfl (fun w hm=>Az7 xb d c w (hD.mono hm) i k v hi hv) (fun e16 he16=>?_) (fun v16 hv16=>(Ab9 ?_))
  ·obtain ⟨er16,rfl⟩:=Ae0 he16
   have hk:¬ k < v.p.things.length:=by have:=of_decide_eq_false er16;omega
   refine Aa5 ?_;exact Ae8 (by unfold farD;rw [hpl];simp [VwX.pl,ansV,hk])
  obtain ⟨ok16,rfl⟩:=Ae7 hv16;have hk:k < v.p.things.length:=by have:=of_decide_eq_true ok16;omega
  refine zd ?_;refine RunE.next ?_;refine RunC.seq ?_
  apply Al3 (J:=J1 _ _ _ _ _ _) 20 Aj3 .nil
  ·refine va 0 rfl (Aa3 rfl) rfl rfl rfl .nil rfl ?_
   refine va 1 rfl (Aa3 rfl) rfl rfl rfl .nil rfl ?_;refine va 2 rfl (Val.fieldAddr rfl AD1) rfl rfl rfl .nil rfl ?_;refine va 3 rfl (Val.fieldAddr rfl AN2) rfl rfl rfl .nil rfl ?_;refine va 4 rfl (Aa2 rfl hD.ob (by simp) Bs7 rfl) rfl rfl rfl .nil rfl ?_;refine va 5 rfl (Aa3 rfl) rfl rfl rfl .nil rfl ?_;refine va 6 rfl (Aa8 rfl rfl Ah5 (by omega) (by omega) (hN.ptrM (i:=0) (by simp))) rfl rfl rfl .nil rfl ?_;refine va 7 rfl (Ab0 rfl (fun w hm=>hN.cellE hm (by simp) Ag4 (i:=0) (by simp) (x:=(i:Int)) rfl (j:=0) (by decide) rfl (by simp))) rfl rfl rfl .nil rfl ?_;refine va 8 rfl (Aa8 rfl rfl AE4 (by omega) (by omega) (hD.v.ptrM hi)) rfl rfl rfl .nil rfl ?_;refine va 9 rfl (Val.fieldAddr rfl Bo3) rfl rfl rfl .nil rfl ?_;refine va 10 rfl (Ab0 rfl (fun w hm=>hD.v.loadPart hm (by simp) Bm1 hi hv (j:=0) (by decide) (vs:=v.p.cells (ownQ v.t) (ownC v.t)) rfl (by decide) (by simp))) rfl rfl rfl .nil rfl ?_;refine va 11 rfl (Aa3 rfl) rfl rfl rfl .nil rfl ?_;refine va 12 rfl (Aa8 rfl rfl Ah5 (by omega) (by omega) (hN.ptrM (i:=1) (by simp))) rfl rfl rfl .nil rfl ?_;refine va 13 rfl (Ab0 rfl (fun w hm=>hN.cellE hm (by simp) Ag4 (i:=1) (by simp) (x:=(k:Int)) rfl (j:=0) (by decide) rfl (by simp))) rfl rfl rfl .nil rfl ?_;refine Ag7 (rs:=[14,18]) (by kernel_rfl) (by simp) (by kernel_rfl) (fun m hm=>?_)
   simp only [List.mem_cons,List.not_mem_nil,or_false] at hm
   rcases hm with rfl | rfl
   ·refine Ab5 rfl (zF rfl Cr8) rfl rfl rfl (fun w hm=>AJ7 v.p k (ownQ v.t) (ownK v.t) 0 (ownC v.t) w ((hD.t v hvm).mono (by decide) hm (by simp)) (by omega)) (Aa7 .nil .nil rfl ?_)
    refine va 15 rfl (Aa3 rfl) rfl rfl rfl .nil rfl ?_;refine va 16 rfl (Aa3 rfl) rfl rfl rfl .nil rfl ?_;refine va 17 rfl (Aa3 rfl) rfl rfl rfl .nil rfl ?_;refine zA 18 ?_;refine Ac6 rfl (New.alloc Ae2) rfl rfl rfl (fun b7=>(Aa7 .nil .nil rfl ?_))
    refine zA 19 ?_;refine Ac0 rfl (Sto.store rfl rfl .here Ag5 rfl rfl) rfl rfl (Aa7 .nil .nil rfl ?_)
    refine zt ?_;refine zp 20 ?_;refine zd ?_;exact Af1 b7 (Ac1 _) (Pick.refl _)
   refine Ac6 rfl (New.alloc Ae2) rfl rfl rfl (fun b7=>(Aa7 .nil .nil rfl ?_))
   refine zA 14 ?_;refine Ab5 rfl (zF rfl Cr8) rfl rfl rfl (fun w hm=>AJ7 v.p k (ownQ v.t) (ownK v.t) 0 (ownC v.t) w ((hD.t v hvm).mono (by decide) hm (by simp)) (by omega)) (Aa7 .nil .nil rfl ?_)
   refine va 15 rfl (Aa3 rfl) rfl rfl rfl .nil rfl ?_;refine va 16 rfl (Aa3 rfl) rfl rfl rfl .nil rfl ?_;refine va 17 rfl (Aa3 rfl) rfl rfl rfl .nil rfl ?_;refine zA 19 ?_;refine Ac0 rfl (Sto.store rfl rfl .here Ag5 rfl rfl) rfl rfl (Aa7 .nil .nil rfl ?_)
   refine zt ?_;refine zp 20 ?_;refine zd ?_;exact Af1 b7 (zS 8 rfl (zS 7 rfl (zS 34 rfl (zS 33 rfl (zS 17 rfl (zS 32 rfl (zS 31 rfl (zS 30 rfl (zS 29 rfl (zS 28 rfl (zS 27 rfl (zS 26 rfl (zS 25 rfl (zS 24 rfl (zS 23 rfl (zS 22 rfl (zS 21 rfl (zS 20 rfl (zS 19 rfl (zS 18 rfl (Sub.skip rfl (Sub.skip rfl (Sub.skip rfl (Sub.skip rfl (Sub.skip rfl (Sub.skip rfl (Sub.skip rfl (Sub.skip rfl (Sub.skip rfl (Sub.skip rfl (Sub.skip rfl (Sub.skip rfl (Sub.skip rfl (Sub.skip rfl (Sub.skip rfl (Sub.skip rfl (Sub.skip rfl (Sub.skip rfl (Sub.skip rfl (Sub.skip rfl (Ac1 _))))))))))))))))))))))))))))))))))))))))) (.cons .here rfl .nil)
  refine J1.out (fun b7=>?_)
  refine st ?_;refine Ac2 (zF rfl At8) rfl rfl rfl (fun w hm=>Ah6 _ w) (fun e36 he36=>?_) (fun v36 hv36=>?_)
  ·obtain ⟨er36,rfl⟩:=An5 he36
   refine Aa5 ?_;exact Ae8 (by unfold farD;rw [hpl];simp [VwX.pl,ansV,hk,er36])
  obtain ⟨ok36,rfl⟩:=At6 hv36;refine st ?_;refine lu (Val.makeInterface rfl Ap0) ?_;refine lv (Val.makeInterface rfl BF4) ?_;refine zn (New.buildSlice (parts:=[(0,.tmp 37),(1,.tmp 39)]) rfl Ao7 Al8 rfl rfl rfl rfl) (fun b40=>?_)
  refine zc (zF rfl Au1) (fun w hm=>Ag2 [.s wFar,.sp (distX v.p k).1.1 (distX v.p k).1.2] _ (Am4 wFar [_,_]) b40 w (hL.mono hm) (hm.at (.head _)) (by simp) (by intro p hp;simp only [List.mem_cons,List.not_mem_nil,or_false] at hp;rcases hp with rfl | rfl;exact (show wFar.length≤40 by decide);exact BJ5 v.p k) (by simp [Prt.words])) ?_;exact Am3 (.r1 rfl (.tmp rfl)) (by unfold farD;rw [hpl];simp [VwX.pl,ansV,hk,ok36])
theorem Bz4 (i:Nat) (hi:i < d.vs.length) (wv:Value) (q:Option Addr) (b o cap:Nat) (hN:Sl W q b o 1 ([(i:Int)].map intC)):Calls Tryz.prog 76 #[pV xb,wv,.slice q 1 cap] W (Try dmis (ansV (movedD d.pl i)) W):=by
  obtain ⟨v,hv⟩:∃ v,d.vs[i]=v:=⟨_,rfl⟩;have hvm:v∈d.vs:=hv ▸ List.getElem_mem hi;have hth:=hD.th v hvm;have hpl:=pl_view hi hv;have hS:=fun (w:World) (hm:Mem W [] [] w)=>(hD.t v hvm).mono (by decide) hm (by simp)
  refine Aa0 Tryz.func76 rfl rfl ?_;refine csr ?_;refine vp rfl rfl rfl rfl ?_;refine nnx ?_;refine RunC.seq ?_
  apply Al3 (J:=J1 _ _ _ _ _ _) 19 Aj3 .nil
  ·refine va 0 rfl (Aa3 rfl) rfl rfl rfl .nil rfl ?_
   refine va 1 rfl (Aa3 rfl) rfl rfl rfl .nil rfl ?_;refine va 2 rfl (Val.fieldAddr rfl AD1) rfl rfl rfl .nil rfl ?_;refine va 3 rfl (Val.fieldAddr rfl AN2) rfl rfl rfl .nil rfl ?_;refine va 4 rfl (Aa2 rfl hD.ob (by simp) Bs7 rfl) rfl rfl rfl .nil rfl ?_;refine va 5 rfl (Aa3 rfl) rfl rfl rfl .nil rfl ?_;refine va 6 rfl (Aa8 rfl rfl Ah5 (by omega) (by omega) (hN.ptrM (i:=0) (by simp))) rfl rfl rfl .nil rfl ?_;refine va 7 rfl (Ab0 rfl (fun w hm=>hN.cellE hm (by simp) Ag4 (i:=0) (by simp) (x:=(i:Int)) rfl (j:=0) (by decide) rfl (by simp))) rfl rfl rfl .nil rfl ?_;refine va 8 rfl (Aa8 rfl rfl AE4 (by omega) (by omega) (hD.v.ptrM hi)) rfl rfl rfl .nil rfl ?_;refine va 9 rfl (Val.fieldAddr rfl Bo3) rfl rfl rfl .nil rfl ?_;refine va 10 rfl (Ab0 rfl (fun w hm=>hD.v.loadPart hm (by simp) Bm1 hi hv (j:=0) (by decide) (vs:=v.p.cells (ownQ v.t) (ownC v.t)) rfl (by decide) (by simp))) rfl rfl rfl .nil rfl ?_;refine Ag7 (rs:=[11,16]) (by kernel_rfl) (by simp) (by kernel_rfl) (fun m hm=>?_)
   simp only [List.mem_cons,List.not_mem_nil,or_false] at hm
   rcases hm with rfl | rfl
   ·refine Ab5 rfl (zF rfl Cr7) rfl rfl rfl (fun w hm=>AS8 v.p (ownQ v.t) (ownK v.t) 0 (ownC v.t) w ((hD.t v hvm).mono (by decide) hm (by simp)) (by omega)) (Aa7 .nil .nil rfl ?_)
    refine va 12 rfl (Aa3 rfl) rfl rfl rfl .nil rfl ?_;refine va 13 rfl (Aa3 rfl) rfl rfl rfl .nil rfl ?_;refine va 14 rfl (Aa3 rfl) rfl rfl rfl .nil rfl ?_;refine va 15 rfl (Aa3 rfl) rfl rfl rfl .nil rfl ?_;refine zA 16 ?_;refine Ac6 rfl (New.alloc Ae2) rfl rfl rfl (fun b8=>(Aa7 .nil .nil rfl ?_))
    refine va 17 rfl (Aa3 rfl) rfl rfl rfl .nil rfl ?_;refine zA 18 ?_;refine Ac0 rfl (Sto.store rfl rfl .here Ag5 rfl rfl) rfl rfl (Aa7 .nil .nil rfl ?_)
    refine zt ?_;refine zp 19 ?_;refine zd ?_;exact Af1 b8 (Ac1 _) (Pick.refl _)
   refine Ac6 rfl (New.alloc Ae2) rfl rfl rfl (fun b8=>(Aa7 .nil .nil rfl ?_))
   refine zA 11 ?_;refine Ab5 rfl (zF rfl Cr7) rfl rfl rfl (fun w hm=>AS8 v.p (ownQ v.t) (ownK v.t) 0 (ownC v.t) w ((hD.t v hvm).mono (by decide) hm (by simp)) (by omega)) (Aa7 .nil .nil rfl ?_)
   refine va 12 rfl (Aa3 rfl) rfl rfl rfl .nil rfl ?_;refine va 13 rfl (Aa3 rfl) rfl rfl rfl .nil rfl ?_;refine va 14 rfl (Aa3 rfl) rfl rfl rfl .nil rfl ?_;refine va 15 rfl (Aa3 rfl) rfl rfl rfl .nil rfl ?_;refine va 17 rfl (Aa3 rfl) rfl rfl rfl .nil rfl ?_;refine zA 18 ?_;refine Ac0 rfl (Sto.store rfl rfl .here Ag5 rfl rfl) rfl rfl (Aa7 .nil .nil rfl ?_)
   refine zt ?_;refine zp 19 ?_;refine zd ?_;exact Af1 b8 (zS 9 rfl (zS 7 rfl (zS 8 rfl (zS 25 rfl (zS 24 rfl (zS 23 rfl (zS 10 rfl (zS 22 rfl (zS 21 rfl (zS 20 rfl (zS 19 rfl (zS 18 rfl (zS 17 rfl (zS 16 rfl (zS 15 rfl (zS 14 rfl (zS 13 rfl (zS 12 rfl (zS 11 rfl (Sub.skip rfl (Sub.skip rfl (Sub.skip rfl (Sub.skip rfl (Sub.skip rfl (Sub.skip rfl (Sub.skip rfl (Sub.skip rfl (Sub.skip rfl (Sub.skip rfl (Sub.skip rfl (Sub.skip rfl (Sub.skip rfl (Sub.skip rfl (Sub.skip rfl (Sub.skip rfl (Sub.skip rfl (Sub.skip rfl (Sub.skip rfl (Ac1 _))))))))))))))))))))))))))))))))))))))) (.cons .here rfl .nil)
  refine J1.out (fun b8=>?_)
  refine st ?_;refine Ac2 (zF rfl At8) rfl rfl rfl (fun w hm=>Ah6 _ w) (fun e27 he27=>?_) (fun v27 hv27=>?_)
  ·obtain ⟨er27,rfl⟩:=An5 he27
   refine Aa5 ?_;exact Ae8 (by unfold movedD;rw [hpl];simp [VwX.pl,ansV,er27])
  obtain ⟨ok27,rfl⟩:=At6 hv27;refine st ?_;refine lv (Val.makeInterface rfl Ap0) ?_;refine lv (Val.makeInterface rfl Au0) ?_;refine zn (New.buildSlice (parts:=[(0,.tmp 28),(1,.tmp 30)]) rfl Ao7 Al8 rfl rfl rfl rfl) (fun b31=>?_)
  refine zc (zF rfl Au1) (fun w hm=>Ag2 [.s wMoved,.n (fewestX v.p).1] _ (Am4 wMoved [_]) b31 w (hL.mono hm) (hm.at (.head _)) (by simp) (by intro p hp;simp only [List.mem_cons,List.not_mem_nil,or_false] at hp;rcases hp with rfl | rfl;exact (show wMoved.length≤40 by decide);exact By5 v.p) (by simp [Prt.words])) ?_;exact Am3 (.r1 rfl (.tmp rfl)) (by unfold movedD;rw [hpl];simp [VwX.pl,ansV,ok27])
theorem Bz5 (i:Nat) (a1 a2 a3 a4:Int) (hi:i < d.vs.length) (wv:Value) (q:Option Addr) (b o cap:Nat) (hN:Sl W q b o 1 ([(i:Int),a1,a2,a3,a4].map intC)):Calls Tryz.prog 77 #[pV xb,wv,.slice q 5 cap] W (Try dmis (ansV (hurtsD (bareC c) d.pl i ⟨a1,a2,a3,a4⟩)) W):=by
  obtain ⟨v,hv⟩:∃ v,d.vs[i]=v:=⟨_,rfl⟩;have hvm:v∈d.vs:=hv ▸ List.getElem_mem hi;have hth:=hD.th v hvm;have hpl:=pl_view hi hv;have hS:=fun (w:World) (hm:Mem W [] [] w)=>(hD.t v hvm).mono (by decide) hm (by simp)
  have hbd:=BP4 (cardV (bareC c) v.pl) ⟨a1,a2,a3,a4⟩ (show v.p.things.length≤1000 by omega);refine Aa0 Tryz.func77 rfl rfl ?_;refine st ?_;refine Ac4 25 Aj3 .nil ?_;refine va 0 rfl (Aa3 rfl) rfl rfl rfl .nil rfl ?_;refine va 1 rfl (Aa3 rfl) rfl rfl rfl .nil rfl ?_;refine va 2 rfl (Aa8 rfl rfl Ah5 (by omega) (by omega) (hN.ptrM (i:=0) (by simp))) rfl rfl rfl .nil rfl ?_;refine va 3 rfl (Ab0 rfl (fun w hm=>hN.cellE hm (by simp) Ag4 (i:=0) (by simp) (x:=(i:Int)) rfl (j:=0) (by decide) rfl (by simp))) rfl rfl rfl .nil rfl ?_;refine va 5 rfl (Aa3 rfl) rfl rfl rfl .nil rfl ?_;refine va 6 rfl (Aa8 rfl rfl Ah5 (by omega) (by omega) (hN.ptrM (i:=1) (by simp))) rfl rfl rfl .nil rfl ?_;refine va 7 rfl (Ab0 rfl (fun w hm=>hN.cellE hm (by simp) Ag4 (i:=1) (by simp) (x:=a1) rfl (j:=0) (by decide) rfl (by simp))) rfl rfl rfl .nil rfl ?_;refine va 8 rfl (Aa3 rfl) rfl rfl rfl .nil rfl ?_;refine va 9 rfl (Aa8 rfl rfl Ah5 (by omega) (by omega) (hN.ptrM (i:=2) (by simp))) rfl rfl rfl .nil rfl ?_;refine va 10 rfl (Ab0 rfl (fun w hm=>hN.cellE hm (by simp) Ag4 (i:=2) (by simp) (x:=a2) rfl (j:=0) (by decide) rfl (by simp))) rfl rfl rfl .nil rfl ?_;refine va 11 rfl (Aa3 rfl) rfl rfl rfl .nil rfl ?_;refine va 12 rfl (Aa8 rfl rfl Ah5 (by omega) (by omega) (hN.ptrM (i:=3) (by simp))) rfl rfl rfl .nil rfl ?_;refine va 13 rfl (Ab0 rfl (fun w hm=>hN.cellE hm (by simp) Ag4 (i:=3) (by simp) (x:=a3) rfl (j:=0) (by decide) rfl (by simp))) rfl rfl rfl .nil rfl ?_;refine va 14 rfl (Aa3 rfl) rfl rfl rfl .nil rfl ?_;refine va 15 rfl (Aa8 rfl rfl Ah5 (by omega) (by omega) (hN.ptrM (i:=4) (by simp))) rfl rfl rfl .nil rfl ?_;refine va 16 rfl (Ab0 rfl (fun w hm=>hN.cellE hm (by simp) Ag4 (i:=4) (by simp) (x:=a4) rfl (j:=0) (by decide) rfl (by simp))) rfl rfl rfl .nil rfl ?_;refine va 17 rfl (Val.build (parts:=[(0,.tmp 18),(1,.tmp 21),(2,.tmp 24),(3,.tmp 27)]) rfl An6 AF2 rfl) rfl rfl rfl .nil rfl ?_;refine zA 4 ?_;refine Ab5 rfl (zF rfl Bp5) rfl rfl rfl (fun w hm=>Av1 xb d c w (hD.mono hm) i v hi hv) (Aa7 .nil .nil rfl ?_)
  refine zA 18 ?_;refine Ab5 rfl (zF rfl CZ0) rfl rfl rfl (fun w hm=>BL9 (cardV (bareC c) v.pl) ⟨a1,a2,a3,a4⟩ (ownQ v.t) (ownK v.t) 0 (ownC v.t) w ((show Sl W (ownQ v.t) (ownK v.t) 0 9 ((cardV (bareC c) v.pl).p.things.map Th.cells) from hD.t v hvm).mono (by decide) hm (by simp)) (show v.p.things.length≤100000000000 by omega)) (Aa7 .nil .nil rfl ?_)
  refine va 19 rfl (Aa3 rfl) rfl rfl rfl .nil rfl ?_;refine va 20 rfl (Aa3 rfl) rfl rfl rfl .nil rfl ?_;refine va 21 rfl (Aa3 rfl) rfl rfl rfl .nil rfl ?_;refine va 22 rfl (Aa3 rfl) rfl rfl rfl .nil rfl ?_;refine va 23 rfl (Aa3 rfl) rfl rfl rfl .nil rfl ?_;refine va 24 rfl (Aa3 rfl) rfl rfl rfl .nil rfl ?_;refine zt ?_;refine zp 25 ?_;refine zd ?_;refine st ?_;refine cn rfl ?_ ?_
  ·intro c0'
   refine st ?_;refine lv (Val.makeInterface rfl Ap0) ?_;refine lv (Val.makeInterface rfl Au0) ?_;refine lv (Val.makeInterface rfl Au0) ?_;refine zn (New.buildSlice (parts:=[(0,.tmp 35),(1,.tmp 37),(2,.tmp 39)]) rfl Ao7 Al8 rfl rfl rfl rfl) (fun b40=>?_)
   refine zc (zF rfl Au1) (fun w hm=>Ag2 [.s wHurts,.n (hurtsX (cardV (bareC c) v.pl) ⟨a1,a2,a3,a4⟩).1,.n (hurtsX (cardV (bareC c) v.pl) ⟨a1,a2,a3,a4⟩).2.1] _ (Am4 wHurts [_,_]) b40 w (hL.mono hm) (hm.at (.head _)) (by simp) (by intro p hp;simp only [List.mem_cons,List.not_mem_nil,or_false] at hp;rcases hp with rfl | rfl | rfl;exact (show wHurts.length≤40 by decide);exact hbd.1;exact hbd.2) (by simp [Prt.words])) ?_;exact Am3 (.r1 rfl (.tmp rfl)) (by have c0x:=c0';unfold hurtsD;rw [hpl];simp [ansV,c0x])
  intro c0';refine st ?_;refine Ac2 (zF rfl At8) rfl rfl rfl (fun w hm=>Ah6 _ w) (fun e43 he43=>?_) (fun v43 hv43=>?_)
  ·obtain ⟨er43,rfl⟩:=An5 he43
   refine Aa5 ?_;exact Ae8 (by have c0x:=c0';unfold hurtsD;rw [hpl];simp [ansV,er43,c0x])
  obtain ⟨ok43,rfl⟩:=At6 hv43;refine st ?_;refine lv (Val.makeInterface rfl Ap0) ?_;refine lv (Val.makeInterface rfl Ap0) ?_;refine zn (New.buildSlice (parts:=[(0,.tmp 44),(1,.tmp 45)]) rfl Ao7 Al8 rfl rfl rfl rfl) (fun b46=>?_)
  refine zc (zF rfl Au1) (fun w hm=>Ag2 [.s wHurts,.s wNone] _ (AZ4 wHurts [wNone]) b46 w (hL.mono hm) (hm.at (.head _)) (by simp) (by intro p hp;simp only [List.mem_cons,List.not_mem_nil,or_false] at hp;rcases hp with rfl | rfl;exact (show wHurts.length≤40 by decide);exact (show wNone.length≤40 by decide)) (by simp [Prt.words])) ?_;exact Am3 (.r1 rfl (.tmp rfl)) (by have c0x:=c0';unfold hurtsD;rw [hpl];simp [ansV,ok43,wHurts,wNone])
theorem BJ8 (i:Nat) (hi:i < d.vs.length) (wv:Value) (q:Option Addr) (b o cap:Nat) (hN:Sl W q b o 1 ([(i:Int)].map intC)):Calls Tryz.prog 79 #[pV xb,wv,.slice q 1 cap] W (Try dmis (ansV (deepD (bareC c) d.pl i)) W):=by
  obtain ⟨v,hv⟩:∃ v,d.vs[i]=v:=⟨_,rfl⟩;have hvm:v∈d.vs:=hv ▸ List.getElem_mem hi;have hth:=hD.th v hvm;have hpl:=pl_view hi hv;have hS:=fun (w:World) (hm:Mem W [] [] w)=>(hD.t v hvm).mono (by decide) hm (by simp)
  refine Aa0 Tryz.func79 rfl rfl ?_;refine st ?_;refine Ac4 8 Aj3 .nil ?_;refine va 0 rfl (Aa3 rfl) rfl rfl rfl .nil rfl ?_;refine va 1 rfl (Aa3 rfl) rfl rfl rfl .nil rfl ?_;refine va 2 rfl (Val.fieldAddr rfl AD1) rfl rfl rfl .nil rfl ?_;refine va 3 rfl (Val.fieldAddr rfl AN2) rfl rfl rfl .nil rfl ?_;refine va 4 rfl (Aa2 rfl hD.ob (by simp) Bs7 rfl) rfl rfl rfl .nil rfl ?_;refine va 5 rfl (Aa3 rfl) rfl rfl rfl .nil rfl ?_;refine va 6 rfl (Aa8 rfl rfl Ah5 (by omega) (by omega) (hN.ptrM (i:=0) (by simp))) rfl rfl rfl .nil rfl ?_;refine va 7 rfl (Ab0 rfl (fun w hm=>hN.cellE hm (by simp) Ag4 (i:=0) (by simp) (x:=(i:Int)) rfl (j:=0) (by decide) rfl (by simp))) rfl rfl rfl .nil rfl ?_;refine zt ?_;refine zo 8 rfl (Aa8 rfl rfl AE4 (by omega) (by omega) (hD.v.ptrM hi)) ?_;refine zp 9 ?_;refine zd ?_;refine st ?_;refine Ac2 (zF rfl Cr6) rfl rfl rfl (fun w hm=>AR9 (ownQ d.v) (ownK d.v) 0 _ d.vs i v v.up w (hD.v.mono (by decide) hm (by simp)) hi hv rfl (by simp)) (fun e20 he20=>?_) (fun v20 hv20=>?_)
  ·obtain ⟨er20,rfl⟩:=Ae0 he20
   refine Aa5 ?_;exact Ae8 (by unfold deepD;rw [hpl];simp [VwX.pl,ansV,er20])
  obtain ⟨ok20,rfl⟩:=Ae7 hv20;refine nnx ?_;refine RunC.seq ?_
  apply Al3 (J:=J1 _ _ _ _ _ _) 15 Aj3 .nil
  ·refine va 0 rfl (Aa3 rfl) rfl rfl rfl .nil rfl ?_
   refine va 1 rfl (Aa3 rfl) rfl rfl rfl .nil rfl ?_;refine va 2 rfl (Aa8 rfl rfl Ah5 (by omega) (by omega) (hN.ptrM (i:=0) (by simp))) rfl rfl rfl .nil rfl ?_;refine va 3 rfl (Ab0 rfl (fun w hm=>hN.cellE hm (by simp) Ag4 (i:=0) (by simp) (x:=(i:Int)) rfl (j:=0) (by decide) rfl (by simp))) rfl rfl rfl .nil rfl ?_;refine va 5 rfl (Aa3 rfl) rfl rfl rfl .nil rfl ?_;refine va 6 rfl (Aa3 rfl) rfl rfl rfl .nil rfl ?_;refine va 7 rfl (Val.fieldAddr rfl BP7) rfl rfl rfl .nil rfl ?_;refine va 8 rfl (Ab0 rfl (fun w hm=>hD.v.loadPart hm (by simp) AE8 hi hv (j:=8) (by decide) (vs:=v.cuts.cells) rfl (by decide) (by simp))) rfl rfl rfl .nil rfl ?_;refine Ag7 (rs:=[4,13]) (by kernel_rfl) (by simp) (by kernel_rfl) (fun m hm=>?_)
   simp only [List.mem_cons,List.not_mem_nil,or_false] at hm
   rcases hm with rfl | rfl
   ·refine Ab5 rfl (zF rfl Bp5) rfl rfl rfl (fun w hm=>Av1 xb d c w (hD.mono hm) i v hi hv) (Aa7 .nil .nil rfl ?_)
    refine Ag7 (rs:=[9,13]) (by kernel_rfl) (by simp) (by kernel_rfl) (fun m hm=>?_)
    simp only [List.mem_cons,List.not_mem_nil,or_false] at hm
    rcases hm with rfl | rfl
    ·refine Ab5 rfl (zF rfl BI5) rfl rfl rfl (fun w hm=>AG7 (cardV (bareC c) v.pl) v.cuts (ownQ v.t) (ownK v.t) 0 (ownC v.t) w ((show Sl W (ownQ v.t) (ownK v.t) 0 9 ((cardV (bareC c) v.pl).p.things.map Th.cells) from hD.t v hvm).mono (by decide) hm (by simp)) (show v.p.things.length≤100000000000 by omega)) (Aa7 .nil .nil rfl ?_)
     refine va 10 rfl (Aa3 rfl) rfl rfl rfl .nil rfl ?_;refine va 11 rfl (Aa3 rfl) rfl rfl rfl .nil rfl ?_;refine va 12 rfl (Aa3 rfl) rfl rfl rfl .nil rfl ?_;refine zA 13 ?_;refine Ac6 rfl (New.alloc Ae2) rfl rfl rfl (fun b8=>(Aa7 .nil .nil rfl ?_))
     refine zA 14 ?_;refine Ac0 rfl (Sto.store rfl rfl .here Ag5 rfl rfl) rfl rfl (Aa7 .nil .nil rfl ?_)
     refine zt ?_;refine zp 15 ?_;refine zd ?_;exact Af1 b8 (Ac1 _) (Pick.refl _)
    refine Ac6 rfl (New.alloc Ae2) rfl rfl rfl (fun b8=>(Aa7 .nil .nil rfl ?_))
    refine zA 9 ?_;refine Ab5 rfl (zF rfl BI5) rfl rfl rfl (fun w hm=>AG7 (cardV (bareC c) v.pl) v.cuts (ownQ v.t) (ownK v.t) 0 (ownC v.t) w ((show Sl W (ownQ v.t) (ownK v.t) 0 9 ((cardV (bareC c) v.pl).p.things.map Th.cells) from hD.t v hvm).mono (by decide) hm (by simp)) (show v.p.things.length≤100000000000 by omega)) (Aa7 .nil .nil rfl ?_)
    refine va 10 rfl (Aa3 rfl) rfl rfl rfl .nil rfl ?_;refine va 11 rfl (Aa3 rfl) rfl rfl rfl .nil rfl ?_;refine va 12 rfl (Aa3 rfl) rfl rfl rfl .nil rfl ?_;refine zA 14 ?_;refine Ac0 rfl (Sto.store rfl rfl .here Ag5 rfl rfl) rfl rfl (Aa7 .nil .nil rfl ?_)
    refine zt ?_;refine zp 15 ?_;refine zd ?_;exact Af1 b8 (zS 9 rfl (zS 8 rfl (zS 33 rfl (zS 32 rfl (zS 21 rfl (zS 31 rfl (zS 26 rfl (zS 30 rfl (zS 29 rfl (zS 28 rfl (zS 27 rfl (zS 25 rfl (zS 24 rfl (zS 23 rfl (zS 22 rfl (Sub.skip rfl (Sub.skip rfl (Sub.skip rfl (Sub.skip rfl (Sub.skip rfl (Sub.skip rfl (Sub.skip rfl (Sub.skip rfl (Sub.skip rfl (Sub.skip rfl (Sub.skip rfl (Sub.skip rfl (Sub.skip rfl (Sub.skip rfl (Sub.skip rfl (Ac1 _))))))))))))))))))))))))))))))) (.cons .here rfl .nil)
   refine Ac6 rfl (New.alloc Ae2) rfl rfl rfl (fun b8=>(Aa7 .nil .nil rfl ?_))
   refine zA 4 ?_;refine Ab5 rfl (zF rfl Bp5) rfl rfl rfl (fun w hm=>Av1 xb d c w (hD.mono hm) i v hi hv) (Aa7 .nil .nil rfl ?_)
   refine zA 9 ?_;refine Ab5 rfl (zF rfl BI5) rfl rfl rfl (fun w hm=>AG7 (cardV (bareC c) v.pl) v.cuts (ownQ v.t) (ownK v.t) 0 (ownC v.t) w ((show Sl W (ownQ v.t) (ownK v.t) 0 9 ((cardV (bareC c) v.pl).p.things.map Th.cells) from hD.t v hvm).mono (by decide) hm (by simp)) (show v.p.things.length≤100000000000 by omega)) (Aa7 .nil .nil rfl ?_)
   refine va 10 rfl (Aa3 rfl) rfl rfl rfl .nil rfl ?_;refine va 11 rfl (Aa3 rfl) rfl rfl rfl .nil rfl ?_;refine va 12 rfl (Aa3 rfl) rfl rfl rfl .nil rfl ?_;refine zA 14 ?_;refine Ac0 rfl (Sto.store rfl rfl .here Ag5 rfl rfl) rfl rfl (Aa7 .nil .nil rfl ?_)
   refine zt ?_;refine zp 15 ?_;refine zd ?_;exact Af1 b8 (zS 9 rfl (zS 8 rfl (zS 33 rfl (zS 32 rfl (zS 21 rfl (zS 31 rfl (zS 26 rfl (zS 30 rfl (zS 29 rfl (zS 28 rfl (zS 27 rfl (zS 25 rfl (zS 24 rfl (zS 23 rfl (zS 22 rfl (Sub.skip rfl (Sub.skip rfl (Sub.skip rfl (Sub.skip rfl (Sub.skip rfl (Sub.skip rfl (Sub.skip rfl (Sub.skip rfl (Sub.skip rfl (Sub.skip rfl (Sub.skip rfl (Sub.skip rfl (Sub.skip rfl (Sub.skip rfl (Sub.skip rfl (Ac1 _))))))))))))))))))))))))))))))) (.cons .here rfl .nil)
  refine J1.out (fun b8=>?_)
  refine st ?_;refine Ac2 (zF rfl At8) rfl rfl rfl (fun w hm=>Ah6 _ w) (fun e35 he35=>?_) (fun v35 hv35=>?_)
  ·obtain ⟨er35,rfl⟩:=An5 he35
   refine Aa5 ?_;exact Ae8 (by unfold deepD;rw [hpl];simp [ansV,show v.pl.up=true from ok20,show (depthsX (cardV (bareC c) v.pl) v.pl.cuts).2 ≠ 0 from er35];rfl)
  obtain ⟨ok35,rfl⟩:=At6 hv35;refine st ?_;refine lu (Val.makeInterface rfl Ap0) ?_;refine lv (Val.makeInterface rfl BF4) ?_;refine zn (New.buildSlice (parts:=[(0,.tmp 36),(1,.tmp 38)]) rfl Ao7 Al8 rfl rfl rfl rfl) (fun b39=>?_)
  refine zc (zF rfl Au1) (fun w hm=>Ag2 [.s wDeep,.sp (depthsX (cardV (bareC c) v.pl) v.cuts).1.1 (depthsX (cardV (bareC c) v.pl) v.cuts).1.2] _ (Am4 wDeep [_,_]) b39 w (hL.mono hm) (hm.at (.head _)) (by simp) (by intro p hp;simp only [List.mem_cons,List.not_mem_nil,or_false] at hp;rcases hp with rfl | rfl;exact (show wDeep.length≤40 by decide);exact Bb2 _ _) (by simp [Prt.words])) ?_;exact Am3 (.r1 rfl (.tmp rfl)) (by unfold deepD;rw [hpl];simp [ansV,show v.pl.up=true from ok20,show (depthsX (cardV (bareC c) v.pl) v.pl.cuts).2=0 from ok35];rfl)
theorem BJ1 (wv nv:Value):Calls Tryz.prog 83 #[pV xb,wv,nv] W (Try dmis (ansV (waysD d.pl)) W):=by
  have hpl:=d.mx_pl;refine Aa0 Tryz.func83 rfl rfl ?_;refine su ?_;refine lv (Ag9 rfl hD.ob (by simp) Cd2 rfl) ?_;refine zc (zF rfl Dj7) (fun w hm=>Bz7 d.mx hD.sm w (hD.m.mono0 hm)) ?_;refine Ac2 (zF rfl At8) rfl rfl rfl (fun w hm=>Ah6 _ w) (fun e19 he19=>?_) (fun v19 hv19=>?_)
  ·obtain ⟨er19,rfl⟩:=An5 he19
   refine Aa5 ?_;exact Ae8 (by unfold waysD;rw [← hpl];simp [ansV,er19])
  obtain ⟨ok19,rfl⟩:=At6 hv19;refine st ?_;refine lv (Val.makeInterface rfl Ap0) ?_;refine lv (Val.makeInterface rfl Au0) ?_;refine zn (New.buildSlice (parts:=[(0,.tmp 20),(1,.tmp 22)]) rfl Ao7 Al8 rfl rfl rfl rfl) (fun b23=>?_)
  refine zc (zF rfl Au1) (fun w hm=>Ag2 [.s wWays,.n (CountX d.mx.pl).1] _ (Am4 wWays [_]) b23 w (hL.mono hm) (hm.at (.head _)) (by simp) (by intro p hp;simp only [List.mem_cons,List.not_mem_nil,or_false] at hp;rcases hp with rfl | rfl;exact (show wWays.length≤40 by decide);exact BR0 d.mx) (by simp [Prt.words])) ?_;exact Am3 (.r1 rfl (.tmp rfl)) (by unfold waysD;rw [← hpl];simp [ansV,ok19])
theorem Bz1 (k:Nat) (wv:Value) (q:Option Addr) (b o cap:Nat) (hN:Sl W q b o 1 ([(k:Int)].map intC)):Calls Tryz.prog 84 #[pV xb,wv,.slice q 1 cap] W (Try dmis (ansV (whichD d.pl k)) W):=by
  have hpl:=d.mx_pl;have hpc:d.pl.heap.cards=d.cs:=rfl
  by_cases hw:waysE d.mx.pl=0
  · have hs0:(SureX d.mx.pl).2=0:=by unfold SureX;rw [if_pos hw]
    have hsl:(SureX d.mx.pl).1.length=d.cs.length:=by unfold SureX;rw [if_pos hw];simp [DkX.mx,MxA.pl]
    have hsb:=BD8 d.mx;refine Aa0 Tryz.func84 rfl rfl ?_;refine st ?_;refine Ac4 10 Aj3 .nil ?_;refine va 0 rfl (Aa3 rfl) rfl rfl rfl .nil rfl ?_;refine va 1 rfl (Aa8 rfl rfl Ah5 (by omega) (by omega) (hN.ptrM (i:=0) (by simp))) rfl rfl rfl .nil rfl ?_;refine va 2 rfl (Ab0 rfl (fun w hm=>hN.cellE hm (by simp) Ag4 (i:=0) (by simp) (x:=(k:Int)) rfl (j:=0) (by decide) rfl (by simp))) rfl rfl rfl .nil rfl ?_;refine va 3 rfl (Aa3 rfl) rfl rfl rfl .nil rfl ?_;refine va 4 rfl (Aa3 rfl) rfl rfl rfl .nil rfl ?_;refine va 5 rfl (Val.fieldAddr rfl AD1) rfl rfl rfl .nil rfl ?_;refine va 6 rfl (Val.fieldAddr rfl Bo1) rfl rfl rfl .nil rfl ?_;refine va 7 rfl (Val.fieldAddr rfl AI3) rfl rfl rfl .nil rfl ?_;refine va 8 rfl (Aa2 rfl hD.ob (by simp) Bm0 rfl) rfl rfl rfl .nil rfl ?_;refine va 9 rfl (Al1 rfl AT1) rfl rfl rfl .nil rfl ?_;refine zt ?_;refine zp 10 ?_;refine zB 11 ?_;refine Am7 rfl (zF rfl Al7) rfl rfl rfl (fun w hm=>Ad8 _ _ w) (fun e19 he19=>?_) (fun v19 hv19=>(Ab9 ?_))
    ·obtain ⟨er19,rfl⟩:=Ae0 he19
     have hk:¬ k < d.cs.length:=by have:=of_decide_eq_false er19;omega
     refine Aa5 ?_;exact Ae8 (by unfold whichD;rw [hpc,if_pos hk];rfl)
    obtain ⟨ok19,rfl⟩:=Ae7 hv19;have hk:k < d.cs.length:=by have:=of_decide_eq_true ok19;omega
    refine zd ?_;refine st ?_;refine Ac4 5 Aj3 .nil ?_;refine va 0 rfl (Aa3 rfl) rfl rfl rfl .nil rfl ?_;refine va 2 rfl (Aa3 rfl) rfl rfl rfl .nil rfl ?_;refine va 3 rfl (Aa8 rfl rfl Ah5 (by omega) (by omega) (hN.ptrM (i:=0) (by simp))) rfl rfl rfl .nil rfl ?_;refine va 4 rfl (Ab0 rfl (fun w hm=>hN.cellE hm (by simp) Ag4 (i:=0) (by simp) (x:=(k:Int)) rfl (j:=0) (by decide) rfl (by simp))) rfl rfl rfl .nil rfl ?_;refine zA 1 ?_;refine Ax4 [] _ rfl rfl (zF rfl Ba9) rfl rfl rfl (fun w hm=>Bp8 xb d c w (hD.mono hm) hw) (fun z21=>(Aa7 .nil .nil rfl ?_))
    obtain ⟨y21,hy21⟩:=z21;dsimp only;refine zt ?_;refine zo 5 rfl (Aa8 rfl rfl Ah5 (by omega) (by omega) (Bm9 hy21 (by omega))) ?_;refine zo 6 rfl (Ab0 rfl (fun w hm=>Sl.loadM1 (Ar5 (f:=fun x:Int=>[Value.int .i64 x]) (e:=3) (fun _=>rfl) (by decide) hy21 (fun b o h=>hm.at (show (b,o)∈ownB 3 y21 (intsW (SureX d.mx.pl).1).flatten++[] from List.mem_append_left _ h))) (by decide) (Mem.refl w) (by simp) Ag4 (i:=k) (by rw [hsl];exact hk) (v:=.int .i64 ((SureX d.mx.pl).1.getD k 0)) (by simp [List.getD_eq_getElem?_getD,hsl,hk]))) ?_;refine zp 7 ?_;refine zd ?_;refine st ?_;refine cn rfl ?_ ?_
    ·intro c0'
     have hin:(SureX d.mx.pl).1.getD k 0∈(SureX d.mx.pl).1:=by (rw [List.getD_eq_getElem?_getD,List.getElem?_eq_getElem (by omega)];exact List.getElem_mem _)
     have c0x:¬ (SureX d.mx.pl).1.getD k 0 = -1:=by simpa using c0'
     refine st ?_;refine lv (Val.makeInterface rfl Ap0) ?_;refine lv (Val.makeInterface rfl Au0) ?_;refine zn (New.buildSlice (parts:=[(0,.tmp 29),(1,.tmp 31)]) rfl Ao7 Al8 rfl rfl rfl rfl) (fun b32=>?_)
     refine zc (zF rfl Au1) (fun w hm=>Ag2 [.s wWhich,.n ((SureX d.mx.pl).1.getD k 0)] _ (Am4 wWhich [_]) b32 w (hL.mono hm) (hm.at (.head _)) (by simp) (by intro p hp;simp only [List.mem_cons,List.not_mem_nil,or_false] at hp;rcases hp with rfl | rfl;exact (show wWhich.length≤40 by decide);exact hsb _ hin) (by simp [Prt.words])) ?_;exact Am3 (.r1 rfl (.tmp rfl)) (by unfold whichD;rw [← hpl,hs0,if_neg (fun h=>h (by rw [hpl,hpc];exact hk)),if_neg (by decide)];dsimp only;rw [if_neg c0x];rfl)
    intro c0';have c0x:(SureX d.mx.pl).1.getD k 0 = -1:=by simpa using c0'
    refine st ?_;refine lv (Val.makeInterface rfl Ap0) ?_;refine lv (Val.makeInterface rfl Ap0) ?_;refine zn (New.buildSlice (parts:=[(0,.tmp 34),(1,.tmp 35)]) rfl Ao7 Al8 rfl rfl rfl rfl) (fun b36=>?_)
    refine zc (zF rfl Au1) (fun w hm=>Ag2 [.s wWhich,.s wDoubt] _ (AZ4 wWhich [wDoubt]) b36 w (hL.mono hm) (hm.at (.head _)) (by simp) (by intro p hp;simp only [List.mem_cons,List.not_mem_nil,or_false] at hp;rcases hp with rfl | rfl;exact (show wWhich.length≤40 by decide);exact (show wDoubt.length≤40 by decide)) (by simp [Prt.words])) ?_;exact Am3 (.r1 rfl (.tmp rfl)) (by unfold whichD;rw [← hpl,hs0,if_neg (fun h=>h (by rw [hpl,hpc];exact hk)),if_neg (by decide)];dsimp only;rw [if_pos c0x];rfl)
  · have hs0:(SureX d.mx.pl).2=waysE d.mx.pl:=by unfold SureX;rw [if_neg hw]
    refine Aa0 Tryz.func84 rfl rfl ?_;refine st ?_;refine Ac4 10 Aj3 .nil ?_;refine va 0 rfl (Aa3 rfl) rfl rfl rfl .nil rfl ?_;refine va 1 rfl (Aa8 rfl rfl Ah5 (by omega) (by omega) (hN.ptrM (i:=0) (by simp))) rfl rfl rfl .nil rfl ?_;refine va 2 rfl (Ab0 rfl (fun w hm=>hN.cellE hm (by simp) Ag4 (i:=0) (by simp) (x:=(k:Int)) rfl (j:=0) (by decide) rfl (by simp))) rfl rfl rfl .nil rfl ?_;refine va 3 rfl (Aa3 rfl) rfl rfl rfl .nil rfl ?_;refine va 4 rfl (Aa3 rfl) rfl rfl rfl .nil rfl ?_;refine va 5 rfl (Val.fieldAddr rfl AD1) rfl rfl rfl .nil rfl ?_;refine va 6 rfl (Val.fieldAddr rfl Bo1) rfl rfl rfl .nil rfl ?_;refine va 7 rfl (Val.fieldAddr rfl AI3) rfl rfl rfl .nil rfl ?_;refine va 8 rfl (Aa2 rfl hD.ob (by simp) Bm0 rfl) rfl rfl rfl .nil rfl ?_;refine va 9 rfl (Al1 rfl AT1) rfl rfl rfl .nil rfl ?_;refine zt ?_;refine zp 10 ?_;refine zB 11 ?_;refine Am7 rfl (zF rfl Al7) rfl rfl rfl (fun w hm=>Ad8 _ _ w) (fun e19 he19=>?_) (fun v19 hv19=>(Ab9 ?_))
    ·obtain ⟨er19,rfl⟩:=Ae0 he19
     have hk:¬ k < d.cs.length:=by have:=of_decide_eq_false er19;omega
     refine Aa5 ?_;exact Ae8 (by unfold whichD;rw [hpc,if_pos hk];rfl)
    obtain ⟨ok19,rfl⟩:=Ae7 hv19;have hk:k < d.cs.length:=by have:=of_decide_eq_true ok19;omega
    refine zd ?_;refine st ?_;refine Ac4 5 Aj3 .nil ?_;refine va 0 rfl (Aa3 rfl) rfl rfl rfl .nil rfl ?_;refine va 2 rfl (Aa3 rfl) rfl rfl rfl .nil rfl ?_;refine va 3 rfl (Aa8 rfl rfl Ah5 (by omega) (by omega) (hN.ptrM (i:=0) (by simp))) rfl rfl rfl .nil rfl ?_;refine va 4 rfl (Ab0 rfl (fun w hm=>hN.cellE hm (by simp) Ag4 (i:=0) (by simp) (x:=(k:Int)) rfl (j:=0) (by decide) rfl (by simp))) rfl rfl rfl .nil rfl ?_;refine zA 1 ?_;refine Am7 rfl (zF rfl Ba9) rfl rfl rfl (fun w hm=>BQ6 xb d c w (hD.mono hm) hw) (fun e21 he21=>?_) (fun v21 hv21=>(Aa7 .nil .nil rfl ?_))
    ·refine Aa5 ?_
     refine Aa5 ?_;exact Ae8 (by cases he21;unfold whichD;rw [← hpl,hs0,if_neg (fun h=>h (by rw [hpl,hpc];exact hk)),if_pos hw];rfl)
    cases hv21
end
end Go.Proofs.YtnmkdiagbkkmaabGreatDoor
namespace Go.Proofs.YtnmkdiagbkkmaabGreatDoor
open Go Go.Eng
theorem Da2:apB Tryz.prog 24=some (66,9,72):=by kernel_rfl
theorem Dk7:apB Tryz.prog 39=some (70,3,40):=by kernel_rfl
theorem Dc9:Tryz.prog.underlying 24=some (.slice 66):=by kernel_rfl
theorem Dc8:Tryz.prog.underlying 29=some (.slice 9):=by kernel_rfl
theorem Dc7:Tryz.prog.underlying 39=some (.slice 70):=by kernel_rfl
end Go.Proofs.YtnmkdiagbkkmaabGreatDoor
namespace Go.Dk
open Go Go.Eng Go.RowKit Go.Pw1 Go.Hp
abbrev OC (sz:Nat) (n:Nat) (xs:List Value):={ x:Eng.Own // OwnOk sz x n xs }
/-! ### One view changes -/
theorem DkX.pl_set {d:DkX} {i:Nat} {v:VwX}:(DkX.pl { d with vs:=d.vs.set i v })=putV d.pl i v.pl:=by
  unfold DkX.pl putV;dsimp only;rw [List.map_set]
theorem AW2 (vs:List VwX):(vs.map VwX.cells).flatten.length=vs.length * 13:=Ak1 (f:=VwX.cells) (fun _=>rfl) vs
theorem DkOk.set {d:DkX} (h:DkOk d) {i:Nat} {v:VwX} (hv:OwnOk 9 v.t v.p.things.length (v.p.things.map Th.cells).flatten) (ht:v.p.things.length≤12):DkOk { d with vs:=d.vs.set i v }:=by
  refine ⟨?_,fun x hx=>?_,h.b,h.bs,h.c,?_,fun x hx=>?_,h.ti,h.tx⟩
  · show OwnOk 13 d.v (d.vs.set i v).length ((d.vs.set i v).map VwX.cells).flatten
    rw [List.length_set];exact BF1 h.v (by rw [AW2,AW2,List.length_set])
  · rcases List.mem_or_eq_of_mem_set hx with hx | rfl
    · exact h.vs x hx
    · exact hv
  · show (d.vs.set i v).length≤4∧_
    rw [List.length_set];exact h.few
  · rcases List.mem_or_eq_of_mem_set hx with hx | rfl
    · exact h.things x hx
    · exact ht
theorem BW7 {α:Type} {l:List α} {k:Nat} (hk:k < l.length) {x:α} (hx:l[k]=x) (f:α→α):l.modify k f=l.set k (f x):=by
  subst hx;refine List.ext_getElem (by simp) fun i h1 h2=>?_
  rw [List.getElem_modify,List.getElem_set]
  by_cases h:k=i
  · subst h;simp
  · rw [if_neg h,if_neg h]
end Go.Dk
namespace Go.Proofs.YtnmkdiagbkkmaabGreatDoor
open Go Go.Eng Go.Dk Go.RowKit Go.Pw1 Go.Hp

theorem AD6 (l:List Th) (hl:l.length≤1000) (q:Option Addr) (b o cap:Nat) (W:World) (hS:Sl W q b o 9 (l.map Th.cells)) (hq0:q=none→cap=0):Calls Tryz.prog 28 #[.slice q l.length cap] W (News (fun z:OC 9 l.length (l.map Th.cells).flatten=>.slice (ownQ z.1) l.length (ownC z.1)) (fun z=>ownB 66 z.1 (l.map Th.cells).flatten++[]) W):=by
  cases q with
  | none =>
    have hn:l=[]:=by
      cases l with
      | nil=>rfl
      | cons a l=>exact absurd (hS.at' (by simp)) (by simp)
    subst hn;obtain rfl:=hq0 rfl;refine Aa0 Tryz.func28 rfl rfl ?_;refine st ?_;refine lv (AE0 (e:=66) rfl (by kernel_rfl)) ?_;refine RunC.cond rfl ?_ (fun h=>absurd h (by simp))
    intro c0;clear c0;refine su ?_;exact RunE.ret (chg:=[]) (.r1 rfl (.tmp rfl)) (fun _ hm=>⟨⟨none,OwnOk.start⟩,rfl,hm⟩)
  | some ad =>
    have hfl:(l.map Th.cells).flatten.length=l.length * 9:=Ak1 (f:=Th.cells) (fun _=>rfl) l;refine Aa0 Tryz.func28 rfl rfl ?_;refine st ?_;refine lv (Az2 rfl Dc9) ?_;refine RunC.cond rfl (fun h=>absurd h (by simp)) ?_;intro c0;clear c0;refine st ?_;refine zn (Ap6 AE5) (fun b5=>?_)
    refine RunL.append (A:=[]) (B:=_) (x:=(some (b5,0,[]))) (ys:=(l.map Th.cells).flatten) Da2 rfl rfl rfl OwnOk.empty hfl (fun h=>by cases h) (fun w hm=>(hS.mono (by decide) hm (by simp)).flat (by decide)) (AH7 (fun _=>rfl) _) (by simp only [maxLen];omega) (by omega) rfl (fun z7 hz7=>?_)
    refine su ?_;exact RunE.ret (chg:=[]) (.r1 rfl (.tmp rfl)) (fun _ hm=>⟨⟨z7,by simpa using hz7⟩,by rw [Ad9 hz7];simp,hm.pick (Pick.refl _)⟩)
theorem AN7 (l:List Str) (hl:l.length≤1000) (q:Option Addr) (b o cap:Nat) (W:World) (hS:Sl W q b o 1 (l.map strC)) (hq0:q=none→cap=0):Calls Tryz.prog 65 #[.slice q l.length cap] W (News (fun z:OC 1 l.length (l.map strC).flatten=>.slice (ownQ z.1) l.length (ownC z.1)) (fun z=>ownB 9 z.1 (l.map strC).flatten++[]) W):=by
  cases q with
  | none =>
    have hn:l=[]:=by
      cases l with
      | nil=>rfl
      | cons a l=>exact absurd (hS.at' (by simp)) (by simp)
    subst hn;obtain rfl:=hq0 rfl;refine Aa0 Tryz.func65 rfl rfl ?_;refine st ?_;refine lv (AE0 (e:=9) rfl (by kernel_rfl)) ?_;refine RunC.cond rfl ?_ (fun h=>absurd h (by simp))
    intro c0;clear c0;refine su ?_;exact RunE.ret (chg:=[]) (.r1 rfl (.tmp rfl)) (fun _ hm=>⟨⟨none,OwnOk.start⟩,rfl,hm⟩)
  | some ad =>
    have hfl:(l.map strC).flatten.length=l.length * 1:=Ak1 (f:=strC) (fun _=>rfl) l;refine Aa0 Tryz.func65 rfl rfl ?_;refine st ?_;refine lv (Az2 rfl Dc8) ?_;refine RunC.cond rfl (fun h=>absurd h (by simp)) ?_;intro c0;clear c0;refine st ?_;refine zn (Ap6 Au5) (fun b5=>?_)
    refine RunL.append (A:=[]) (B:=_) (x:=(some (b5,0,[]))) (ys:=(l.map strC).flatten) Cu8 rfl rfl rfl OwnOk.empty hfl (fun h=>by cases h) (fun w hm=>(hS.mono (by decide) hm (by simp)).flat (by decide)) (AH7 (fun _=>rfl) _) (by simp only [maxLen];omega) (by omega) rfl (fun z7 hz7=>?_)
    refine su ?_;exact RunE.ret (chg:=[]) (.r1 rfl (.tmp rfl)) (fun _ hm=>⟨⟨z7,by simpa using hz7⟩,by rw [Ad9 hz7];simp,hm.pick (Pick.refl _)⟩)
theorem Bq3 (l:List Tn) (hl:l.length≤1000) (q:Option Addr) (b o cap:Nat) (W:World) (hS:Sl W q b o 3 (l.map Tn.cells)) (hq0:q=none→cap=0):Calls Tryz.prog 66 #[.slice q l.length cap] W (News (fun z:OC 3 l.length (l.map Tn.cells).flatten=>.slice (ownQ z.1) l.length (ownC z.1)) (fun z=>ownB 70 z.1 (l.map Tn.cells).flatten++[]) W):=by
  cases q with
  | none =>
    have hn:l=[]:=by
      cases l with
      | nil=>rfl
      | cons a l=>exact absurd (hS.at' (by simp)) (by simp)
    subst hn;obtain rfl:=hq0 rfl;refine Aa0 Tryz.func66 rfl rfl ?_;refine st ?_;refine lv (AE0 (e:=70) rfl (by kernel_rfl)) ?_;refine RunC.cond rfl ?_ (fun h=>absurd h (by simp))
    intro c0;clear c0;refine su ?_;exact RunE.ret (chg:=[]) (.r1 rfl (.tmp rfl)) (fun _ hm=>⟨⟨none,OwnOk.start⟩,rfl,hm⟩)
  | some ad =>
    have hfl:(l.map Tn.cells).flatten.length=l.length * 3:=Ak1 (f:=Tn.cells) (fun _=>rfl) l;refine Aa0 Tryz.func66 rfl rfl ?_;refine st ?_;refine lv (Az2 rfl Dc7) ?_;refine RunC.cond rfl (fun h=>absurd h (by simp)) ?_;intro c0;clear c0;refine st ?_;refine zn (Ap6 AT1) (fun b5=>?_)
    refine RunL.append (A:=[]) (B:=_) (x:=(some (b5,0,[]))) (ys:=(l.map Tn.cells).flatten) Dk7 rfl rfl rfl OwnOk.empty hfl (fun h=>by cases h) (fun w hm=>(hS.mono (by decide) hm (by simp)).flat (by decide)) (AH7 (fun _=>rfl) _) (by simp only [maxLen];omega) (by omega) rfl (fun z7 hz7=>?_)
    refine su ?_;exact RunE.ret (chg:=[]) (.r1 rfl (.tmp rfl)) (fun _ hm=>⟨⟨z7,by simpa using hz7⟩,by rw [Ad9 hz7];simp,hm.pick (Pick.refl _)⟩)
end Go.Proofs.YtnmkdiagbkkmaabGreatDoor
namespace Go.Proofs.YtnmkdiagbkkmaabGreatDoor
open Go Go.Eng
theorem BI7:Enters Tryz.prog 120:=Aa1 Tryz.func120 (by kernel_rfl) rfl
theorem CY9:Enters Tryz.prog 128:=Aa1 Tryz.func128 (by kernel_rfl) rfl
end Go.Proofs.YtnmkdiagbkkmaabGreatDoor
namespace Go.Dk
open Go Go.Eng Go.RowKit Go.Pw1 Go.Hp
theorem _root_.Go.Eng.Mem.zero {W w:World} {news:Blks} (h:Mem W [] news w):Mem W [] [] w:=h.drop
theorem Ce3 {c:Cd} {b:Bn} {i:Nat} {v:Vw} (h:b.views.getD i noVw=v) (hu:v.up=true):trimD c b i = .error 6:=by unfold trimD;rw [h];dsimp only;rw [if_pos hu]
theorem Ce2 {c:Cd} {b:Bn} {i:Nat} {v:Vw} (h:b.views.getD i noVw=v) (hu:v.up=false) (he:(trimX (cardV c v)).2 ≠ 0):trimD c b i = .error (trimX (cardV c v)).2:=by unfold trimD;rw [h];dsimp only;rw [if_neg (by rw [hu];decide),if_neg he]
theorem Cz6 {c:Cd} {b:Bn} {i:Nat} {v:Vw} (h:b.views.getD i noVw=v) (hu:v.up=false) (he:(trimX (cardV c v)).2=0):trimD c b i = .ok (putV b i ⟨v.p,(trimX (cardV c v)).1,true⟩,sayX wTrim [(trimX (cardV c v)).1.ll,(trimX (cardV c v)).1.lr,(trimX (cardV c v)).1.rl,(trimX (cardV c v)).1.rr]):=by unfold trimD;rw [h];dsimp only;rw [if_neg (by rw [hu];decide),if_pos he]
theorem CS1 {b:Bn} {i:Nat} {v:Vw} (h:b.views.getD i noVw=v) (hu:v.up=false):offD b i = .error 6:=by unfold offD;rw [h];dsimp only;rw [if_pos (by rw [hu];decide)]
theorem CS0 {b:Bn} {i:Nat} {v:Vw} (h:b.views.getD i noVw=v) (hu:v.up=true):offD b i = .ok (putV b i ⟨v.p,noTr,false⟩,sayX wOff [i]):=by unfold offD;rw [h];dsimp only;rw [if_neg (by rw [hu];decide)]
end Go.Dk
namespace Go.Proofs.YtnmkdiagbkkmaabGreatDoor
open Go Go.Eng Go.Dk Go.RowKit Go.Pw1 Go.Hp

abbrev nO (l:List Int) (r:List Value):Obj:=.cells ((l.map intC).flatten++r).toArray 3 (0,0)
abbrev vwsO (vs:List VwX) (r:List Value):Obj:=.cells ((vs.map VwX.cells).flatten++r).toArray 62 (0,0)
abbrev dkS (d:DkX):Blks:=ownB 68 d.b (d.bs.map BoX.cells).flatten++((d.bs.map boB).flatten++ownB 70 d.c (d.cs.map Tn.cells).flatten)
abbrev dkG (a b e:Value) (c:Cd):Obj:=.cells ([a,b,e]++(bareC c).cells none 0++[Value.bool true]).toArray 86 (0,0)
abbrev VerbT (W0:World) (xb:Nat) (c:Cd) (ans:Ans) (rest:Blks):Ending→World→Prop :=
  GrowT W0 [] (fun z:DkX×Str=>.string (bs z.2)) (fun z=>dkM xb z.1 c (rest++[])) (fun z=>DkOk z.1∧ans = .ok (z.1.pl,z.2)) dmis (fun z:(Value×Value×Value)×Int=>z.2) (fun z=>(xb,dkG z.1.1 z.1.2.1 z.1.2.2 c)::(rest++[])) (fun z=>ans = .error z.2)
theorem Ap8 {f:FuncId} {args:Array Value} {W0 w:World} {xb:Nat} {d:DkX} {c:Cd} {rest:Blks} {ans:Ans} (hd:DkOk d) (hm:Mem W0 [] (dkM xb d c (rest++[])) w) (h:Calls Tryz.prog f args w (Try dmis (ansV ans) w)) (hb:∀ b r,ans = .ok (b,r)→b=d.pl):Calls Tryz.prog f args w (VerbT W0 xb c ans rest) :=
  Af3 h (by
    rintro e w' ⟨he,hm'⟩
    cases ha:ans with
    | ok z =>
      rw [ha] at he;obtain ⟨b,r⟩:=z;exact .inl ⟨(d,r),⟨hd,by rw [hb b r ha]⟩,he,hm.pass hm'⟩
    | error k =>
      rw [ha] at he;exact .inr ⟨((ownV d.v d.vs.length,ownV d.b d.bs.length,ownV d.c d.cs.length),k),rfl,he,(hm.pass hm').pick (Pick.cons .here rfl (Pick.cnt fun x=>by simp only [List.count_append];omega))⟩)
theorem Bd5 {w:World} {vb:Nat} {vs:List VwX} {vr:List Value} (h:w.heap[vb]? = some (vwsO vs vr)):Sl w (some ⟨vb,0,none⟩) vb 0 13 (vs.map VwX.cells):=Sl.rowsR h (fun x hx=>by obtain ⟨v,_,rfl⟩:=List.mem_map.1 hx;rfl)
theorem Cc4 {vs:List VwX} {i:Nat} (hi:i < vs.length) {v v':VwX} (hv:vs[i]=v) (h:vwB v'=vwB v):((vs.set i v').map vwB)=vs.map vwB:=by
  rw [List.map_set,h];subst hv;refine List.ext_getElem (by simp) fun j h1 h2=>?_
  rw [List.getElem_set]
  split
  · rename_i he;subst he;simp
  · rfl
section
variable (xb vb vc:Nat) (vr:List Value) (vs:List VwX) (db:Eng.Own) (bs0:List BoX) (dc:Eng.Own) (cs:List Tn) (c:Cd) (nb nc:Nat) (nr:List Value) (wv:Value) (rest:Blks) (W0 w:World) (hL:Lw Tryz.prog W0) (hd:DkOk ⟨some (vb,vc,vr),vs,db,bs0,dc,cs⟩)
include hL hd
theorem BY5 (i:Nat) (hi:i < vs.length) (hm0:Mem W0 [] (dkM xb ⟨some (vb,vc,vr),vs,db,bs0,dc,cs⟩ c ((nb,nO [(i:Int)] nr)::(rest++[]))) w) :
    Calls Tryz.prog 78 #[pV xb,wv,.slice (some ⟨nb,0,none⟩) 1 nc] w (VerbT W0 xb c (trimD (bareC c) (DkX.pl ⟨some (vb,vc,vr),vs,db,bs0,dc,cs⟩) i) rest):=by
  obtain ⟨v,hv⟩:∃ v,vs[i]=v:=⟨_,rfl⟩;have hvm:v∈vs:=hv ▸ List.getElem_mem hi;have hth:v.p.things.length≤12:=hd.things v hvm;have hpl:(DkX.pl ⟨some (vb,vc,vr),vs,db,bs0,dc,cs⟩).views.getD i noVw=v.pl:=pl_view (d:=⟨some (vb,vc,vr),vs,db,bs0,dc,cs⟩) hi hv;have hok:OwnOk 9 v.t v.p.things.length (v.p.things.map Th.cells).flatten:=hd.vs v hvm;have hm1:Mem W0 [] ((xb,dkO ⟨some (vb,vc,vr),vs,db,bs0,dc,cs⟩ c)::(vb,vwsO vs vr)::(nb,nO [(i:Int)] nr)::((vs.map vwB).flatten++(dkS ⟨some (vb,vc,vr),vs,db,bs0,dc,cs⟩++(rest++[])))) w:=hm0.pick (Pick.cnt fun x=>by simp only [dkM,dkB,dkS,vwsO,ownB,List.count_cons,List.count_append,List.count_nil];omega);have hi0:i < (DkX.mk (some (vb,vc,vr)) vs db bs0 dc cs).vs.length:=hi;obtain ⟨t,ht⟩:∃ t,trimX (cardV (bareC c) v.pl)=t:=⟨_,rfl⟩;have hbd:=Ce5 (cardV (bareC c) v.pl);rw [ht] at hbd;have hi1:i < (vs.set i { v with cuts:=t.1 }).length:=by rw [List.length_set];exact hi
  have hv1:(vs.set i { v with cuts:=t.1 })[i]={ v with cuts:=t.1 }:=by simp
  have hsame:((vs.set i { v with cuts:=t.1,up:=true }).map vwB)=vs.map vwB:=Cc4 hi hv rfl;refine Af7 hm1 Tryz.func78 rfl rfl ?_;refine st ?_;refine Ac4 8 Aj3 (.cons .here rfl (.cons .here rfl (.cons .here rfl .nil))) ?_;refine zw 0 ?_;refine zw 1 ?_;refine zw 2 ?_;refine zw 3 ?_;refine zw 4 ?_;refine zw 5 ?_;refine zv 6 rfl (Ab4 rfl rfl Ah5 (by omega) (by omega)) ?_;refine zw 7 ?_;refine zt ?_;refine zo 8 rfl (Ab4 rfl rfl AE4 (by omega) (by omega)) ?_;refine zp 9 ?_;refine zd ?_;refine st ?_;refine Ac2 (zF rfl BI7) rfl rfl rfl (fun w hm=>AF9 (some ⟨vb,0,none⟩) vb 0 _ vs i v v.up w (Bd5 (hm.at (.tail _ (.head _)))) hi hv rfl (by simp)) (fun e20 he20=>?_) (fun v20 hv20=>?_)
  ·obtain ⟨er20,rfl⟩:=Ae0 he20
   have hu:v.pl.up=true:=(show v.up=true by simpa using er20);refine Aa5 ?_;exact Ae4 ((ownV (some (vb,vc,vr)) vs.length,ownV db bs0.length,ownV dc cs.length),6) (Ce3 hpl hu) rfl (.cons .here rfl (Pick.cnt fun x=>by simp only [nC,dkM,dkB,vwsO,nO,dkS,ownB,List.set_set,hsame];omega))
  obtain ⟨ok20,rfl⟩:=Ae7 hv20;have hu:v.pl.up=false:=(show v.up=false by simpa using ok20);refine st ?_;refine lu (Ab4 rfl rfl Ah5 (by omega) (by omega)) ?_;refine zc (zF rfl Bp5) (fun w hm=>Av1 xb ⟨some (vb,vc,vr),vs,db,bs0,dc,cs⟩ c w (An9 hd (hm.pick (news':=dkM xb ⟨some (vb,vc,vr),vs,db,bs0,dc,cs⟩ c (rest++[])) (Pick.cnt fun x=>by simp only [nC,dkM,dkB,vwsO,nO,dkS,ownB,List.set_set,hsame];omega))) i v hi hv) ?_;refine zc (zF rfl CY9) (fun w hm=>(by have h:=Ca1 (cardV (bareC c) v.pl) (ownQ v.t) (ownK v.t) 0 (ownC v.t) w ((An9 hd (hm.pick (news':=dkM xb ⟨some (vb,vc,vr),vs,db,bs0,dc,cs⟩ c (rest++[])) (Pick.cnt fun x=>by simp only [nC,dkM,dkB,vwsO,nO,dkS,ownB,List.set_set,hsame];omega))).t v hvm) (show v.p.things.length≤100000000000 by omega);rw [ht] at h;exact h)) ?_;refine zn (New.alloc An6) (fun b8=>?_)
  refine Aa9 (Sto.store rfl rfl .here AE8 rfl rfl) rfl rfl ?_;refine st ?_;refine Ac2 (zF rfl At8) rfl rfl rfl (fun w hm=>Ah6 _ w) (fun e31 he31=>?_) (fun v31 hv31=>?_)
  ·obtain ⟨er31,rfl⟩:=An5 he31
   refine Aa5 ?_;exact Ae4 ((ownV (some (vb,vc,vr)) vs.length,ownV db bs0.length,ownV dc cs.length),t.2) (by rw [← ht];exact Ce2 hpl hu (by rw [ht];exact er31)) rfl (.cons (.there .here) rfl (Pick.cnt fun x=>by simp only [nC,dkM,dkB,vwsO,nO,dkS,ownB,List.set_set,hsame];omega))
  obtain ⟨ok31,rfl⟩:=At6 hv31;refine su ?_;refine Aa9 (Sto.store (cs:=(vs.map VwX.cells).flatten++vr) (cs':=((vs.set i { v with cuts:=t.1 }).map VwX.cells).flatten++vr) rfl rfl (.there (.there .here)) AE8 rfl (Aq0 VwX.cells_len hi hv (j:=8) (by simp) rfl)) rfl rfl ?_;refine su ?_;refine Aa9 (Sto.store (cs:=((vs.set i { v with cuts:=t.1 }).map VwX.cells).flatten++vr) (cs':=(((vs.set i { v with cuts:=t.1 }).set i { v with cuts:=t.1,up:=true }).map VwX.cells).flatten++vr) rfl rfl (.there (.there .here)) BT1 rfl (Aq0 VwX.cells_len hi1 hv1 (j:=12) (by simp) rfl)) rfl rfl ?_;refine st ?_;refine lu (Val.makeInterface rfl Ap0) ?_
  iterate 3 refine lu (Val.makeInterface rfl Au0) ?_
  refine lv (Val.makeInterface rfl Au0) ?_;refine zn (New.buildSlice (parts:=[(0,.tmp 39),(1,.tmp 42),(2,.tmp 45),(3,.tmp 48),(4,.tmp 51)]) rfl Ao7 Al8 rfl rfl rfl rfl) (fun b52=>?_)
  refine zc (zF rfl Au1) (fun w hm=>Ag2 [.s wTrim,.n t.1.ll,.n t.1.lr,.n t.1.rl,.n t.1.rr] _ (Am4 wTrim [_,_,_,_]) b52 w (hL.mono (hm.zero)) (hm.at (.head _)) (by simp) (by intro p hp;simp only [List.mem_cons,List.not_mem_nil,or_false] at hp;rcases hp with rfl | rfl | rfl | rfl | rfl;exact (show wTrim.length≤40 by decide);exact hbd.1;exact hbd.2.1;exact hbd.2.2.1;exact hbd.2.2.2) (by simp [Prt.words])) ?_;exact Am8 (DkX.mk (some (vb,vc,vr)) (vs.set i { v with cuts:=t.1,up:=true }) db bs0 dc cs,sayX wTrim [t.1.ll,t.1.lr,t.1.rl,t.1.rr]) ⟨hd.set (i:=i) (v:={ v with cuts:=t.1,up:=true }) hok hth,by rw [Cz6 hpl hu (by rw [ht];exact ok31),ht];exact congrArg (fun b=>Except.ok (b,sayX wTrim [t.1.ll,t.1.lr,t.1.rl,t.1.rr])) (DkX.pl_set (d:=⟨some (vb,vc,vr),vs,db,bs0,dc,cs⟩) (i:=i) (v:={ v with cuts:=t.1,up:=true })).symm⟩ (.r1 rfl (.tmp rfl)) rfl (by simp only [List.set_set,dkM,dkO,DkX.cells,List.length_set];exact (Pick.cnt fun x=>by simp only [nC,dkM,dkB,vwsO,nO,dkS,ownB,List.set_set,hsame];omega))
theorem Cs7 (i:Nat) (hi:i < vs.length) (hm0:Mem W0 [] (dkM xb ⟨some (vb,vc,vr),vs,db,bs0,dc,cs⟩ c ((nb,nO [(i:Int)] nr)::(rest++[]))) w) :
    Calls Tryz.prog 80 #[pV xb,wv,.slice (some ⟨nb,0,none⟩) 1 nc] w (VerbT W0 xb c (offD (DkX.pl ⟨some (vb,vc,vr),vs,db,bs0,dc,cs⟩) i) rest):=by
  obtain ⟨v,hv⟩:∃ v,vs[i]=v:=⟨_,rfl⟩;have hvm:v∈vs:=hv ▸ List.getElem_mem hi;have hth:v.p.things.length≤12:=hd.things v hvm;have hpl:(DkX.pl ⟨some (vb,vc,vr),vs,db,bs0,dc,cs⟩).views.getD i noVw=v.pl:=pl_view (d:=⟨some (vb,vc,vr),vs,db,bs0,dc,cs⟩) hi hv;have hok:OwnOk 9 v.t v.p.things.length (v.p.things.map Th.cells).flatten:=hd.vs v hvm;have hm1:Mem W0 [] ((xb,dkO ⟨some (vb,vc,vr),vs,db,bs0,dc,cs⟩ c)::(vb,vwsO vs vr)::(nb,nO [(i:Int)] nr)::((vs.map vwB).flatten++(dkS ⟨some (vb,vc,vr),vs,db,bs0,dc,cs⟩++(rest++[])))) w:=hm0.pick (Pick.cnt fun x=>by simp only [dkM,dkB,dkS,vwsO,ownB,List.count_cons,List.count_append,List.count_nil];omega);have hi0:i < (DkX.mk (some (vb,vc,vr)) vs db bs0 dc cs).vs.length:=hi;have hfew:=hd.few.1;have hi1:i < (vs.set i { v with cuts:=noTr }).length:=by rw [List.length_set];exact hi
  have hv1:(vs.set i { v with cuts:=noTr })[i]={ v with cuts:=noTr }:=by simp
  have hsame:((vs.set i { v with cuts:=noTr,up:=false }).map vwB)=vs.map vwB:=Cc4 hi hv rfl;refine Af7 hm1 Tryz.func80 rfl rfl ?_;refine st ?_;refine Ac4 8 Aj3 (.cons .here rfl (.cons .here rfl (.cons .here rfl .nil))) ?_;refine zw 0 ?_;refine zw 1 ?_;refine zw 2 ?_;refine zw 3 ?_;refine zw 4 ?_;refine zw 5 ?_;refine zv 6 rfl (Ab4 rfl rfl Ah5 (by omega) (by omega)) ?_;refine zw 7 ?_;refine zt ?_;refine zo 8 rfl (Ab4 rfl rfl AE4 (by omega) (by omega)) ?_;refine zp 9 ?_;refine zd ?_;refine st ?_;refine Ac2 (zF rfl Cr6) rfl rfl rfl (fun w hm=>AR9 (some ⟨vb,0,none⟩) vb 0 _ vs i v v.up w (Bd5 (hm.at (.tail _ (.head _)))) hi hv rfl (by simp)) (fun e18 he18=>?_) (fun v18 hv18=>?_)
  ·obtain ⟨er18,rfl⟩:=Ae0 he18
   have hu:v.pl.up=false:=er18;refine Aa5 ?_;exact Ae4 ((ownV (some (vb,vc,vr)) vs.length,ownV db bs0.length,ownV dc cs.length),6) (CS1 hpl hu) rfl (.cons .here rfl (Pick.cnt fun x=>by simp only [nC,dkM,dkB,vwsO,nO,dkS,ownB,List.set_set,hsame];omega))
  obtain ⟨ok18,rfl⟩:=Ae7 hv18;have hu:v.pl.up=true:=ok18;refine st ?_;refine lu (Val.build (parts:=[]) rfl An6 AF2 rfl) ?_;refine Aa9 (Sto.store (cs:=(vs.map VwX.cells).flatten++vr) (cs':=((vs.set i { v with cuts:=noTr }).map VwX.cells).flatten++vr) rfl rfl (.there .here) AE8 rfl (Aq0 VwX.cells_len hi hv (j:=8) (by simp) rfl)) rfl rfl ?_;refine su ?_;refine Aa9 (Sto.store (cs:=((vs.set i { v with cuts:=noTr }).map VwX.cells).flatten++vr) (cs':=(((vs.set i { v with cuts:=noTr }).set i { v with cuts:=noTr,up:=false }).map VwX.cells).flatten++vr) rfl rfl (.there .here) BT1 rfl (Aq0 VwX.cells_len hi1 hv1 (j:=12) (by simp) rfl)) rfl rfl ?_;refine st ?_;refine lv (Val.makeInterface rfl Ap0) ?_;refine lu (Ab4 rfl rfl Ah5 (by omega) (by omega)) ?_;refine lv (Val.makeInterface rfl Au0) ?_;refine zn (New.buildSlice (parts:=[(0,.tmp 26),(1,.tmp 30)]) rfl Ao7 Al8 rfl rfl rfl rfl) (fun b31=>?_)
  refine zc (zF rfl Au1) (fun w hm=>Ag2 [.s wOff,.n (i:Int)] _ (Am4 wOff [_]) b31 w (hL.mono (hm.zero)) (hm.at (.head _)) (by simp) (by intro p hp;simp only [List.mem_cons,List.not_mem_nil,or_false] at hp;rcases hp with rfl | rfl;exact (show wOff.length≤40 by decide);exact (show In64 (i:Int) from ⟨by omega,by simp only at hfew;omega⟩)) (by simp [Prt.words])) ?_;exact Am8 (DkX.mk (some (vb,vc,vr)) (vs.set i { v with cuts:=noTr,up:=false }) db bs0 dc cs,sayX wOff [(i:Int)]) ⟨hd.set (i:=i) (v:={ v with cuts:=noTr,up:=false }) hok hth,by rw [CS0 hpl hu];exact congrArg (fun b=>Except.ok (b,sayX wOff [(i:Int)])) (DkX.pl_set (d:=⟨some (vb,vc,vr),vs,db,bs0,dc,cs⟩) (i:=i) (v:={ v with cuts:=noTr,up:=false })).symm⟩ (.r1 rfl (.tmp rfl)) rfl (by simp only [List.set_set,dkM,dkO,DkX.cells,List.length_set];exact (Pick.cnt fun x=>by simp only [nC,dkM,dkB,vwsO,nO,dkS,ownB,List.set_set,hsame];omega))
end
end Go.Proofs.YtnmkdiagbkkmaabGreatDoor
namespace Go.Proofs.YtnmkdiagbkkmaabGreatDoor
open Go Go.Eng
theorem Bu6:placesB Tryz.prog 64=some [(0,2),(2,2)]:=by kernel_rfl
theorem Ch6:placesB Tryz.prog 66=some [(0,4),(4,4),(8,1)]:=by kernel_rfl
theorem Cb4:zeroB Tryz.prog 64=some [.int .i64 0,.int .i64 0,.int .i64 0,.int .i64 0]:=by kernel_rfl
end Go.Proofs.YtnmkdiagbkkmaabGreatDoor
