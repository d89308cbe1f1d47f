/- Printed by our programs. -/
import Derived.Test.YtbflhimigloapaaGreatDoorS05
import Derived.Test.YtbflhimigloapaaGreatDoorProg
import Derived.Lib.Join
import Derived.Lib.ItoaNum
import Derived.Lib.AtoiAll
import Derived.Lib.IndexMore
set_option linter.unusedSimpArgs false
set_option linter.unusedVariables false
set_option linter.unusedSectionVars false
open Go.Proofs.Tryz
open Go.Proofs.Tryz renaming prog→π
namespace Go.Eng
open Go Go.RowKit
theorem AS5 {P:Program} {r:Regs} {W:World} {chg news:Blks} {dst:Option Tmp} {gd:Option (Nat×Bool)} {ty:TypeId} {pos:String} {after:Array Edge} {x:Operand} {T e:TypeId} {b o n cap:Nat} {v:Value} (hx:rev r x=some (.slice (some ⟨b,o,none⟩) n cap)) (hT:slB P T=some (e,1)) (hn:0 < n) (hc:n≤cap) (hv:Value.slice (some ⟨b,if cap=1 then o else o + 1,none⟩) (n - 1) (cap - 1)=v) :
  Val P r W chg news { dst,op:=.slice T x (some (.const (.I 1))) none none,type:=ty,pos,after,guard:=gd } v :=
 ⟨fun a w ha _=>by
  subst hv;unfold slB at hT
  split at hT
  · rename_i e2 hu
    cases hj:P.info? e2 with
    | none=>simp [hj] at hT
    | some j =>
      simp [hj] at hT
      obtain ⟨rfl,hj1⟩:=hT;have h4:(1:Int)≤(n:Int):=by omega
      by_cases h1:cap=1
      · have h5:n=1:=by omega
        simp [execOp,ha.eval hx,BigFrame.eval_const,Instr.sliceAt,Instr.sureAddr,Instr.slice,Instr.sliceBounds,Instr.sliceBound,asIntOf,run_underlying hu,sizeOf,typeInfo,hj,h1,h5,add_plain]
      · simp [execOp,ha.eval hx,BigFrame.eval_const,Instr.sliceAt,Instr.sureAddr,Instr.slice,Instr.sliceBounds,Instr.sliceBound,asIntOf,run_underlying hu,sizeOf,typeInfo,hj,h4,h1,hj1,add_plain]
  · cases hT⟩
section
variable {P:Program} {Q:Exit→Act→World→Prop} {n d:Nat} {r:Regs} {ds:List Deferred} {W:World} {chg news:Blks}
def PanU (Q:Exit→Act→World→Prop) (n:Nat) (r:Regs) (ds:List Deferred) (W:World) (chg:Blks):Exit→Act→World→Prop
 | .panic c,a,w=>∃ news,St n r ds W chg news a w∧RunE Q n (.panic c) r ds W chg news
 | e,a,w=>Q e a w
theorem PanU.imp:∀ (e:Exit) (a:Act) (w:World),PanU Q n r ds W chg e a w→Q e a w:=fun e a w h=>by
 cases e <;> first | exact h | exact (let ⟨_,h1,h2⟩:=(h:∃ _,_∧_);h2 a w h1)
theorem PanU.back {v:Value} (hd:rget r d=none):∀ (c:List PanicEntry) (a:Act) (w:World),PanU Q n r ds W chg (.panic c) (a.put (some d) v) w→PanU Q n r ds W chg (.panic c) a w:=fun c a w h=>by
 obtain ⟨news,s,h2⟩:=(h:∃ _,_∧_);refine ⟨news,⟨by have:=s.size;simpa [Act.put] using this,fun t u ht=>?_,s.defers,s.mem⟩,h2⟩
 have hne:d ≠ t:=by rintro rfl;rw [hd] at ht;cases ht
 have:=s.agree t u ht
 simpa [Act.put,Array.getElem?_setIfInBounds_ne hne] using this
theorem Bs7 {id:Nat} {l:List Oper} {news0:Blks} (k:Nat) (hm:P.follows .mixedOrders=true) (_hp:Pick news0 news) (h:RunA P l.toArray (PanU Q n r ds W chg) k (fun c=>c=chg) news0 n l.toArray.size (Array.replicate l.toArray.size false) r ds W chg news):RunC P Q n (.region id l.toArray true) r ds W chg news:=fun a _ s =>
 Code.wp_mono PanU.imp (wp_region_any hm (Aj1 _ _ _ _ (h a _ s.drew Closed.start)))
theorem Au6 {r0:Regs} (h:RunE Q n .normal r ds W chg news):RunE (PanU Q n r0 ds W chg) n .normal r ds W chg news:=h
theorem Ax7 {r0:Regs} {c:List PanicEntry} (hs:Sub r0 r) (h:RunE Q n (.panic c) r0 ds W chg news):RunE (PanU Q n r0 ds W chg) n (.panic c) r ds W chg news:=fun _ _ s=>⟨news,s.pick hs (Pick.refl _),h⟩
end
end Go.Eng
namespace Go.Dk
open Go Go.Eng Go.RowKit Go.Pw1 Go.Hp
theorem BT3 {c:Cd} {b b':Bn} {s r:Str} (h:lineX c b s = .ok (b',r)):(b',r,(0:Int))=stepX c b s:=by unfold stepX;rw [h]
theorem Av0 {c:Cd} {b z:Bn} {s:Str} {k:Int} (h:lineX c b s = .error k) (hz:z=b):(z,([]:Str),k)=stepX c b s:=by unfold stepX;rw [h,hz]
section
variable {c:Cd} {b:Bn} {s:Str}
theorem CK1 (h:¬ s.length≤200):lineX c b s = .error 3:=by unfold lineX;rw [if_pos (by omega)]
variable (hl:s.length≤200)
include hl
theorem CK2 (h:wordsX s=none):lineX c b s = .error 8:=by unfold lineX;rw [if_neg (by omega),h]
variable {x:Str} {ws:List Str} (h:wordsX s=some (x::ws))
include h
theorem Dh3 (hx:x=wBox):lineX c b s=boxD b ws:=by unfold lineX;rw [if_neg (by omega),h];dsimp only;rw [if_pos (by exact hx)];rfl
theorem CK3 (hx:x=wCard):lineX c b s=cardD b ws:=by unfold lineX;rw [if_neg (by omega),h];dsimp only;rw [if_neg (by rw [show (x::ws).getD 0 []=x from rfl,hx];decide),if_pos (by exact hx)];rfl
variable (h1:x ≠ wBox) (h2:x ≠ wCard)
include h1 h2
theorem CJ9 (hv:verbX x=none):lineX c b s = .error 8:=by unfold lineX;rw [if_neg (by omega),h];dsimp only;rw [if_neg (by exact h1),if_neg (by exact h2),show (x::ws).getD 0 []=x from rfl,hv]
variable {v:Vb} (hv:verbX x=some v)
include hv
theorem CJ8 (hn:numsX ws=none):lineX c b s = .error 8:=by unfold lineX;rw [if_neg (by omega),h];dsimp only;rw [if_neg (by exact h1),if_neg (by exact h2),show (x::ws).getD 0 []=x from rfl,hv];dsimp only;rw [show (x::ws).drop 1=ws from rfl,hn]
variable {n:List Int} (hn:numsX ws=some n)
include hn
theorem CK0 (hm:n.length ≠ v.many):lineX c b s = .error 8:=by unfold lineX;rw [if_neg (by omega),h];dsimp only;rw [if_neg (by exact h1),if_neg (by exact h2),show (x::ws).getD 0 []=x from rfl,hv];dsimp only;rw [show (x::ws).drop 1=ws from rfl,hn];dsimp only;rw [if_pos hm]
variable (hm:n.length=v.many)
include hm
theorem Cs9 (ha:v.about=true) (hr:¬ N n 0 < b.views.length):lineX c b s = .error 2:=by unfold lineX;rw [if_neg (by omega),h];dsimp only;rw [if_neg (by exact h1),if_neg (by exact h2),show (x::ws).getD 0 []=x from rfl,hv];dsimp only;rw [show (x::ws).drop 1=ws from rfl,hn];dsimp only;rw [if_neg (fun h=>h hm),if_pos ⟨ha,hr⟩]
theorem AQ0 (hr:v.about=true→N n 0 < b.views.length):lineX c b s=v.does c b n:=by unfold lineX;rw [if_neg (by omega),h];dsimp only;rw [if_neg (by exact h1),if_neg (by exact h2),show (x::ws).getD 0 []=x from rfl,hv];dsimp only;rw [show (x::ws).drop 1=ws from rfl,hn];dsimp only;rw [if_neg (fun h=>h hm),if_neg (fun h=>h.2 (hr h.1))]
end
theorem Du8 {β γ:Type} {P:Program} {f:FuncId} {args:Array Value} {W0 w:World} {chg:Blks} {v v':β→Value} {nw:β→Blks} {I:β→Prop} {mis:Int→Value} {kk:γ→Int} {np:γ→Blks} {J:γ→Prop} (h:Calls P f args w (GrowT W0 chg v nw I mis kk np J)) (hv:∀ b,I b→v b=v' b):Calls P f args w (GrowT W0 chg v' nw I mis kk np J) :=
 Ag8 h (by
  rintro e w' (⟨b,h1,h2,h3⟩ | h)
  · exact .inl ⟨b,h1,by rw [h2,hv b h1],h3⟩
  · exact .inr h)
theorem AT9 (m:Int) (b:Bool) (e:Value) (he:isOne e=true):paste [.I 0,.bool false,.nilFunc] 0 (cellsL (.agg #[.I m,.bool b,e]))=some [.I m,.bool b,e]:=by
 show pasteN _ [.I m,.bool b,e]=_
 simp only [pasteN,he,show isOne (.I m)=true from rfl,show isOne (.bool b)=true from rfl]
end Go.Dk
namespace Go.Q
open Go Go.Eng Go.Dk Go.RowKit Go.Pw1 Go.Hp
abbrev b6O (z:DkX):Obj:=.cells [ownV z.v z.vs.length,ownV z.b z.bs.length,ownV z.c z.cs.length].toArray 86 (0,0)
abbrev lnT (b6 b5 b4 b2:Nat) (xb:Nat) (z:DkX) (tl:Blks):Blks:=(b6,b6O z)::(b5,.cells [Value.int .i64 0].toArray 49)::(b4,.cells #[Value.string ⟨#[]⟩] 9 (0,0))::(b2,.cells (cellsL (pV xb)).toArray 32)::tl
theorem Bl8 (x:Str) (ws:List Str) (r:LV) (q:OA) (sb cap:Nat) (rest:Blks) (W0 w:World) (hL:Lw π W0) (hm0:Mem W0 [] ((sb,sbO (x::ws) r)::(rest++[])) w) (hq:ws ≠ []→q=some ⟨sb,1,none⟩) (hl:ws.length≤100000) (hs:∀ s∈ws,s.length≤100000) :
  CC 34 #[.slice q ws.length cap] w (GrowT W0 [] (fun z:Eng.Own×List Int=>.slice (ownQ z.1) z.2.length (ownC z.1)) (fun z=>nuB z++(rest++[])) (fun z=>OwnOk 1 z.1 z.2.length (z.2.map intC).flatten∧numsX ws=some z.2) dmis (fun _:Unit=>8) (fun _=>rest++[]) (fun _=>numsX ws=none)) :=
 Du8 (Bv6 x ws r q sb cap rest W0 w hL hm0 hq hl hs) (fun z hz=>Ad3 hz.1)
open Classical in
theorem _root_.Go.pk1 {l m:Eng.Blks} (h:∀ x,l.count x≤m.count x:=by intro x;simp only [nC,lnT,b6O,Value.I];omega):Eng.Pick l m:=Eng.Pick.cnt h
open Classical in
theorem _root_.Go.pk4 {l m:Eng.Blks} (h:∀ x,l.count x≤m.count x:=by intro x;simp only [dkM,lnT,b6O,sbO,nC,Value.I];omega):Eng.Pick l m:=Eng.Pick.cnt h
open Classical in
theorem _root_.Go.pk6 {l m:Eng.Blks} (h:∀ x,l.count x≤m.count x:=by intro x;simp only [lnT,b6O,sbO,nC,Value.I];omega):Eng.Pick l m:=Eng.Pick.cnt h
open Classical in
theorem _root_.Go.pk9 {l m:Eng.Blks} (h:∀ x,l.count x≤m.count x:=by intro x;simp only [dkM,nC,Value.I];omega):Eng.Pick l m:=Eng.Pick.cnt h
set_option maxHeartbeats 2000000 in
theorem AL5 (s:Str) (hsl:s.length≤100000) (xb:Nat) (d:DkX) (c:Cd) (rest:Blks) (W0 w:World) (hL:Lw π W0) (hd:DkOk d) (hm0:Mem W0 [] (dkM xb d c (rest++[])) w) :
  CC 11 #[pV xb,.string (bs s)] w (Grow W0 [] (fun z:DkX×Str×Int=>.tuple #[.string (bs z.2.1),.I z.2.2]) (fun z=>dkM xb z.1 c (rest++[])) (fun z=>DkOk z.1∧(z.1.pl,z.2.1,z.2.2)=stepX (bareC c) d.pl s)):=by
 have hund:π.underlying 32=some (.pointer 88):=by kernel_rfl
 have hdv:=hd.v;have hvl:d.pl.views.length=d.vs.length:=List.length_map ..;refine AS2 hm0 func11 rfl rfl ?_;refine AS9 ?_;refine st ?_;refine zn (Lm rfl) (fun b2=>?_)
 refine zn (Lp AW1) (fun b4=>?_)
 refine zn (Lp Am5) (fun b5=>?_)
 refine lv (Ak1 rfl hund) ?_;refine Ag6 (dj:=13) false rfl rfl ?_;refine su ?_;refine Ly rfl (fun h=>absurd h (by simp)) ?_;intro c0;clear c0;refine su ?_;refine Xo [(b5,_),(b4,_),(b2,_),(xb,_)] _ rfl (zF rfl Dq6) (fun w hm=>AY0 xb d c hd w (Am7 hd (hm.pick (news':=dkM xb d c (rest++[])) pk9))) (fun z24=>?_)
 skip
 refine zn (Lp Ds2) (fun b6=>?_)
 refine Xs (Lt (cs:=[.slice none 0 0,.slice none 0 0,.slice none 0 0]) (cs':=[ownV z24.1.v z24.1.vs.length,ownV z24.1.b z24.1.bs.length,ownV z24.1.c z24.1.cs.length]) rfl rfl .here Cz9 rfl (Be6 (ownV z24.1.v z24.1.vs.length) (ownV z24.1.b z24.1.bs.length) (ownV z24.1.c z24.1.cs.length) (Af3 _ _) (Af3 _ _) (Af3 _ _))) ?_;refine st ?_;refine An7 rfl ?_;refine st ?_;refine lv (Aj0 rfl Au9) ?_;refine Xh (zF rfl Al1) (fun w hm=>Ad7 _ _ w) (fun e29 he29=>?_) (fun v29 hv29=>?_)
 ·obtain ⟨er29,rfl⟩:=Ac9 he29
  refine Aa1 ?_;exact Am1 (k:=3) (cs:=(bareC c).cells none 0++[Value.bool true]) (rest:=dkB z24.1++(rest++[])) Ag0 AF8 (Af3 _ _) (Af3 _ _) (Af3 _ _) (qC (qH (qD (qE pk1)))) (.r2 rfl (.one rfl mm1 AN0 rfl) (.one rfl mm2 Af8 rfl)) (fun w hm=>⟨(z24.1,[],3),⟨z24.2.1,Av0 (CK1 (by have:=of_decide_eq_false er29;omega)) z24.2.2⟩,rfl,hm.pick (qC pk1)⟩)
 obtain ⟨ok29,rfl⟩:=Ad9 hv29;have hl200:s.length≤200:=by have:=of_decide_eq_true ok29;omega
 refine st ?_;refine Xj (zF rfl DS1) (fun w hm=>BL9 s w) (fun b31=>?_)
 refine Xy (zF rfl DS2) (fun w hm=>(AU0 (nw':=fun z=>lnT b6 b5 b4 b2 xb z24.1 ((xb,dkO d c)::(stB z++(dkB z24.1++(dkB d++(rest++[])))))) (np':=fun _=>lnT b6 b5 b4 b2 xb z24.1 ((xb,dkO d c)::(dkB z24.1++(dkB d++(rest++[]))))) (Bz7 s b31 (lnT b6 b5 b4 b2 xb z24.1 ((xb,dkO d c)::(dkB z24.1++(dkB d++rest)))) W0 w hL hsl (hm.pick pk6)) (fun _=>pk6) (fun _=>pk6))) (fun p32 hp32=>?_) (fun z32 hz32=>?_)
 ·refine Aa1 ?_
  exact Am1 (k:=8) (cs:=(bareC c).cells none 0++[Value.bool true]) (rest:=dkB z24.1++(rest++[])) Ag0 AF8 (Af3 _ _) (Af3 _ _) (Af3 _ _) (qC (qH (qD (qE pk1)))) (.r2 rfl (.one rfl mm1 AN0 rfl) (.one rfl mm2 Af8 rfl)) (fun w hm=>⟨(z24.1,[],8),⟨z24.2.1,Av0 (CK2 hl200 hp32) z24.2.2⟩,rfl,hm.pick (qC pk1)⟩)
 obtain ⟨zo32,zl32⟩:=z32;obtain ⟨ho32,hw32⟩:=hz32;dsimp only at ho32 hw32 ⊢;obtain ⟨hwe,-⟩:=BR8 hw32;have hbo:=AI4 s [];rw [← hwe] at hbo;obtain ⟨x,ws,rfl⟩:∃ x ws,zl32=x::ws:=by (cases zl32 with | nil=>exact absurd hbo.2.1 (by simp) | cons x ws=>exact ⟨x,ws,rfl⟩)
 have hwl:ws.length≤200:=by (have:=hbo.1;simp only [List.length_cons] at this;omega)
 have hsh:∀ u∈ws,u.length≤100000:=fun u hu=>by (have:=hbo.2.2 u (List.mem_cons_of_mem _ hu);simp only [List.length_nil] at this;omega)
 refine vQ ?_;refine nnx ?_;refine Lx ?_;obtain ⟨vm,vab,vfv,vis,hval,hvat⟩:=Ds8 x;have hone:isOne vfv=true:=by (rcases hvat with ⟨-,h,-⟩ | ⟨-,gf,h,-⟩;rw [h];rfl;rw [h];rfl)
 obtain ⟨bzo32,czo32,rzo32,rfl,lzo321,lzo322,lzo323⟩:=ho32.has (by simp)
 apply Ar2 (J:=J2 _ _ _ _ _ _) 10 Ah8 (qF (qE .nil))
 ·refine zw 1 ?_
  refine zv 2 rfl (Ab1 rfl rfl An4 (by omega) (by omega)) ?_;refine zw 3 ?_;refine Af7 (rs:=[0,8]) (by kernel_rfl) (by simp) (by kernel_rfl) (fun m hm=>?_)
  simp only [List.mem_cons,List.not_mem_nil,or_false] at hm
  rcases hm with rfl | rfl
  ·refine Xk rfl (zF rfl Dq5) (fun w hm=>Bc4 w) (fun b34=>(Aa2 (qF (qE (qC .nil))) (qD (qD (qD (qD (qD (qD .nil)))))) rfl ?_))
   refine Af7 (rs:=[4,8]) (by kernel_rfl) (by simp) (by kernel_rfl) (fun m hm=>?_)
   simp only [List.mem_cons,List.not_mem_nil,or_false] at hm
   rcases hm with rfl | rfl
   ·refine Xc rfl (AB4 rfl rfl (fun w hm=>hm.at mm0) Ah7 Bu0 hval) (Aa2 (qF (qE (qC .nil))) (qF (qE (qC .nil))) rfl ?_)
    refine zw 5 ?_;refine zw 6 ?_;refine zw 7 ?_;refine zA 8 ?_;refine Xf rfl (Lp Am4) (fun b8=>(Aa2 (qD (qD (qD (qD (qD (qD (qD .nil))))))) (qF (qE (qC .nil))) rfl ?_))
    refine zA 9 ?_;refine Xr rfl (Lt (cs:=[.I 0,.bool false,.nilFunc]) (cs':=[.I vm,.bool vab,vfv]) rfl rfl .here Db5 rfl (AT9 vm vab vfv hone)) (Aa2 (qD (qD (qD (qD (qD (qD (qD .nil))))))) (qF (qE (qC .nil))) rfl ?_)
    refine zt ?_;refine zp 10 ?_;refine zd ?_;refine Ae5 ?_;exact Ai1 b34 b8 (Ab3 _) (Pick.refl _)
   refine Xf rfl (Lp Am4) (fun b8=>(Aa2 (qD (qD (qD (qD (qD (qD (qD .nil))))))) (qF (qE (qC .nil))) rfl ?_))
   refine zA 4 ?_;refine Xc rfl (AB4 rfl rfl (fun w hm=>hm.at mm1) Ah7 Bu0 hval) (Aa2 (qD (qD (qD (qD (qD (qD (qD .nil))))))) (qF (qE (qC .nil))) rfl ?_)
   refine zw 5 ?_;refine zw 6 ?_;refine zw 7 ?_;refine zA 9 ?_;refine Xr rfl (Lt (cs:=[.I 0,.bool false,.nilFunc]) (cs':=[.I vm,.bool vab,vfv]) rfl rfl .here Db5 rfl (AT9 vm vab vfv hone)) (Aa2 (qD (qD (qD (qD (qD (qD (qD .nil))))))) (qF (qE (qC .nil))) rfl ?_)
   refine zt ?_;refine zp 10 ?_;refine zd ?_;refine Ae5 ?_;exact Ai1 b34 b8 (zS 9 rfl (zS 8 rfl (zS 40 rfl (zS 39 rfl (zS 33 rfl (zS 38 rfl (zS 34 rfl (zS 37 rfl (zS 36 rfl (zS 35 rfl (qU (qU (qT (Ab3 _)))))))))))))) (qG (Pick.refl _))
  refine Xf rfl (Lp Am4) (fun b8=>(Aa2 (qD (qD (qD (qD (qD (qD .nil)))))) (qF (qE .nil)) rfl ?_))
  refine zA 0 ?_;refine Xk rfl (zF rfl Dq5) (fun w hm=>Bc4 w) (fun b34=>(Aa2 (qC (qD (qD (qD (qD (qD (qD .nil))))))) (qD (qD (qD (qD (qD (qD .nil)))))) rfl ?_))
  refine zA 4 ?_;refine Xc rfl (AB4 rfl rfl (fun w hm=>hm.at mm0) Ah7 Bu0 hval) (Aa2 (qC (qD (qD (qD (qD (qD (qD .nil))))))) (qF (qE (qC .nil))) rfl ?_)
  refine zw 5 ?_;refine zw 6 ?_;refine zw 7 ?_;refine zA 9 ?_;refine Xr rfl (Lt (cs:=[.I 0,.bool false,.nilFunc]) (cs':=[.I vm,.bool vab,vfv]) rfl rfl (.there .here) Db5 rfl (AT9 vm vab vfv hone)) (Aa2 (qC (qD (qD (qD (qD (qD (qD .nil))))))) (qF (qE (qC .nil))) rfl ?_)
  refine zt ?_;refine zp 10 ?_;refine zd ?_;refine Ae5 ?_;exact Ai1 b34 b8 (zS 9 rfl (zS 8 rfl (zS 40 rfl (zS 39 rfl (zS 33 rfl (zS 38 rfl (zS 34 rfl (zS 37 rfl (zS 36 rfl (zS 35 rfl (qU (qU (qT (Ab3 _)))))))))))))) (qD (qF (qE (qC (Pick.refl _)))))
 refine J2.out (fun b34 b8=>?_)
 refine st ?_;refine Xh (zF rfl Al1) (fun w hm=>Ad7 _ _ w) (fun e42 he42=>?_) (fun v42 hv42=>?_)
 ·obtain ⟨er42,rfl⟩:=Ac9 he42
  obtain ⟨-,-,hnb,hnc,hvn⟩:=hvat.resolve_right (fun h=>by rw [er42] at h;exact absurd h.1 (by decide));refine Aa1 ?_;exact Am1 (k:=8) (cs:=(bareC c).cells none 0++[Value.bool true]) (rest:=dkB z24.1++(rest++[])) Ag0 AF8 (Af3 _ _) (Af3 _ _) (Af3 _ _) (qH (.cons (.there (.there (.there (.there .here)))) rfl (qI (qH (qH pk1))))) (.r2 rfl (.one rfl mm1 AN0 rfl) (.one rfl mm2 Af8 rfl)) (fun w hm=>⟨(z24.1,[],8),⟨z24.2.1,Av0 (CJ9 hl200 hw32 hnb hnc hvn) z24.2.2⟩,rfl,hm.pick (qC pk1)⟩)
 obtain ⟨ok42,rfl⟩:=Ad9 hv42;obtain ⟨-,gf,rfl,hent,hcase⟩:=hvat.resolve_left (fun h=>by rw [ok42] at h;exact absurd h.1 (by decide));refine su ?_;refine cn rfl ?_ ?_
 ·intro c1'
  simp only [List.length_cons] at lzo321;have hword:∃ does:Bn→List Str→Ans,WordSpec gf does∧lineX (bareC c) d.pl s=does d.pl ws:=by (rcases hcase with ⟨-,hx,hs⟩ | ⟨-,hx,hs⟩ | ⟨vb,-,-,-,hm,-⟩;exact ⟨_,hs,Dh3 hl200 hw32 hx⟩;exact ⟨_,hs,CK3 hl200 hw32 hx⟩;exact absurd c1' (by omega))
  obtain ⟨does,hword,hline⟩:=hword;refine st ?_;refine Bs7 5 Ah8 (qG .nil) ?_;refine Xu (i:=0) rfl (Lo rfl Ci2) (PanU.back rfl) (qG .nil) ?_;refine Xu (i:=1) rfl (Aa6 rfl mm0 DJ5 rfl) (PanU.back rfl) (qG .nil) ?_;refine Xu (i:=2) rfl (Aa6 rfl mm5 Db9 rfl) (PanU.back rfl) (qG .nil) ?_;refine Xu (i:=3) rfl (Aa8 rfl) (PanU.back rfl) (qG .nil) ?_;refine Xu (i:=4) rfl (AS5 (n:=ws.length + 1) (v:=.slice (some ⟨bzo32,if czo32=1 then 0 else 0 + 1,none⟩) ws.length (czo32 - 1)) rfl An4 (by omega) (by omega) rfl) (PanU.back rfl) (qG .nil) ?_;refine zt ?_;refine zB 5 ?_;refine Cd2 rfl (Ab4 rfl rfl hent) rfl rfl rfl (fun w hm=>(AU0 (nw':=fun z:DkX×Str=>(b5,.cells [Value.int .i64 0].toArray 49)::(b4,.cells #[Value.string ⟨#[]⟩] 9 (0,0))::(xb,dkO z.1 c)::(dkB z.1++(rest++[]))) (np':=fun z:(Value×Value×Value)×Int=>(b6,b6O z24.1)::(b5,.cells [Value.int .i64 0].toArray 49)::(b4,.cells #[Value.string ⟨#[]⟩] 9 (0,0))::(b2,.cells (cellsL (pV xb)).toArray 32)::(xb,dkG z.1.1 z.1.2.1 z.1.2.2 c)::(dkB z24.1++(rest++[]))) (hword xb d c x ws rzo32 bzo32 (czo32 - 1) (some ⟨bzo32,if czo32=1 then 0 else 0 + 1,none⟩) (lnT b6 b5 b4 b2 xb z24.1 (dkB z24.1++rest)) W0 w hL hd (by omega) (by omega) hsh (fun hne=>by have:=List.length_pos_iff.2 hne;rw [if_neg (by omega)]) (hm.pick pk4)) (fun _=>pk4) (fun _=>pk4))) (fun p51 hp51=>?_) (fun z51 hz51=>(Ab2 ?_))
  ·refine Ax7 (qU (qS (Ab3 _))) ?_
   refine Aa1 ?_;refine Aa1 ?_;exact Am1 (k:=p51.2) (cs:=(bareC c).cells none 0++[Value.bool true]) (rest:=dkB z24.1++(rest++[])) Ag0 AF8 (Af3 _ _) (Af3 _ _) (Af3 _ _) (qC (qH (qD (qE (Pick.refl _))))) (.r2 rfl (.one rfl mm1 AN0 rfl) (.one rfl mm2 Af8 rfl)) (fun w hm=>⟨(z24.1,[],p51.2),⟨z24.2.1,Av0 (hline.trans hp51) z24.2.2⟩,rfl,hm.pick (qC pk1)⟩)
  refine zB 6 ?_;refine Xr rfl (Lt rfl rfl (.there .here) AN0 rfl rfl) (Ab2 ?_)
  refine zB 7 ?_;refine Xr rfl (Lt rfl rfl .here Af8 rfl rfl) (Ab2 ?_)
  refine zd ?_;refine Au6 ?_;refine su ?_;exact AW0 (news2:=(b5,.cells [Value.int .i64 0].toArray 49)::(b4,.cells [Value.string (bs z51.2)].toArray 9)::(xb,dkO z51.1 c)::(dkB z51.1++(rest++[]))) Ag0 AF8 pk1 (.r2 rfl (.one rfl mm1 AN0 rfl) (.one rfl mm0 Af8 rfl)) (fun w hm=>⟨(z51.1,z51.2,0),⟨hz51.1,BT3 (hline.trans hz51.2)⟩,rfl,hm.pick pk9⟩)
 intro c1';simp only [List.length_cons] at lzo321;obtain ⟨vb,hnb,hnc,hvx,rfl,rfl,hab1,hspec⟩:=(hcase.resolve_left (fun h=>absurd h.1 (by omega))).resolve_left (fun h=>absurd h.1 (by omega));refine st ?_;refine lv (AS5 (n:=ws.length + 1) (v:=.slice (some ⟨bzo32,if czo32=1 then 0 else 0 + 1,none⟩) ws.length (czo32 - 1)) rfl An4 (by omega) (by omega) rfl) ?_;refine Xy (zF rfl DS0) (fun w hm=>(AU0 (nw':=fun z=>(b8,.cells [Value.int .i64 (vb.many:Int),Value.bool vb.about,fnV gf].toArray 99)::lnT b6 b5 b4 b2 xb z24.1 ((xb,dkO d c)::(nuB z++(dkB z24.1++(dkB d++(rest++[])))))) (np':=fun _=>lnT b6 b5 b4 b2 xb z24.1 ((xb,dkO d c)::(dkB z24.1++(dkB d++(rest++[]))))) (Bl8 x ws rzo32 (some ⟨bzo32,if czo32=1 then 0 else 0 + 1,none⟩) bzo32 (czo32 - 1) ((b8,.cells [Value.int .i64 (vb.many:Int),Value.bool vb.about,fnV gf].toArray 99)::lnT b6 b5 b4 b2 xb z24.1 ((xb,dkO d c)::(dkB z24.1++(dkB d++rest)))) W0 w hL (hm.pick pk6) (fun hne=>by have:=List.length_pos_iff.2 hne;rw [if_neg (by omega)]) (by omega) hsh) (fun _=>pk6) (fun _=>pk6))) (fun p54 hp54=>?_) (fun z54 hz54=>?_)
 ·refine Aa1 ?_
  exact Am1 (k:=8) (cs:=(bareC c).cells none 0++[Value.bool true]) (rest:=dkB z24.1++(rest++[])) Ag0 AF8 (Af3 _ _) (Af3 _ _) (Af3 _ _) (qC (qH (qD (qE pk1)))) (.r2 rfl (.one rfl mm1 AN0 rfl) (.one rfl mm2 Af8 rfl)) (fun w hm=>⟨(z24.1,[],8),⟨z24.2.1,Av0 (CJ8 hl200 hw32 hnb hnc hvx hp54) z24.2.2⟩,rfl,hm.pick (qC pk1)⟩)
 obtain ⟨zo54,zl54⟩:=z54;obtain ⟨ho54,hn54⟩:=hz54;dsimp only at ho54 hn54 ⊢;refine su ?_;refine Xh (zF rfl Al1) (fun w hm=>Ad7 _ _ w) (fun e60 he60=>?_) (fun v60 hv60=>?_)
 ·obtain ⟨er60,rfl⟩:=Ac9 he60
  refine Aa1 ?_;exact Am1 (k:=8) (cs:=(bareC c).cells none 0++[Value.bool true]) (rest:=dkB z24.1++(rest++[])) Ag0 AF8 (Af3 _ _) (Af3 _ _) (Af3 _ _) (qD (qI (qH (qD (qD pk1))))) (.r2 rfl (.one rfl mm1 AN0 rfl) (.one rfl mm2 Af8 rfl)) (fun w hm=>⟨(z24.1,[],8),⟨z24.2.1,Av0 (CK0 hl200 hw32 hnb hnc hvx hn54 (by have:=of_decide_eq_false er60;omega)) z24.2.2⟩,rfl,hm.pick (qC pk1)⟩)
 obtain ⟨ok60,rfl⟩:=Ad9 hv60;have hlen:zl54.length=vb.many:=by have:=of_decide_eq_true ok60;omega
 refine st ?_;refine Bs7 13 Ah8 (qF (qE (Pick.refl _))) ?_;refine Xu (i:=0) rfl (Lo rfl Ci3) (PanU.back rfl) (qF (qE (Pick.refl _))) ?_;refine Xu (i:=1) rfl (Aa6 rfl mm0 Cm9 rfl) (PanU.back rfl) (qF (qE (Pick.refl _))) ?_;refine Xu (i:=2) rfl (Aa8 rfl) (PanU.back rfl) (qF (qE (Pick.refl _))) ?_;refine Xu (i:=3) rfl (Aa8 rfl) (PanU.back rfl) (qF (qE (Pick.refl _))) ?_;refine Ap5 (dj:=64) rfl ?_ ?_
 ·intro g64
  have g64':=g64;clear g64;try simp only [nH] at g64'
  have hab:vb.about=false:=by simpa using g64'
  refine Xw (i:=4) rfl (PanU.back rfl) (qF (qE (Pick.refl _))) ?_;refine Xw (i:=5) rfl (PanU.back rfl) (qF (qE (Pick.refl _))) ?_;refine Xw (i:=6) rfl (PanU.back rfl) (qF (qE (Pick.refl _))) ?_;refine Xw (i:=7) rfl (PanU.back rfl) (qF (qE (Pick.refl _))) ?_;refine Xw (i:=8) rfl (PanU.back rfl) (qF (qE (Pick.refl _))) ?_;refine Xw (i:=9) rfl (PanU.back rfl) (qF (qE (Pick.refl _))) ?_;refine Xw (i:=10) rfl (PanU.back rfl) (qF (qE (Pick.refl _))) ?_;refine Xw (i:=11) rfl (PanU.back rfl) (qF (qE (Pick.refl _))) ?_;refine Xw (i:=12) rfl (PanU.back rfl) (qF (qE (Pick.refl _))) ?_;refine zt ?_;refine zB 13 ?_;refine Xx rfl (Ab2 ?_)
  refine zp 14 ?_;refine zB 15 ?_;refine Xi rfl (zF rfl Al1) (fun w hm=>Ad7 _ _ w) (fun e76 he76=>?_) (fun v76 hv76=>(Ab2 ?_))
  ·obtain ⟨er76,rfl⟩:=Ac9 he76
   refine Ax7 (qU (qU (qU (qU (Ab3 _))))) ?_;refine Aa1 ?_;exact absurd er76 (by decide)
  obtain ⟨ok76,rfl⟩:=Ad9 hv76;have hrng:vb.about=true→N zl54 0 < d.vs.length:=by (first | (have h9:=of_decide_eq_true ok76;have h8:=(AP9 hn54 (zl54.getD 0 0) (by rw [List.getD_eq_getElem?_getD,List.getElem?_eq_getElem (by omega)];exact List.getElem_mem _)).1;intro _;unfold N;omega) | (intro h;rw [hab] at h;cases h))
  refine zd ?_;refine Au6 ?_;refine su ?_;refine Xy (Ab4 rfl rfl hent) (fun w hm=>(AU0 (nw':=fun z:DkX×Str=>(b5,.cells [Value.int .i64 0].toArray 49)::(b4,.cells #[Value.string ⟨#[]⟩] 9 (0,0))::(xb,dkO z.1 c)::(dkB z.1++(rest++[]))) (np':=fun z:(Value×Value×Value)×Int=>(b6,b6O z24.1)::(b5,.cells [Value.int .i64 0].toArray 49)::(b4,.cells #[Value.string ⟨#[]⟩] 9 (0,0))::(b2,.cells (cellsL (pV xb)).toArray 32)::(xb,dkG z.1.1 z.1.2.1 z.1.2.2 c)::(dkB z24.1++(rest++[]))) (hspec xb d c zo54 zl54 (lnT b6 b5 b4 b2 xb z24.1 (dkB z24.1++rest)) W0 w hL hd ho54 hlen (AP9 hn54) hrng (hm.pick pk4)) (fun _=>pk4) (fun _=>pk4))) (fun p81 hp81=>?_) (fun z81 hz81=>?_)
  ·refine Aa1 ?_
   exact Am1 (k:=p81.2) (cs:=(bareC c).cells none 0++[Value.bool true]) (rest:=dkB z24.1++(rest++[])) Ag0 AF8 (Af3 _ _) (Af3 _ _) (Af3 _ _) (qC (qH (qD (qE (Pick.refl _))))) (.r2 rfl (.one rfl mm1 AN0 rfl) (.one rfl mm2 Af8 rfl)) (fun w hm=>⟨(z24.1,[],p81.2),⟨z24.2.1,Av0 ((AQ0 hl200 hw32 hnb hnc hvx hn54 hlen (by rw [hvl];exact hrng)).trans hp81) z24.2.2⟩,rfl,hm.pick (qC pk1)⟩)
  refine sQ (.there .here) ?_;refine sQ .here ?_;refine su ?_;exact AW0 (news2:=(b5,.cells [Value.int .i64 0].toArray 49)::(b4,.cells [Value.string (bs z81.2)].toArray 9)::(xb,dkO z81.1 c)::(dkB z81.1++(rest++[]))) Ag0 AF8 pk1 (.r2 rfl (.one rfl mm1 AN0 rfl) (.one rfl mm0 Af8 rfl)) (fun w hm=>⟨(z81.1,z81.2,0),⟨hz81.1,BT3 ((AQ0 hl200 hw32 hnb hnc hvx hn54 hlen (by rw [hvl];exact hrng)).trans hz81.2)⟩,rfl,hm.pick pk9⟩)
 intro g64;have g64':=g64;clear g64;try simp only [nH] at g64'
 have hab:vb.about=true:=by simpa using g64'
 have hl0:=hab1 hab;refine Xu (i:=4) rfl (Aa8 rfl) (PanU.back rfl) (qF (qE (Pick.refl _))) ?_;refine Xu (i:=5) rfl (Aa3 rfl rfl Af6 (by decide) (by omega) (Ba8 ho54 (by omega))) (PanU.back rfl) (qF (qE (Pick.refl _))) ?_;refine Xu (i:=6) rfl (Aa5 rfl (fun w hm=>Sl.cellE (Am3 (f:=intC) (e:=3) (fun _=>rfl) (by decide) ho54 (fun b o h=>hm.at (.tail _ (.tail _ (.tail _ (.tail _ (.tail _ (.tail _ ((by first | exact List.mem_append_left _ h | exact List.mem_append_right _ (List.mem_append_left _ h))))))))))) (Mem.refl w) (by simp) Ae0 (i:=0) (by omega) (x:=zl54.getD 0 0) (by rw [List.getD_eq_getElem?_getD,List.getElem?_eq_getElem (by omega)];rfl) (j:=0) (by decide) (v:=.int .i64 (zl54.getD 0 0)) rfl (by simp))) (PanU.back rfl) (qF (qE (Pick.refl _))) ?_;refine Xu (i:=7) rfl (Aa6 rfl mm4 Db9 rfl) (PanU.back rfl) (qF (qE (Pick.refl _))) ?_;refine Xu (i:=8) rfl (Aa8 rfl) (PanU.back rfl) (qF (qE (Pick.refl _))) ?_;refine Xu (i:=9) rfl (Lo rfl AE5) (PanU.back rfl) (qF (qE (Pick.refl _))) ?_;refine Xu (i:=10) rfl (Lo rfl AR1) (PanU.back rfl) (qF (qE (Pick.refl _))) ?_;refine Xu (i:=11) rfl (Aa6 rfl mm5 BD1 rfl) (PanU.back rfl) (qF (qE (Pick.refl _))) ?_;refine Xu (i:=12) rfl (Ak0 rfl AL6 hdv) (PanU.back rfl) (qF (qE (Pick.refl _))) ?_;refine zt ?_;refine zp 13 ?_;refine zp 14 ?_;refine zB 15 ?_;refine Xi rfl (zF rfl Al1) (fun w hm=>Ad7 _ _ w) (fun e76 he76=>?_) (fun v76 hv76=>(Ab2 ?_))
 ·obtain ⟨er76,rfl⟩:=Ac9 he76
  refine Ax7 (qU (qU (qU (qU (Ab3 _))))) ?_;refine Aa1 ?_;exact Am1 (k:=2) (cs:=(bareC c).cells none 0++[Value.bool true]) (rest:=dkB z24.1++(rest++[])) Ag0 AF8 (Af3 _ _) (Af3 _ _) (Af3 _ _) (qD (qI (qH (qD (qD pk1))))) (.r2 rfl (.one rfl mm1 AN0 rfl) (.one rfl mm2 Af8 rfl)) (fun w hm=>⟨(z24.1,[],2),⟨z24.2.1,Av0 (Cs9 hl200 hw32 hnb hnc hvx hn54 hlen hab (by have:=of_decide_eq_false er76;rw [hvl];unfold N;omega)) z24.2.2⟩,rfl,hm.pick (qC pk1)⟩)
 obtain ⟨ok76,rfl⟩:=Ad9 hv76;have hrng:vb.about=true→N zl54 0 < d.vs.length:=by (first | (have h9:=of_decide_eq_true ok76;have h8:=(AP9 hn54 (zl54.getD 0 0) (by rw [List.getD_eq_getElem?_getD,List.getElem?_eq_getElem (by omega)];exact List.getElem_mem _)).1;intro _;unfold N;omega) | (intro h;rw [hab] at h;cases h))
 refine zd ?_;refine Au6 ?_;refine su ?_;refine Xy (Ab4 rfl rfl hent) (fun w hm=>(AU0 (nw':=fun z:DkX×Str=>(b5,.cells [Value.int .i64 0].toArray 49)::(b4,.cells #[Value.string ⟨#[]⟩] 9 (0,0))::(xb,dkO z.1 c)::(dkB z.1++(rest++[]))) (np':=fun z:(Value×Value×Value)×Int=>(b6,b6O z24.1)::(b5,.cells [Value.int .i64 0].toArray 49)::(b4,.cells #[Value.string ⟨#[]⟩] 9 (0,0))::(b2,.cells (cellsL (pV xb)).toArray 32)::(xb,dkG z.1.1 z.1.2.1 z.1.2.2 c)::(dkB z24.1++(rest++[]))) (hspec xb d c zo54 zl54 (lnT b6 b5 b4 b2 xb z24.1 (dkB z24.1++rest)) W0 w hL hd ho54 hlen (AP9 hn54) hrng (hm.pick pk4)) (fun _=>pk4) (fun _=>pk4))) (fun p81 hp81=>?_) (fun z81 hz81=>?_)
 ·refine Aa1 ?_
  exact Am1 (k:=p81.2) (cs:=(bareC c).cells none 0++[Value.bool true]) (rest:=dkB z24.1++(rest++[])) Ag0 AF8 (Af3 _ _) (Af3 _ _) (Af3 _ _) (qC (qH (qD (qE (Pick.refl _))))) (.r2 rfl (.one rfl mm1 AN0 rfl) (.one rfl mm2 Af8 rfl)) (fun w hm=>⟨(z24.1,[],p81.2),⟨z24.2.1,Av0 ((AQ0 hl200 hw32 hnb hnc hvx hn54 hlen (by rw [hvl];exact hrng)).trans hp81) z24.2.2⟩,rfl,hm.pick (qC pk1)⟩)
 refine sQ (.there .here) ?_;refine sQ .here ?_;refine su ?_;exact AW0 (news2:=(b5,.cells [Value.int .i64 0].toArray 49)::(b4,.cells [Value.string (bs z81.2)].toArray 9)::(xb,dkO z81.1 c)::(dkB z81.1++(rest++[]))) Ag0 AF8 pk1 (.r2 rfl (.one rfl mm1 AN0 rfl) (.one rfl mm0 Af8 rfl)) (fun w hm=>⟨(z81.1,z81.2,0),⟨hz81.1,BT3 ((AQ0 hl200 hw32 hnb hnc hvx hn54 hlen (by rw [hvl];exact hrng)).trans hz81.2)⟩,rfl,hm.pick pk9⟩)
end Go.Q
namespace Go.Dk
open Go Go.Eng Go.Pw1 Go.Hp
structure BnSm (b:Bn):Prop where
 v:b.views.length≤4
 t:∀ v∈b.views,v.p.things.length≤12
 bx:b.heap.boxes.length≤4
 c:b.heap.cards.length≤8
theorem DkOk.sm {d:DkX} (h:DkOk d):BnSm d.pl :=
 ⟨by show (d.vs.map _).length ≤ 4; rw [List.length_map]; exact h.few.1, fun v hv => by
     obtain ⟨x,hx,rfl⟩:=List.mem_map.1 hv;exact h.things x hx,
  by show (d.bs.map _).length≤4;rw [List.length_map];exact h.few.2.1,h.few.2.2⟩
variable {b:Bn}
theorem BnSm.at (h:BnSm b) (i:Nat):(b.views.getD i noVw).p.things.length≤12:=by
 rw [List.getD_eq_getElem?_getD]
 cases e:b.views[i]? with
 | none=>exact (by decide:(0:Nat)≤12)
 | some v=>exact h.t v (List.mem_of_getElem? e)
theorem Cz2 {x:Str} {v:Vb} (h:verbX x=some v):∃ k,(k,v)∈verbsX:=by
 unfold verbX at h;obtain ⟨y,hy,rfl⟩:=Option.map_eq_some_iff.1 h;exact ⟨y.1,List.mem_of_find?_eq_some hy⟩
end Go.Dk
namespace Go.Q
open Go Go.Eng
theorem CM3:fieldB π 365 0=some 0:=by kernel_rfl
instance:Fld π 365 0 0:=⟨CM3⟩
theorem CM2:fieldB π 365 1=some 1:=by kernel_rfl
instance:Fld π 365 1 1:=⟨CM2⟩
theorem DK7:tyB π 176=some (false,1):=by kernel_rfl
instance:Tyc π 176 false 1:=⟨DK7⟩
theorem DJ7:tyB π 363=some (false,1):=by kernel_rfl
instance:Tyc π 363 false 1:=⟨DJ7⟩
end Go.Q
namespace Go.Dk
open Go Go.Eng Go.RowKit Go.Pw1 Go.Hp
end Go.Dk
namespace Go.Q
open Go Go.Eng Go.Dk Go.RowKit Go.Pw1 Go.Hp
theorem Bb6 {β:Type} {P:Program} {f:FuncId} {args:Array Value} {W0 w:World} {chg:Blks} {v:β→Value} {nw nw':β→Blks} {I:β→Prop} (h:Calls P f args w (Grow W0 chg v nw I)) (hp:∀ b,Pick (nw' b) (nw b)):Calls P f args w (Grow W0 chg v nw' I) :=
 Ag8 h (by rintro e w' ⟨b,h1,h2,h3⟩;exact ⟨b,h1,h2,h3.pick (hp b)⟩)
end Go.Q
namespace Go.Dk
open Go Go.Eng Go.Pw1 Go.Hp
def cE:Cd:=⟨⟨⟨9000,9000⟩,⟨65,66⟩,5,2000,100000,[]⟩,3200,50,20,⟨6000,6500⟩,300,900,100,200⟩
def eB0:Bn:=⟨[],⟨[],[]⟩⟩
def eB1:Bn:=⟨[⟨⟨⟨9000,9000⟩,⟨65,66⟩,5,2000,100000,[]⟩,⟨0,0,0,0⟩,false⟩],⟨[],[]⟩⟩
def eB2:Bn:=⟨[⟨⟨⟨9000,9000⟩,⟨65,66⟩,5,2000,100000,[⟨⟨1100,1101⟩,⟨0,0⟩,⟨904,905⟩,⟨0,0⟩,0⟩]⟩,⟨0,0,0,0⟩,false⟩],⟨[],[]⟩⟩
def eB3:Bn:=⟨[⟨⟨⟨9000,9000⟩,⟨65,66⟩,5,2000,100000,[⟨⟨1100,1101⟩,⟨0,0⟩,⟨904,905⟩,⟨0,0⟩,3000⟩]⟩,⟨0,0,0,0⟩,false⟩],⟨[],[]⟩⟩
def eB4:Bn:=⟨[⟨⟨⟨9000,9000⟩,⟨65,66⟩,5,2000,100000,[⟨⟨1100,1101⟩,⟨0,0⟩,⟨904,905⟩,⟨0,0⟩,3000⟩,⟨⟨1050,1050⟩,⟨0,0⟩,⟨990,992⟩,⟨0,0⟩,0⟩]⟩,⟨0,0,0,0⟩,false⟩],⟨[],[]⟩⟩
def eB5:Bn:=⟨[⟨⟨⟨9000,9000⟩,⟨65,66⟩,5,2000,100000,[⟨⟨1100,1101⟩,⟨0,0⟩,⟨904,905⟩,⟨0,0⟩,3000⟩,⟨⟨1050,1050⟩,⟨0,0⟩,⟨990,992⟩,⟨0,0⟩,0⟩]⟩,⟨0,0,0,0⟩,false⟩],⟨[],[]⟩⟩
theorem eS0:stepX cE eB0 [118,105,101,119]=(eB1,[118,105,101,119,32,48],0):=by kernel_rfl
theorem eS1:stepX cE eB1 [116,104,105,110,103,32,48,32,49,49,48,48,32,49,49,48,49,32,57,48,52,32,57,48,53]=(eB2,[116,104,105,110,103,32,48,32,48],0):=by kernel_rfl
theorem eS2:stepX cE eB2 [109,97,114,107,32,48,32,48,32,51,48,48,48]=(eB3,[109,97,114,107,32,53,56,53,48,48,48,32,53,57,51,57,57,57],0):=by kernel_rfl
theorem eS3:stepX cE eB3 [116,104,105,110,103,32,48,32,49,48,53,48,32,49,48,53,48,32,57,57,48,32,57,57,50]=(eB4,[116,104,105,110,103,32,49,32,48],0):=by kernel_rfl
theorem eS4:stepX cE eB4 [102,97,114,32,48,32,49]=(eB5,[102,97,114,32,57,53,57,49,32,49,48,50,52,49],0):=by kernel_rfl
structure VwRight (c:Cd) (v:Vw):Prop where
 pw:(powerX v.p).2=0
 s1:v.p.focal=c.p.focal
 s2:v.p.base=c.p.base
 s3:v.p.tilt=c.p.tilt
 s4:v.p.near=c.p.near
 s5:v.p.far=c.p.far
 n:v.p.things.length≤12
 up:v.up=true→(hurtsX (cardV c v) v.cuts).2.2=0
 dn:v.up=false→v.cuts=noTr
structure Right (c:Cd) (b:Bn):Prop where
 v:∀ v∈b.views,VwRight c v
 nv:b.views.length≤4
 nb:b.heap.boxes.length≤4
 nc:b.heap.cards.length≤8
 w:(WhyX b.heap).2=0
theorem Co9 (c:Cd):Right c noBn:=⟨fun v h=>(by cases h),by decide,by decide,by decide,by kernel_rfl⟩
variable {c:Cd} {b:Bn}
theorem Right.put (h:Right c b) {i:Nat} {v:Vw} (hv:VwRight c v):Right c (putV b i v) :=
 ⟨fun x hx=>by
  rcases List.mem_or_eq_of_mem_set hx with hx | rfl
  · exact h.v x hx
  · exact hv,by show (b.views.set i v).length≤4;rw [List.length_set];exact h.nv,h.nb,h.nc,h.w⟩
theorem Right.at (h:Right c b) {i:Nat} (hi:i < b.views.length):VwRight c (b.views.getD i noVw):=by
 rw [List.getD_eq_getElem?_getD,List.getElem?_eq_getElem hi];exact h.v _ (List.getElem_mem hi)
theorem BF1 {p:Pr} {n:Int} (h:(whyX p n).2=0) (hk:∀ k,truthsX p [n] = .error k→k ≠ 0):(powerX p).2=0:=by
 unfold whyX at h
 split at h
 · rename_i k hk2
   exact absurd h (hk k hk2)
 · rename_i w hw
   unfold truthsX at hw
   split at hw
   · cases hw
   · rename_i u hu
     have h1:=(Az1 hu).1;unfold powerX truthsX openX;rw [if_pos h1];simp only [List.any_nil,Bool.false_eq_true,if_false];rw [hw]
theorem CA8 {p:Pr} {l:List Int} {k:Int} (h:truthsX p l = .error k):k ≠ 0:=by
 unfold truthsX openX lookX at h
 split at h
 · rename_i h1
   cases h
   split at h1
   · split at h1
     · cases h1;decide
     · cases h1
   · cases h1;decide
 · split at h
   · cases h
   · cases h;decide
theorem Cw2 (hc:cardIs c=true):(powerX (bareC c).p).2=0:=by
 have h1:isPair c.p=true:=by
  unfold cardIs at hc;simp only [Bool.and_eq_true,Bool.not_eq_true',decide_eq_false_iff_not] at hc;have h2:=hc.1.1
  cases hp:isPair c.p with
  | true=>rfl
  | false =>
    exfalso
    apply h2
    unfold powerX truthsX openX;rw [hp];rfl
 have h3:isPair (bareC c).p=true:=by
  unfold isPair at h1 ⊢;simp only [Bool.and_eq_true] at h1 ⊢;exact ⟨⟨h1.1.1,(show decide (((0:Nat):Int)≤12)=true by decide)⟩,rfl⟩
 unfold powerX truthsX openX;rw [if_pos h3];rfl
theorem Co6 (hc:cardIs c=true) (h:Right c b) {b':Bn} {r:Str} (e:viewD (bareC c) b = .ok (b',r)):Right c b':=by
 unfold viewD at e
 split at e
 · rename_i hl
   cases e
   refine ⟨fun v hv=>?_,by simp;omega,h.nb,h.nc,h.w⟩
   rcases List.mem_append.1 hv with hv | hv
   · exact h.v v hv
   · rw [List.mem_singleton] at hv
     subst hv;exact ⟨Cw2 hc,rfl,rfl,rfl,rfl,rfl,(show (0:Nat)≤12 by decide),fun h=>(by cases h),fun _=>rfl⟩
 · cases e
theorem BU7 (h:Right c b) {i:Nat} (hi:i < b.views.length) {x1 x2 y1 y2:Int} {b':Bn} {r:Str} (e:thingD b i x1 x2 y1 y2 = .ok (b',r)):Right c b':=by
 have hv:=h.at hi;unfold thingD at e;dsimp only at e
 split at e
 · cases e
 · rename_i hu
   split at e
   · cases e
   · rename_i hl
     split at e
     · rename_i hw
       cases e
       exact h.put ⟨BF1 hw (fun k hk=>CA8 hk),hv.s1,hv.s2,hv.s3,hv.s4,hv.s5,by rw [List.length_append,List.length_singleton];omega,fun h2=>absurd h2 hu,hv.dn⟩
     · cases e
theorem Cp0 (h:Right c b) {i k:Nat} (hi:i < b.views.length) {far:Int} {b':Bn} {r:Str} (e:markD b i k far = .ok (b',r)):Right c b':=by
 have hv:=h.at hi;unfold markD at e;dsimp only at e
 split at e
 · cases e
 · split at e
   · cases e
   · rename_i hu
     split at e
     · rename_i hw
       cases e
       exact h.put ⟨hw,hv.s1,hv.s2,hv.s3,hv.s4,hv.s5,by rw [List.length_modify];exact hv.n,fun h2=>absurd h2 hu,hv.dn⟩
     · cases e
theorem Cn2 {x:Cd} (h:(trimX x).2=0):(hurtsX x (trimX x).1).2.2=0:=by
 unfold trimX at h ⊢
 split at h
 · rename_i ho
   rw [if_pos ho]
   split at h
   · rename_i t ht
     dsimp only;obtain ⟨h1,-,h3⟩:=AK0 ho;obtain ⟨t1,t2,-⟩:=DH1 (Ax2 h1).1 ht
     have h5:openM x [t]=0:=by
      unfold openM;rw [if_pos h1,if_pos (by simp [t1]),h3]
     unfold hurtsX;rw [if_pos h5];unfold fitT at t2;rw [if_pos (by simpa using t2)]
   · cases h
 · rename_i ho
   exact absurd h ho
theorem Co7 (h:Right c b) {i:Nat} (hi:i < b.views.length) {b':Bn} {r:Str} (e:trimD (bareC c) b i = .ok (b',r)):Right c b':=by
 have hv:=h.at hi;unfold trimD at e;dsimp only at e
 split at e
 · cases e
 · split at e
   · rename_i ht
     cases e
     refine h.put ⟨hv.pw,hv.s1,hv.s2,hv.s3,hv.s4,hv.s5,hv.n,fun _=>?_,fun h2=>(by cases h2)⟩
     exact Cn2 (x:=cardV c (b.views.getD i noVw)) ht
   · cases e
theorem CF1 (h:Right c b) {i:Nat} (hi:i < b.views.length) {b':Bn} {r:Str} (e:offD b i = .ok (b',r)):Right c b':=by
 have hv:=h.at hi;unfold offD at e;dsimp only at e
 split at e
 · cases e
 · cases e
   exact h.put ⟨hv.pw,hv.s1,hv.s2,hv.s3,hv.s4,hv.s5,hv.n,fun h2=>(by cases h2),fun _=>rfl⟩
theorem CF2 (h:Right c b) {w:List Str} {b':Bn} {r:Str} (e:boxD b w = .ok (b',r)):Right c b':=by
 unfold boxD at e
 split at e
 · cases e
 · split at e
   · cases e
   · split at e
     · cases e
     · rename_i hl
       dsimp only at e
       split at e
       · rename_i hw
         cases e
         exact ⟨h.v,h.nv,by simp;omega,h.nc,hw⟩
       · cases e
theorem Cp3 (h:Right c b) {w:List Str} {b':Bn} {r:Str} (e:cardD b w = .ok (b',r)):Right c b':=by
 unfold cardD at e
 split at e
 · cases e
 · split at e
   · cases e
   · split at e
     · cases e
     · rename_i hl
       split at e
       · cases e
       · dsimp only at e
         split at e
         · cases e
         · rename_i hw
           split at e
           · cases e
           · cases e
             exact ⟨h.v,h.nv,h.nb,by simp;omega,Classical.not_not.1 hw⟩
theorem Cp4 {i k:Nat} {b':Bn} {r:Str} (e:farD b i k = .ok (b',r)):b'=b:=by
 unfold farD at e;dsimp only at e
 split at e
 · cases e
 · split at e <;> cases e;rfl
theorem BE9 {i:Nat} {b':Bn} {r:Str} (e:movedD b i = .ok (b',r)):b'=b:=by
 unfold movedD at e;dsimp only at e
 split at e <;> cases e;rfl
theorem BF0 {i:Nat} {t:Tr} {b':Bn} {r:Str} (e:hurtsD c b i t = .ok (b',r)):b'=b:=by
 unfold hurtsD at e;dsimp only at e
 split at e
 · cases e;rfl
 · split at e <;> cases e;rfl
theorem BV1 {i:Nat} {b':Bn} {r:Str} (e:deepD c b i = .ok (b',r)):b'=b:=by
 unfold deepD at e;dsimp only at e
 split at e
 · cases e
 · split at e <;> cases e;rfl
theorem BV0 {b':Bn} {r:Str} (e:waysD b = .ok (b',r)):b'=b:=by
 unfold waysD at e
 split at e <;> cases e;rfl
theorem BE8 {k:Nat} {b':Bn} {r:Str} (e:whichD b k = .ok (b',r)):b'=b:=by
 unfold whichD at e
 split at e
 · cases e
 · split at e
   · cases e
   · cases e;rfl
theorem Cp2 (hc:cardIs c=true) (h:Right c b) {x:Str} {v:Vb} (hv:verbX x=some v) {n:List Int} (hn:v.about=true→N n 0 < b.views.length) {b':Bn} {r:Str} (e:v.does (bareC c) b n = .ok (b',r)):Right c b':=by
 obtain ⟨k,hk⟩:=Cz2 hv;simp only [verbsX,List.mem_cons,Prod.mk.injEq,List.not_mem_nil,or_false] at hk
 rcases hk with ⟨-,rfl⟩ | ⟨-,rfl⟩ | ⟨-,rfl⟩ | ⟨-,rfl⟩ | ⟨-,rfl⟩ | ⟨-,rfl⟩ | ⟨-,rfl⟩ | ⟨-,rfl⟩ | ⟨-,rfl⟩ | ⟨-,rfl⟩ | ⟨-,rfl⟩
 · exact Co6 hc h e
 · exact BU7 h (hn rfl) e
 · exact Cp0 h (hn rfl) e
 · rw [Cp4 e];exact h
 · rw [BE9 e];exact h
 · rw [BF0 e];exact h
 · exact Co7 h (hn rfl) e
 · rw [BV1 e];exact h
 · exact CF1 h (hn rfl) e
 · rw [BV0 e];exact h
 · rw [BE8 e];exact h
theorem Cp1 (hc:cardIs c=true) (h:Right c b) {s:Str} {b':Bn} {r:Str} (e:lineX (bareC c) b s = .ok (b',r)):Right c b':=by
 unfold lineX at e
 split at e
 · cases e
 · split at e
   · cases e
   · split at e
     · exact CF2 h e
     · split at e
       · exact Cp3 h e
       · split at e
         · cases e
         · rename_i hv
           split at e
           · cases e
           · split at e
             · cases e
             · split at e
               · cases e
               · rename_i hr
                 exact Cp2 hc h hv (fun h1=>Classical.byContradiction fun h2=>hr ⟨h1,h2⟩) e
theorem Co8 (hc:cardIs c=true) (h:Right c b) (s:Str):Right c (stepX (bareC c) b s).1:=by
 unfold stepX
 cases e:lineX (bareC c) b s with
 | ok y=>exact Cp1 hc h e
 | error k=>exact h
end Go.Dk
namespace Go.Q
open Go Go.Eng Go.Pw1
theorem AP5 (n lo hi:Int) (W:World):CC 73 #[.I n,.I lo,.I hi] W (Pure (.bool (within n lo hi)) W):=by
 refine cS func73 ?_;refine st ?_
 refine Ab0 (dj:=10) (dp:=14) 4 rfl (fun g10=>by
  refine sv ?_;exact zs g10
 ) (fun g10=>by
   iterate 3 refine nQ ?_
   refine sv ?_;exact zs g10
 ) ?_
 refine su ?_;exact rP
theorem AD7 (s:Sp) (lo hi:Int) (W:World):CC 74 #[.agg #[.I s.lo,.I s.hi],.I lo,.I hi] W (Pure (.bool (isSpan s lo hi)) W):=by
 refine cS func74 ?_;refine st ?_;refine zn (Lm rfl) (fun b3=>?_)
 refine Ab0 (dj:=11) (dp:=17) 6 rfl (fun g11=>by
  refine lv (Lo rfl Az9) ?_;refine lv (Aa6 rfl mm0 Ae0 rfl) ?_;refine lv (Lo rfl Al7) ?_;refine Xa (Aa6 rfl mm0 Ae0 rfl) ?_;refine sv ?_;exact zs g11
 ) (fun g11=>by
   iterate 5 refine nQ ?_
   refine sv ?_;exact zs g11
 ) ?_
 refine st ?_
 refine Ab0 (dj:=18) (dp:=23) 5 rfl (fun g18=>by
  refine lv (Lo rfl Al7) ?_;refine Xa (Aa6 rfl mm0 Ae0 rfl) ?_;refine sv ?_;exact zs g18
 ) (fun g18=>by
   iterate 4 refine nQ ?_
   refine sv ?_;exact zs g18
 ) ?_
 refine su ?_;exact rP
theorem AW8 (x y:Sp) (W:World):CC 72 #[.agg #[.I x.lo,.I x.hi,.I y.lo,.I y.hi]] W (Pure (.bool (isPlace x y)) W):=by
 refine cS func72 ?_;refine st ?_;refine zn (Lm rfl) (fun b1=>?_)
 refine zc (zF rfl Cj3) (fun w hm=>AD7 ⟨_,_⟩ _ _ w) ?_
 refine Ab0 (dj:=6) (dp:=10) 4 rfl (fun g6=>by
  refine su ?_;refine Xe (zF rfl Cj3) (fun w hm=>AD7 ⟨_,_⟩ _ _ w) ?_;refine sv ?_;exact zs g6
 ) (fun g6=>by
   iterate 3 refine nQ ?_
   refine sv ?_;exact zs g6
 ) ?_
 refine su ?_;exact rP
theorem BU9 (p:Pr) (q:OA) (b o cap:Nat) (W:World) (hS:Sl W q b o 9 (p.things.map Th.cells)) (hl:p.things.length≤100000000000) :
  CC 27 #[p.v q cap] W (Pure (.bool (isPair p)) W):=by
 refine cS func27 ?_;refine st ?_;refine zn (Lm rfl) (fun b1=>?_)
 refine Ac8 (p.things.length) (fun k q=>(3,.I (k:Int))::q) (fun _=>_) (fun _=>[]) (fun k=>(p.things.take k).any (bad p)=false) (by simp) rfl (zE 3 rfl rfl (zS 1 rfl (Sub.nil _))) (qC .nil) ?_;intro k kN kI;refine su ?_;refine cn rfl ?_ ?_
 ·intro c0'
  have hk:k < p.things.length:=by omega
  obtain ⟨t,ht⟩:∃ t,p.things[k]=t:=⟨_,rfl⟩;refine su ?_;refine lv (Aa3 rfl rfl Ax9 (by omega) (by omega) (hS.ptrM hk)) ?_;refine lv (Aa5 rfl (fun w hm=>hS.loadX (by decide) hm (by simp) Ay5 hk ht)) ?_;refine zn (Lp Al0) (fun b4=>?_)
  refine sQ .here ?_;refine su ?_;refine zc (zF rfl Dp5) (fun w hm=>AW8 ⟨_,_⟩ ⟨_,_⟩ w) ?_
  refine Ac5 (dj:=21) (dp:=26) 5 rfl (fun g21=>by
   refine su ?_;refine Xe (zF rfl Dp5) (fun w hm=>AW8 ⟨_,_⟩ ⟨_,_⟩ w) ?_;refine sv ?_;exact zs g21
  ) (fun g21=>by
    iterate 4 refine nQ ?_
    refine sv ?_;exact zs g21
  ) ?_
  refine st ?_
  refine Ac5 (dj:=27) (dp:=41) 14 rfl (fun g27=>by
   refine su ?_
   refine Ab0 (dj:=31) (dp:=40) 9 rfl (fun g31=>by
    refine su ?_;refine Xe (zF rfl Cj4) (fun w hm=>AP5 _ _ _ w) ?_;refine sv ?_;exact zs g31
   ) (fun g31=>by
     iterate 8 refine nQ ?_
     refine sv ?_;exact zs g31
   ) ?_
   refine sv ?_;exact zs g27
  ) (fun g27=>by
    iterate 13 refine nQ ?_
    refine sv ?_;exact zs g27
  ) ?_
  refine st ?_;refine cn rfl ?_ ?_
  ·intro c1'
   refine su ?_;exact Aa9 rZ (by have h:=CW8 (f:=bad p) hk (by rw [ht];simpa [bad] using c1');simp [isPair,h])
  intro c1';refine st ?_;refine lA ?_;exact Ac2 (by omega) (AA1 hk kI (by rw [ht];obtain ⟨⟨h1,h2⟩,h3⟩:=c1';simp only [bad,Bool.or_eq_false_iff,Bool.not_eq_false',Bool.and_eq_false_iff,decide_eq_true_eq];exact ⟨⟨h1,h2⟩,h3⟩)) rfl (zE 3 rfl rfl (zS 1 rfl (Sub.nil _))) (qD .nil)
 intro c0';obtain rfl:k=p.things.length:=by omega
 rw [List.take_length] at kI;refine Ls ?_;refine su ?_;refine Aa4 ?_;refine su ?_
 refine Ab0 (dj:=46) (dp:=50) 4 rfl (fun g46=>by
  refine su ?_;refine Xe (zF rfl Cj3) (fun w hm=>AD7 ⟨_,_⟩ _ _ w) ?_;refine sv ?_;exact zs g46
 ) (fun g46=>by
   iterate 3 refine nQ ?_
   refine sv ?_;exact zs g46
 ) ?_
 refine st ?_
 refine Ab0 (dj:=51) (dp:=55) 4 rfl (fun g51=>by
  refine su ?_;refine Xe (zF rfl Cj3) (fun w hm=>AD7 ⟨_,_⟩ _ _ w) ?_;refine sv ?_;exact zs g51
 ) (fun g51=>by
   iterate 3 refine nQ ?_
   refine sv ?_;exact zs g51
 ) ?_
 refine st ?_
 refine Ab0 (dj:=56) (dp:=60) 4 rfl (fun g56=>by
  refine su ?_;refine Xe (zF rfl Cj4) (fun w hm=>AP5 _ _ _ w) ?_;refine sv ?_;exact zs g56
 ) (fun g56=>by
   iterate 3 refine nQ ?_
   refine sv ?_;exact zs g56
 ) ?_
 refine st ?_
 refine Ab0 (dj:=61) (dp:=65) 4 rfl (fun g61=>by
  refine su ?_;refine Xe (zF rfl Cj4) (fun w hm=>AP5 _ _ _ w) ?_;refine sv ?_;exact zs g61
 ) (fun g61=>by
   iterate 3 refine nQ ?_
   refine sv ?_;exact zs g61
 ) ?_
 refine st ?_
 refine Ab0 (dj:=66) (dp:=72) 6 rfl (fun g66=>by
  refine su ?_;refine Xe (zF rfl Cj4) (fun w hm=>AP5 _ _ _ w) ?_;refine sv ?_;exact zs g66
 ) (fun g66=>by
   iterate 5 refine nQ ?_
   refine sv ?_;exact zs g66
 ) ?_
 refine su ?_;exact Aa9 rZ (by simp only [isPair,kI,Bool.not_false,Bool.and_true];congr 1;cases isSpan p.focal 1 50000 <;> cases isSpan p.base 1 10000 <;> cases within p.tilt 0 1000 <;> cases within p.near 2000 1073741824 <;> cases within p.far p.near 1073741824 <;> simp)
end Go.Q
namespace Go.Pw1
open Go Go.Eng
end Go.Pw1
namespace Go.Q
open Go Go.Eng Go.Pw1
theorem Aq3 (n lo hi:Int) (W:World):CC 26 #[.I n,.I lo,.I hi] W (Pure (.bool (within n lo hi)) W):=by
 refine cS func26 ?_;refine st ?_
 refine Ab0 (dj:=10) (dp:=14) 4 rfl (fun g10=>by
  refine sv ?_;exact zs g10
 ) (fun g10=>by
   iterate 3 refine nQ ?_
   refine sv ?_;exact zs g10
 ) ?_
 refine su ?_;exact rP
theorem AX1 (c:Cd) (q:OA) (b o cap:Nat) (W:World) (hS:Sl W q b o 9 (c.p.things.map Th.cells)) (hl:c.p.things.length≤100000000000) :
  CC 8 #[c.v q cap] W (Pure (.bool (cardR c)) W):=by
 refine cS func8 ?_;refine st ?_;refine zn (Lm rfl) (fun b1=>?_)
 refine zc (zF rfl Bi1) (fun w hm=>Aq3 _ _ _ w) ?_
 refine Ab0 (dj:=7) (dp:=11) 4 rfl (fun g7=>by
  refine su ?_;refine Xe (zF rfl Bi1) (fun w hm=>Aq3 _ _ _ w) ?_;refine sv ?_;exact zs g7
 ) (fun g7=>by
   iterate 3 refine nQ ?_
   refine sv ?_;exact zs g7
 ) ?_
 refine st ?_
 refine Ab0 (dj:=12) (dp:=16) 4 rfl (fun g12=>by
  refine su ?_;refine Xe (zF rfl Bi1) (fun w hm=>Aq3 _ _ _ w) ?_;refine sv ?_;exact zs g12
 ) (fun g12=>by
   iterate 3 refine nQ ?_
   refine sv ?_;exact zs g12
 ) ?_
 refine st ?_
 refine Ab0 (dj:=17) (dp:=22) 5 rfl (fun g17=>by
  refine lv (Lo rfl Az8) ?_;refine lv (Lo rfl Az9) ?_;refine Xa (Aa6 rfl mm0 Ae0 rfl) ?_;refine sv ?_;exact zs g17
 ) (fun g17=>by
   iterate 4 refine nQ ?_
   refine sv ?_;exact zs g17
 ) ?_
 refine st ?_
 refine Ab0 (dj:=23) (dp:=31) 8 rfl (fun g23=>by
  refine lv (Lo rfl Az8) ?_;refine lv (Lo rfl Az9) ?_;refine lv (Aa6 rfl mm0 Ae0 rfl) ?_;refine lv (Lo rfl Az8) ?_;refine lv (Lo rfl Al7) ?_;refine Xa (Aa6 rfl mm0 Ae0 rfl) ?_;refine sv ?_;exact zs g23
 ) (fun g23=>by
   iterate 7 refine nQ ?_
   refine sv ?_;exact zs g23
 ) ?_
 refine st ?_
 refine Ab0 (dj:=32) (dp:=37) 5 rfl (fun g32=>by
  refine lv (Lo rfl Az8) ?_;refine lv (Lo rfl Al7) ?_;refine Xa (Aa6 rfl mm0 Ae0 rfl) ?_;refine sv ?_;exact zs g32
 ) (fun g32=>by
   iterate 4 refine nQ ?_
   refine sv ?_;exact zs g32
 ) ?_
 refine st ?_
 refine Ab0 (dj:=39) (dp:=43) 4 rfl (fun g39=>by
  refine su ?_;refine Xe (zF rfl Bi1) (fun w hm=>Aq3 _ _ _ w) ?_;refine sv ?_;exact zs g39
 ) (fun g39=>by
   iterate 3 refine nQ ?_
   refine sv ?_;exact zs g39
 ) ?_
 refine st ?_
 refine Ab0 (dj:=44) (dp:=48) 4 rfl (fun g44=>by
  refine su ?_;refine Xe (zF rfl Bi1) (fun w hm=>Aq3 _ _ _ w) ?_;refine sv ?_;exact zs g44
 ) (fun g44=>by
   iterate 3 refine nQ ?_
   refine sv ?_;exact zs g44
 ) ?_
 refine st ?_
 refine Ab0 (dj:=49) (dp:=53) 4 rfl (fun g49=>by
  refine su ?_;refine Xe (zF rfl Bi1) (fun w hm=>Aq3 _ _ _ w) ?_;refine sv ?_;exact zs g49
 ) (fun g49=>by
   iterate 3 refine nQ ?_
   refine sv ?_;exact zs g49
 ) ?_
 refine st ?_
 refine Ab0 (dj:=54) (dp:=58) 4 rfl (fun g54=>by
  refine su ?_;refine Xe (zF rfl Bi1) (fun w hm=>Aq3 _ _ _ w) ?_;refine sv ?_;exact zs g54
 ) (fun g54=>by
   iterate 3 refine nQ ?_
   refine sv ?_;exact zs g54
 ) ?_
 refine st ?_
 refine Ab0 (dj:=59) (dp:=63) 4 rfl (fun g59=>by
  refine su ?_;refine Xe (zF rfl DS3) (fun w hm=>BU9 c.p q b o cap w (hS.mono (by decide) hm (by simp)) hl) ?_;refine sv ?_;exact zs g59
 ) (fun g59=>by
   iterate 3 refine nQ ?_
   refine sv ?_;exact zs g59
 ) ?_
 refine su ?_;exact Aa9 rZ (by simp [cardR,Bool.and_assoc])
end Go.Q
namespace Go.Dk
open Go Go.Eng Go.RowKit Go.Pw1 Go.Hp
def farL (c:Cd) (l:List Str):Bool:=decide (40 < c.p.things.length) || decide (60 < l.length) || l.any fun s=>decide (400 < s.length)
def heavyC (c:Cd):Bool:=decide (20 < c.cuts) && cardR c
theorem BY0 {c:Cd} {l:List Str} (h:farL c l=false):c.p.things.length≤40∧l.length≤60∧∀ s∈l,s.length≤400:=by
 unfold farL at h;simp only [Bool.or_eq_false_iff,decide_eq_false_iff_not,List.any_eq_false,decide_eq_true_eq] at h;exact ⟨by omega,by omega,fun s hs=>by have:=h.2 s hs;omega⟩
theorem DO1 {c:Cd} {l:List Str} (h:(c.p.things.length:Int)≤40∧(l.length:Int)≤60) (hl:∀ s∈l,s.length≤400):farL c l=false:=by
 unfold farL;rw [decide_eq_false (show ¬ 40 < c.p.things.length by omega),decide_eq_false (show ¬ 60 < l.length by omega),show (l.any fun s=>decide (400 < s.length))=false from List.any_eq_false.2 fun s hs=>by have:=hl s hs;simp;omega];rfl
end Go.Dk
namespace Go.Q
open Go Go.Eng Go.Dk Go.RowKit Go.Pw1 Go.Hp
theorem Ck9:arr1B π 187=some 2:=by kernel_rfl
theorem Bb9:arr1B π 189=some 2:=by kernel_rfl
theorem BB0:arrB π 187=some (2,1):=by kernel_rfl
theorem BA9:arrB π 194=some (2,2):=by kernel_rfl
theorem CT7:Enters π 109:=eZ func109
theorem BZ9:Enters π 111:=eZ func111
theorem Bi7:Enters π 112:=eZ func112
theorem DG1:Enters π 113:=eZ func113
theorem CS6:Enters π 154:=eZ func154
theorem CS5:Enters π 155:=eZ func155
theorem Dz3:Enters π 304:=eZ func304
theorem Dz2:Enters π 305:=eZ func305
theorem CQ1:Enters π 39:=eZ func39
theorem DR8:Enters π 41:=eZ func41
theorem DR7:Enters π 42:=eZ func42
theorem DR6:Enters π 43:=eZ func43
theorem Bh7:fieldB π 108 0=some 0:=by kernel_rfl
instance:Fld π 108 0 0:=⟨Bh7⟩
theorem Bh6:fieldB π 108 1=some 1:=by kernel_rfl
instance:Fld π 108 1 1:=⟨Bh6⟩
theorem BL1:fieldB π 183 0=some 0:=by kernel_rfl
instance:Fld π 183 0 0:=⟨BL1⟩
theorem Bh5:fieldB π 186 0=some 0:=by kernel_rfl
instance:Fld π 186 0 0:=⟨Bh5⟩
theorem Bb3:fieldB π 48 0=some 0:=by kernel_rfl
instance:Fld π 48 0 0:=⟨Bb3⟩
theorem Bx2:fieldB π 48 1=some 8:=by kernel_rfl
instance:Fld π 48 1 8:=⟨Bx2⟩
theorem Bx1:fieldB π 48 2=some 16:=by kernel_rfl
instance:Fld π 48 2 16:=⟨Bx1⟩
theorem Bx0:fieldB π 48 3=some 17:=by kernel_rfl
instance:Fld π 48 3 17:=⟨Bx0⟩
theorem Aq4 (v:Value) (w:World):(method (π.types.size + Made.depth) 114 v "pairworks/years.answer").run π w = .ok (304,v) w:=by kernel_rfl
theorem Dg4:(π.underlying 114).any (fun t=>match t with | .interface _=>false | _=>true)=true:=by kernel_rfl
theorem Ch4:(π.underlying 183).any (fun t=>match t with | .interface _=>false | _=>true)=true:=by kernel_rfl
theorem Cr9:placesB π 108=some [(0,1),(1,1)]:=by kernel_rfl
theorem Cr8:placesB π 114=some []:=by kernel_rfl
theorem Cr4:placesB π 183=some [(0,1)]:=by kernel_rfl
theorem Cr3:placesB π 186=some [(0,18)]:=by kernel_rfl
theorem Cr2:placesB π 189=some [(0,1),(1,1)]:=by kernel_rfl
theorem Bm9:tyB π 108=some (true,2):=by kernel_rfl
instance:Tyc π 108 true 2:=⟨Bm9⟩
theorem DK6:tyB π 183=some (true,1):=by kernel_rfl
instance:Tyc π 183 true 1:=⟨DK6⟩
theorem Dn7:tyB π 187=some (true,2):=by kernel_rfl
instance:Tyc π 187 true 2:=⟨Dn7⟩
theorem Dn6:tyB π 189=some (true,2):=by kernel_rfl
instance:Tyc π 189 true 2:=⟨Dn6⟩
theorem Cf3:tyB π 194=some (true,4):=by kernel_rfl
instance:Tyc π 194 true 4:=⟨Cf3⟩
theorem Db7:tyB π 48=some (true,18):=by kernel_rfl
instance:Tyc π 48 true 18:=⟨Db7⟩
theorem Ba1:zeroB π 108=some [.I 0,.I 0]:=by kernel_rfl
theorem Da5:zeroB π 114=some []:=by kernel_rfl
theorem Ce4:zeroB π 183=some [.I 0]:=by kernel_rfl
theorem CZ8:zeroB π 186=some [.I 0,.I 0,.I 0,.I 0,.I 0,.I 0,.I 0,.slice none 0 0,.I 0,.I 0,.I 0,.I 0,.I 0,.I 0,.I 0,.slice none 0 0,.I 0,.I 0]:=by kernel_rfl
theorem CZ7:zeroB π 187=some [.I 0,.I 0]:=by kernel_rfl
theorem Ce3:zeroB π 189=some [.nilFunc,.nilFunc]:=by kernel_rfl
theorem Ce2:zeroB π 194=some [.I 0,.I 0,.I 0,.I 0]:=by kernel_rfl
theorem Bt7:zeroB π 26=some [.I 0,.I 0,.I 0,.I 0,.I 0,.I 0,.I 0,.slice none 0 0]:=by kernel_rfl
theorem DB6:Enters π 238:=eZ func238
theorem Bd6:slB π 69=some (73,4):=by kernel_rfl
instance:Slc π 69 73 4:=⟨Bd6⟩
theorem Bu3:tyB π 73=some (true,4):=by kernel_rfl
instance:Tyc π 73 true 4:=⟨Bu3⟩
theorem AB3:arrB π 140=some (5,1):=by kernel_rfl
theorem AE7:Enters π 123:=eZ func123
theorem CP9:Enters π 60:=eZ func60
theorem CP8:Enters π 63:=eZ func63
theorem Ap0:fieldB π 130 0=some 0:=by kernel_rfl
instance:Fld π 130 0 0:=⟨Ap0⟩
theorem Ci6:fieldB π 71 0=some 0:=by kernel_rfl
instance:Fld π 71 0 0:=⟨Ci6⟩
theorem Bw9:fieldB π 71 1=some 1:=by kernel_rfl
instance:Fld π 71 1 1:=⟨Bw9⟩
theorem AR2:fieldB π 73 1=some 1:=by kernel_rfl
instance:Fld π 73 1 1:=⟨AR2⟩
theorem Di4:fieldB π 73 2=some 2:=by kernel_rfl
instance:Fld π 73 2 2:=⟨Di4⟩
theorem Di3:fieldB π 73 3=some 3:=by kernel_rfl
instance:Fld π 73 3 3:=⟨Di3⟩
theorem Ch3:(π.underlying 212).any (fun t=>match t with | .interface _=>false | _=>true)=true:=by kernel_rfl
theorem Cr0:placesB π 212=some [(0,1)]:=by kernel_rfl
theorem AT7:placesB π 223=some [(0,1),(1,1)]:=by kernel_rfl
theorem AM0:slB π 216=some (223,2):=by kernel_rfl
instance:Slc π 216 223 2:=⟨AM0⟩
theorem Bu4:tyB π 66=some (false,1):=by kernel_rfl
instance:Tyc π 66 false 1:=⟨Bu4⟩
theorem Ce0:zeroB π 212=some [.I 0]:=by kernel_rfl
theorem AZ9:zeroB π 223=some [.nilFunc,.nilFunc]:=by kernel_rfl
theorem Cb2:boolB π 4=true:=by kernel_rfl
theorem BZ7:Enters π 119:=eZ func119
theorem DF9:Enters π 120:=eZ func120
theorem CT5:Enters π 121:=eZ func121
theorem DE7:Enters π 172:=eZ func172
theorem DE6:Enters π 173:=eZ func173
theorem DE5:Enters π 174:=eZ func174
theorem CS1:Enters π 175:=eZ func175
theorem DE2:Enters π 178:=eZ func178
theorem CO7:fieldB π 133 0=some 0:=by kernel_rfl
instance:Fld π 133 0 0:=⟨CO7⟩
theorem CO6:fieldB π 133 1=some 1:=by kernel_rfl
instance:Fld π 133 1 1:=⟨CO6⟩
theorem AR5:fieldB π 223 0=some 0:=by kernel_rfl
instance:Fld π 223 0 0:=⟨AR5⟩
theorem Ci5:fieldB π 71 2=some 2:=by kernel_rfl
instance:Fld π 71 2 2:=⟨Ci5⟩
theorem AR3:fieldB π 71 3=some 3:=by kernel_rfl
instance:Fld π 71 3 3:=⟨AR3⟩
theorem Av2:fieldB π 73 0=some 0:=by kernel_rfl
instance:Fld π 73 0 0:=⟨Av2⟩
theorem Cr7:placesB π 130=some [(0,4)]:=by kernel_rfl
theorem Bm8:tyB π 123=some (false,1):=by kernel_rfl
instance:Tyc π 123 false 1:=⟨Bm8⟩
theorem AW6:tyB π 216=some (false,1):=by kernel_rfl
instance:Tyc π 216 false 1:=⟨AW6⟩
theorem Cf2:tyB π 220=some (false,1):=by kernel_rfl
instance:Tyc π 220 false 1:=⟨Cf2⟩
theorem BS5:tyB π 69=some (false,1):=by kernel_rfl
instance:Tyc π 69 false 1:=⟨BS5⟩
theorem Cm8:tyB π 71=some (true,4):=by kernel_rfl
instance:Tyc π 71 true 4:=⟨Cm8⟩
theorem Da2:zeroB π 130=some [.I 0,.slice none 0 0,.I 0,.slice none 0 0]:=by kernel_rfl
theorem CZ6:zeroB π 216=some [.slice none 0 0]:=by kernel_rfl
theorem DN8 (a0:Int) (a1:Int) (a2:Int) (a3:Int) (a4:Int) (c0:Int) (c1:Int) (c2:Int) (c3:Int) (c4:Int):eqF π 8 140 [.I a0,.I a1,.I a2,.I a3,.I a4] [.I c0,.I c1,.I c2,.I c3,.I c4]=some (decide (a0=c0) && (decide (a1=c1) && (decide (a2=c2) && (decide (a3=c3) && (decide (a4=c4) && true))))):=by kernel_rfl
theorem AB7:tyB π 140=some (true,5):=by kernel_rfl
instance:Tyc π 140 true 5:=⟨AB7⟩
theorem CP7:Enters π 64:=eZ func64
theorem Ay1:zeroB π 140=some [.I 0,.I 0,.I 0,.I 0,.I 0]:=by kernel_rfl
theorem DE4:Enters π 176:=eZ func176
theorem DE3:Enters π 177:=eZ func177
theorem DE1:Enters π 179:=eZ func179
theorem DB5:Enters π 239:=eZ func239
theorem DB4:Enters π 240:=eZ func240
theorem DB3:Enters π 241:=eZ func241
theorem CT4:Enters π 122:=eZ func122
theorem BK6:fieldB π 223 1=some 1:=by kernel_rfl
instance:Fld π 223 1 1:=⟨BK6⟩
theorem Cr5:placesB π 140=some [(0,1),(1,1),(2,1),(3,1),(4,1)]:=by kernel_rfl
theorem Cf4:tyB π 125=some (false,1):=by kernel_rfl
instance:Tyc π 125 false 1:=⟨Cf4⟩
theorem CA4:tyB π 215=some (false,1):=by kernel_rfl
instance:Tyc π 215 false 1:=⟨CA4⟩
theorem Dn4:tyB π 221=some (false,1):=by kernel_rfl
instance:Tyc π 221 false 1:=⟨Dn4⟩
theorem Da3:zeroB π 125=some [.map none]:=by kernel_rfl
theorem AG0:zeroB π 73=some [.I 0,.I 0,.I 0,.I 0]:=by kernel_rfl
theorem Dz1:Enters π 308:=eZ func308
theorem DR5:Enters π 53:=eZ func53
theorem Dq0:Enters π 56:=eZ func56
theorem DR4:Enters π 57:=eZ func57
theorem CN5:fieldB π 212 0=some 0:=by kernel_rfl
instance:Fld π 212 0 0:=⟨CN5⟩
theorem At0:fieldB π 227 0=some 0:=by kernel_rfl
instance:Fld π 227 0 0:=⟨At0⟩
theorem AR4:fieldB π 227 1=some 1:=by kernel_rfl
instance:Fld π 227 1 1:=⟨AR4⟩
theorem CN4:fieldB π 227 2=some 2:=by kernel_rfl
instance:Fld π 227 2 2:=⟨CN4⟩
theorem As6 (v:Value) (w:World):(method (π.types.size + Made.depth) 137 v "pairworks/lend.allows").run π w = .ok (308,v) w:=by kernel_rfl
theorem Dg3:(π.underlying 137).any (fun t=>match t with | .interface _=>false | _=>true)=true:=by kernel_rfl
theorem Cr6:placesB π 137=some []:=by kernel_rfl
theorem DK4:tyB π 212=some (true,1):=by kernel_rfl
instance:Tyc π 212 true 1:=⟨DK4⟩
theorem Da1:zeroB π 137=some []:=by kernel_rfl
theorem CT3:Enters π 125:=eZ func125
theorem DF8:Enters π 126:=eZ func126
theorem Cj5:Enters π 51:=eZ func51
theorem Dq3:Enters π 52:=eZ func52
theorem CZ5:zeroB π 227=some [.I 0,.I 0,.bool false]:=by kernel_rfl
end Go.Q
namespace Go.Dk
open Go Go.Eng Go.RowKit Go.Pw1 Go.Hp
theorem AR9 {m:Nat} (h:m < 10):(UInt8.ofNat (48 + m)).toNat=48 + m:=by
 simp only [UInt8.toNat_ofNat'];omega
theorem Bz4:∀ (u:Nat),∀ c∈Lib.decDigits u,48≤c.toNat∧c.toNat≤57:=by
 intro u
 induction u using Nat.strongRecOn with
 | _ u ih =>
   intro c hc;rw [Lib.decDigits] at hc
   split at hc
   · simp only [List.mem_singleton] at hc
     subst hc;rw [AR9 (by omega)];omega
   · rcases List.mem_append.1 hc with h | h
     · exact ih _ (by omega) c h
     · simp only [List.mem_singleton] at h
       subst h;rw [AR9 (by omega)];omega
theorem Dr3 (u:Nat):Lib.decDigits u ≠ []:=by
 rw [Lib.decDigits]
 split <;> simp
theorem BG1:∀ (a b:Str) (acc:Nat),Lib.parseUint10 acc (a++b)=match Lib.parseUint10 acc a with
  | .ok u=>Lib.parseUint10 u b
  | x=>x
 | [],b,acc=>rfl
 | c::a,b,acc=>by
   simp only [List.cons_append,Lib.parseUint10]
   split
   · split
     · rfl
     · split
       · rfl
       · exact BG1 a b _
   · rfl
theorem BG0 {acc m:Nat} (hm:m < 10) (ha:acc * 10 + m≤9223372036854775808):Lib.parseUint10 acc [UInt8.ofNat (48 + m)] = .ok (acc * 10 + m):=by
 have hd:=AR9 hm;simp only [Lib.parseUint10,hd];rw [if_pos (by omega),if_neg (by omega),if_neg (by omega)];simp
theorem CG6:∀ (u:Nat),u≤9223372036854775808→Lib.parseUint10 0 (Lib.decDigits u) = .ok u:=by
 intro u
 induction u using Nat.strongRecOn with
 | _ u ih =>
   intro hu;rw [Lib.decDigits]
   split
   · rw [BG0 (by omega) (by omega)]
     simp
   · rw [BG1,ih _ (by omega) (by omega)]
     dsimp only;rw [BG0 (by omega) (by omega)]
     congr 1
     omega
def digB (c:UInt8):Bool:=decide (48≤c.toNat) && decide (c.toNat≤57)
def valN (s:Str):Nat:=s.foldl (fun n c=>10 * n + (c.toNat - 48)) 0
def numU (s:Str):Int×Bool:=if s.length < 1∨13 < s.length then (0,false) else if s.all digB then ((valN s:Int),decide (Lib.itoa (valN s:Int)=s)) else (0,false)
theorem Cz3 (s:Str) (c:UInt8):valN (s++[c])=10 * valN s + (c.toNat - 48):=by unfold valN;rw [List.foldl_append];rfl
theorem Db3:∀ u:Nat,valN (Lib.decDigits u)=u:=by
 intro u
 induction u using Nat.strongRecOn with
 | _ u ih =>
   rw [Lib.decDigits]
   split
   · have:=AR9 (m:=u) (by omega)
     simp only [valN,List.foldl_cons,List.foldl_nil,this];omega
   · rw [Cz3,ih _ (by omega),AR9 (by omega)]
     omega
theorem DG6 (u:Nat):(Lib.decDigits u).all digB=true:=List.all_eq_true.2 fun c hc=>by
 have:=Bz4 u c hc
 simp only [digB,Bool.and_eq_true,decide_eq_true_eq];exact this
theorem DG5 {u:Nat} (h:u < 10 ^ 13):1≤(Lib.decDigits u).length∧(Lib.decDigits u).length≤13:=by
 have key:∀ (k u:Nat),u < 10 ^ (k + 1)→Lib.nDigits u≤k + 1:=by
  intro k
  induction k with
  | zero=>intro u h;exact Nat.le_of_eq (Lib.nDigits_small (by omega))
  | succ k ih =>
    intro u h
    by_cases h1:u < 10
    · rw [Lib.nDigits_small h1];omega
    · rw [Lib.nDigits_big h1]
      have:=ih (u / 10) (by rw [Nat.pow_succ] at h;omega)
      omega
 rw [Lib.decDigits_length];exact ⟨Lib.nDigits_pos u,key 12 u h⟩
def Big (n:Int):Prop:=0≤n∧n < 10 ^ 13
theorem numU_itoa {n:Int} (h:Big n):numU (Lib.itoa n)=(n,true):=by
 obtain ⟨h1,h2⟩:=h;have e:Lib.itoa n=Lib.decDigits n.toNat:=by unfold Lib.itoa;rw [if_neg (by omega)]
 have hl:=DG5 (u:=n.toNat) (by omega);have e2:((valN (Lib.decDigits n.toNat):Nat):Int)=n:=by rw [Db3];omega
 unfold numU;rw [e,if_neg (by omega),if_pos (DG6 _),e2,e];simp
theorem CW5 {n:Int} (h:Big n):Lib.atoiAll (Lib.itoa n) = .ok n:=by
 obtain ⟨h1,h2⟩:=h;have e:Lib.itoa n=Lib.decDigits n.toNat:=by unfold Lib.itoa;rw [if_neg (by omega)]
 have key:Lib.parseMag (Lib.decDigits n.toNat) = .ok n.toNat:=by
  unfold Lib.parseMag;rw [if_neg (Dr3 _),CG6 _ (by omega)]
 rw [e]
 cases hd:Lib.decDigits n.toNat with
 | nil=>exact absurd hd (Dr3 _)
 | cons a r =>
   have ha:=Bz4 n.toNat a (by rw [hd];exact .head _);rw [hd] at key;unfold Lib.atoiAll;simp only [];rw [if_neg (by omega),key];simp only [];rw [if_neg (by omega),if_neg (by omega),if_neg (by omega)]
   congr 1
   omega
def manyX (x:Str):Int:=match verbX x with | some v=>v.many | none=>-1
end Go.Dk
namespace Go.Q
open Go Go.Eng Go.Dk Go.RowKit Go.Pw1 Go.Hp
end Go.Q
namespace Go.Dk
open Go Go.Eng Go.RowKit Go.Pw1 Go.Hp
def remL (s:Str):Str:=s.foldl (fun r c=>if c=10 then [] else r++[c]) []
structure LnI (s:Str) (k fr:Nat) (out:List Str):Prop where
 le:fr≤k
 rem:remL (s.take k)=(s.take k).drop fr
 out:out=linesX (s.take k) []
theorem LnI.zero (s:Str):LnI s 0 0 []:=⟨Nat.le_refl _,rfl,rfl⟩
end Go.Dk
namespace Go.Q
open Go Go.Eng Go.Dk Go.RowKit Go.Pw1 Go.Hp
end Go.Q
namespace Go.Pw1
open Go Go.Eng
structure Gl where
 f:Pr
 s:Pr
 d1:Int
 d2:Int
structure Ga where
 q1:OA
 b1:Nat
 o1:Nat
 c1:Nat
 q2:OA
 b2:Nat
 o2:Nat
 c2:Nat
def Gl.cells (g:Gl) (a:Ga):LV:=[.I g.f.focal.lo,.I g.f.focal.hi,.I g.f.base.lo,.I g.f.base.hi,.I g.f.tilt,.I g.f.near,.I g.f.far,.slice a.q1 g.f.things.length a.c1,
 .I g.s.focal.lo,.I g.s.focal.hi,.I g.s.base.lo,.I g.s.base.hi,.I g.s.tilt,.I g.s.near,.I g.s.far,.slice a.q2 g.s.things.length a.c2,.I g.d1,.I g.d2]
def Gl.v (g:Gl) (a:Ga):Value:=.agg (g.cells a).toArray
structure GIn (w:World) (g:Gl) (a:Ga):Prop where
 s1:Sl w a.q1 a.b1 a.o1 9 (g.f.things.map Th.cells)
 s2:Sl w a.q2 a.b2 a.o2 9 (g.s.things.map Th.cells)
 l1:g.f.things.length≤100000000000
 l2:g.s.things.length≤100000000000
theorem GIn.mono {W w:World} {g:Gl} {a:Ga} {news:Blks} (h:GIn W g a) (hm:Mem W [] news w):GIn w g a:=⟨h.s1.mono (by decide) hm (by simp),h.s2.mono (by decide) hm (by simp),h.l1,h.l2⟩
abbrev Z2:=(Int×Int)×(Int×Int)
def z2c (z:Z2):LV:=[.I z.1.1,.I z.1.2,.I z.2.1,.I z.2.2]
def z2v (z:Z2):Value:=.agg (z2c z).toArray
def fitG (g:Gl):Bool:=decide ((g.f.things.length:Int)=(g.s.things.length:Int)) && within g.d1 0 65536 && within g.d2 0 65536 && decide (g.d1 < g.d2)
def openG (g:Gl) (valid:Bool):Except Int Unit :=
 if fitG g && !decide ((powerX g.f).2=1) && !decide ((powerX g.s).2=1) then
  if valid then if (powerX g.f).2=0 then if (powerX g.s).2=0 then .ok () else .error (powerX g.s).2 else .error (powerX g.f).2
  else .error 2
 else .error 1
def isThingG (g:Gl) (n:Int):Bool:=within n 0 (g.f.things.length - 1)
def farG (g:Gl) (n:Int):Z2:=((distX g.f n).1,(distX g.s n).1)
def seenG (g:Gl) (n:Int):Bool:=decide ((distX g.f n).2=0) && decide ((distX g.s n).2=0)
def lessZ (a b:Int×Int):Int×Int:=(a.1 - b.2,a.2 - b.1)
def movedZ (z:Z2):Int×Int:=lessZ z.2 z.1
def askG {α:Type} (g:Gl) (n:Int) (f:Z2→α) (none:α):α×Int :=
 match openG g (isThingG g n) with
 | .error k=>(none,k)
 | .ok _=>if seenG g n then (f (farG g n),0) else (none,11)
def gMoved (g:Gl) (n:Int):(Int×Int)×Int:=askG g n movedZ (0,0)
theorem BM3 (p:Pr) (n:Int):0≤(distX p n).1.1∧(distX p n).1.1≤1100000000∧0≤(distX p n).1.2∧(distX p n).1.2≤1100000000:=by
 unfold distX
 cases h:truthsX p [n] with
 | error k=>simp
 | ok w =>
   obtain ⟨hp,hop,w1,w2,w3⟩:=Ar7 h;obtain ⟨k,rfl,hk⟩:=AJ9 hop (List.mem_singleton.2 rfl);obtain ⟨t,ht⟩:∃ t,p.things[k]=t:=⟨_,rfl⟩;have hth:=hp.ths _ (List.getElem_mem hk);rw [ht] at hth;simp only [Af0 hk ht];have n1:=hp.n1;have n2:=hp.n2;have n3:=hp.n3
   split
   · rename_i hs
     have sb:=AP2 (Bd3 hs).1
     split
     · rename_i hf
       rcases hth.2 with h0 | h0
       · exact absurd h0 hf
       · simp only;omega
     · have d1:=Int.ediv_nonneg (show 0≤w.1 by omega) (show 0≤(shownS t).2 + 1 by omega)
       have d2:=Int.ediv_le_self ((shownS t).2 + 1) (show 0≤w.1 by omega);simp only [nar]
       split
       · have d3:=Int.ediv_nonneg (show 0≤w.2 by omega) (show 0≤(shownS t).1 by omega)
         omega
       · omega
   · simp
end Go.Pw1
namespace Go.Dk
open Go Go.Eng Go.Pw1 Go.Hp
theorem Bj4:∀ (a b cur:Str),(∀ c∈a,c ≠ 32)→blanks (a++32::b) cur=(cur++a)::blanks b []
 | [],b,cur,_=>by simp [blanks]
 | x::a,b,cur,h=>by
   show (if x=32 then cur::blanks (a++32::b) [] else blanks (a++32::b) (cur++[x]))=_
   rw [if_neg (h x (List.mem_cons_self ..)),Bj4 a b (cur++[x]) (fun c hc=>h c (List.mem_cons_of_mem _ hc))];simp
theorem AV3:∀ (a cur:Str),(∀ c∈a,c ≠ 32)→blanks a cur=[cur++a]
 | [],cur,_=>by simp [blanks]
 | x::a,cur,h=>by
   unfold blanks;rw [if_neg (h x (List.mem_cons_self ..)),AV3 a (cur++[x]) (fun c hc=>h c (List.mem_cons_of_mem _ hc))];simp
theorem Dx0 {n:Int} (h:Big n):∀ c∈Lib.itoa n,c ≠ 32:=fun c hc=>by
 have e:Lib.itoa n=Lib.decDigits n.toNat:=by unfold Lib.itoa;rw [if_neg (by have:=h.1;omega)]
 rw [e] at hc
 have:=Bz4 n.toNat c hc
 rintro rfl
 simp [digB] at this
theorem AV2:∀ (l:List Int) (w:Str),(∀ c∈w,c ≠ 32)→(∀ n∈l,Big n)→blanks (sayX w l) []=w::l.map Lib.itoa
 | [],w,hw,_=>by
   unfold sayX;rw [List.map_nil,List.flatten_nil,List.append_nil,AV3 w [] hw];rfl
 | n::l,w,hw,h=>by
   have e:sayX w (n::l)=w++32::sayX (Lib.itoa n) l:=by simp [sayX]
   rw [e,Bj4 w _ [] hw,AV2 l (Lib.itoa n) (Dx0 (h n (List.mem_cons_self ..))) (fun m hm=>h m (List.mem_cons_of_mem _ hm))];rfl
theorem Co1:((List.range 12).all fun i=>decide (numX (Lib.itoa (i:Int))=some (i:Int)) && wordX (Lib.itoa (i:Int)) && decide ((Lib.itoa (i:Int)).length≤2))=true:=by kernel_rfl
theorem CC6 {i:Nat} (h:i < 12):numX (Lib.itoa (i:Int))=some (i:Int)∧wordX (Lib.itoa (i:Int))=true∧(Lib.itoa (i:Int)).length≤2:=by
 have:=List.all_eq_true.1 Co1 i (List.mem_range.2 h)
 simpa [and_assoc] using this
end Go.Dk
namespace Go.Bk
open Go Go.Eng
abbrev Str:=List UInt8
def within (n lo hi:Int):Bool:=decide (lo≤n) && decide (n≤hi)
def needX (b:Bool) (e:Int):Except Int Value:=if b then .ok (.tuple #[]) else .error e
theorem Ad9 {b:Bool} {e:Int} {v:Value} (h:needX b e = .ok v):b=true∧v = .tuple #[]:=by
 cases b <;> simp [needX] at h ⊢
 exact h.symm
theorem Ac9 {b:Bool} {e k:Int} (h:needX b e = .error k):b=false∧k=e:=by
 cases b <;> simp [needX] at h ⊢
 exact h.symm
structure Sp where
 lo:Int
 hi:Int
deriving DecidableEq
def Sp.cells (s:Sp):LV:=[.I s.lo,.I s.hi]
structure Tr where
 dawn:Int
 fr:List Sp
 ways:List (List Sp)
 stay:List Sp
 light:List Sp
structure Ln where
 kind:Int
 card:Int
 person:Int
 slot:Int
deriving DecidableEq
def Ln.cells (l:Ln):LV:=[.I l.kind,.I l.card,.I l.person,.I l.slot]
structure Cb where
 slots:Int
 homes:List Int
 wrong:Int
 loans:List Ln
structure Tm where
 first:Int
 upto:Int
 beyond:Int
deriving DecidableEq
def Tm.cells (t:Tm):LV:=[.I t.first,.I t.upto,.I t.beyond]
structure Rp where
 agent:Int
 kind:Int
 first:Int
 last:Int
deriving DecidableEq
def Rp.cells (t:Rp):LV:=[.I t.agent,.I t.kind,.I t.first,.I t.last]
structure Ry where
 terms:List Tm
 prices:List Int
 shares:List (List Int)
 reports:List Rp
 paid:List Int
structure Pt where
 size:Sp
 wide:Sp
 marks:Int
deriving DecidableEq
def Pt.cells (p:Pt):LV:=[.I p.size.lo,.I p.size.hi,.I p.wide.lo,.I p.wide.hi,.I p.marks]
structure Ps where
 cards:List Pt
 less:Sp
 loss:Sp
def idxX (l:List Int) (x:Int):Int:=if l.any (fun y=>decide (x=y)) then (l.findIdx (fun y=>decide (x=y)):Int) else -1
def homesX (c:Cb) (k:Nat):Bool:=(List.range k).all fun i=>within (c.homes.getD i 0) 0 (c.slots - 1) && decide (idxX c.homes (c.homes.getD i 0)=(i:Int))
def nl:Str:=[10]
def wWays:Str:=[119,97,121,115]
def wNone:Str:=[110,111,110,101]
open Go.RowKit
structure SA (α:Type) where
 l:List α
 q:OA
 b:Nat
 o:Nat
 c:Nat
def SA.v {α:Type} (s:SA α):Value:=.slice s.q s.l.length s.c
def SA.cell {α:Type} (s:SA α):LV:=[s.v]
def intC (n:Int):LV:=[.I n]
def SA.ok {α:Type} (s:SA α) (f:α→LV) (sz:Nat) (W:World):Prop:=Sl W s.q s.b s.o sz (s.l.map f)
theorem SA.ok.mono0 {α:Type} {s:SA α} {f:α→LV} {sz:Nat} {W w:World} {news:Blks} (h:s.ok f sz W) (hz:0 < sz) (hm:Mem W [] news w):s.ok f sz w:=Sl.mono h hz hm (by simp)
def idxP {α:Type} (p:α→Bool) (l:List α):Int:=if l.any p then (l.findIdx p:Int) else -1
theorem AU5 {α:Type} {p:α→Bool} {l:List α} {k:Nat} (hk:k < l.length) (h:p l[k]=true) (hn:∀ j (hj:j < l.length),j < k→p l[j]=false):idxP p l=(k:Int):=by
 unfold idxP;rw [if_pos (List.any_eq_true.2 ⟨_,List.getElem_mem hk,h⟩),(List.findIdx_eq hk).2 ⟨h,fun j hj=>hn j (by omega) hj⟩]
theorem Bg8 {α:Type} {p:α→Bool} {l:List α} (hn:∀ j (hj:j < l.length),p l[j]=false):idxP p l = -1:=by
 unfold idxP;rw [if_neg];rw [List.any_eq_true]
 rintro ⟨x,hx,h⟩
 obtain ⟨j,hj,rfl⟩:=List.getElem_of_mem hx;rw [hn j hj] at h
 cases h
theorem Dx2 {α:Type} (p:α→Bool) (l:List α):decide (0≤idxP p l)=l.any p:=by
 unfold idxP
 cases h:l.any p with
 | true=>rw [if_pos rfl];exact decide_eq_true (by omega)
 | false=>rw [if_neg (by decide)];rfl
def idxI (l:List Int) (x:Int):Int:=idxP (fun y=>decide (x=y)) l
theorem CL1 (l:List Int) (x:Int):idxX l x=idxI l x:=rfl
structure TrA where
 dawn:Int
 fr:SA Sp
 ways:SA (SA Sp)
 stay:SA Sp
 light:SA Sp
def TrA.cells (t:TrA):LV:=[.I t.dawn,t.fr.v,t.ways.v,t.stay.v,t.light.v]
def TrA.v (t:TrA):Value:=.agg t.cells.toArray
def TrA.pl (t:TrA):Tr:=⟨t.dawn,t.fr.l,t.ways.l.map (·.l),t.stay.l,t.light.l⟩
structure TrOk (W:World) (t:TrA):Prop where
 fr:t.fr.ok Sp.cells 2 W
 ways:t.ways.ok SA.cell 1 W
 rows:∀ x∈t.ways.l,x.ok Sp.cells 2 W
 stay:t.stay.ok Sp.cells 2 W
 light:t.light.ok Sp.cells 2 W
 wq:t.ways.q=none→t.ways.l.length=0∧t.ways.c=0
theorem TrOk.mono0 {W w:World} {t:TrA} {news:Blks} (h:TrOk W t) (hm:Mem W [] news w):TrOk w t :=
 ⟨h.fr.mono0 (by decide) hm,h.ways.mono0 (by decide) hm,fun x hx=>(h.rows x hx).mono0 (by decide) hm,h.stay.mono0 (by decide) hm,h.light.mono0 (by decide) hm,h.wq⟩
structure TrSm (t:TrA):Prop where
 fr:t.fr.l.length≤10000
 ways:t.ways.l.length≤10000
 rows:∀ x∈t.ways.l,x.l.length≤10000
 stay:t.stay.l.length≤10000
 light:t.light.l.length≤10000
def TrA.all (t:TrA):List (SA Sp):=t.ways.l++[t.fr,t.stay,t.light]
theorem TrOk.all {W:World} {t:TrA} (h:TrOk W t):∀ x∈t.all,x.ok Sp.cells 2 W:=fun x hx=>by
 rcases List.mem_append.1 hx with hx | hx
 · exact h.rows x hx
 · simp only [List.mem_cons,List.not_mem_nil,or_false] at hx
   rcases hx with rfl | rfl | rfl
   · exact h.fr
   · exact h.stay
   · exact h.light
theorem TrSm.all {t:TrA} (h:TrSm t):∀ x∈t.all,x.l.length≤10000:=fun x hx=>by
 rcases List.mem_append.1 hx with hx | hx
 · exact h.rows x hx
 · simp only [List.mem_cons,List.not_mem_nil,or_false] at hx
   rcases hx with rfl | rfl | rfl
   · exact h.fr
   · exact h.stay
   · exact h.light
structure CbA where
 slots:Int
 homes:SA Int
 wrong:Int
 loans:SA Ln
def CbA.cells (c:CbA):LV:=[.I c.slots,c.homes.v,.I c.wrong,c.loans.v]
def CbA.v (c:CbA):Value:=.agg c.cells.toArray
def CbA.pl (c:CbA):Cb:=⟨c.slots,c.homes.l,c.wrong,c.loans.l⟩
structure CbOk (W:World) (c:CbA):Prop where
 homes:c.homes.ok intC 1 W
 loans:c.loans.ok Ln.cells 4 W
theorem CbOk.mono0 {W w:World} {t:CbA} {news:Blks} (h:CbOk W t) (hm:Mem W [] news w):CbOk w t:=⟨h.homes.mono0 (by decide) hm,h.loans.mono0 (by decide) hm⟩
structure CbS (c:CbA):Prop where
 homes:c.homes.l.length≤10000
 loans:c.loans.l.length≤10000
structure RyA where
 terms:SA Tm
 prices:SA Int
 shares:SA (SA Int)
 reports:SA Rp
 paid:SA Int
def RyA.cells (r:RyA):LV:=[r.terms.v,r.prices.v,r.shares.v,r.reports.v,r.paid.v]
def RyA.v (r:RyA):Value:=.agg r.cells.toArray
def RyA.pl (r:RyA):Ry:=⟨r.terms.l,r.prices.l,r.shares.l.map (·.l),r.reports.l,r.paid.l⟩
structure RyOk (W:World) (r:RyA):Prop where
 terms:r.terms.ok Tm.cells 3 W
 prices:r.prices.ok intC 1 W
 shares:r.shares.ok SA.cell 1 W
 rows:∀ x∈r.shares.l,x.ok intC 1 W
 reports:r.reports.ok Rp.cells 4 W
 paid:r.paid.ok intC 1 W
theorem RyOk.mono0 {W w:World} {t:RyA} {news:Blks} (h:RyOk W t) (hm:Mem W [] news w):RyOk w t :=
 ⟨h.terms.mono0 (by decide) hm,h.prices.mono0 (by decide) hm,h.shares.mono0 (by decide) hm,fun x hx=>(h.rows x hx).mono0 (by decide) hm,h.reports.mono0 (by decide) hm,h.paid.mono0 (by decide) hm⟩
structure PsA where
 cards:SA Pt
 less:Sp
 loss:Sp
def PsA.cells (p:PsA):LV:=[p.cards.v,.I p.less.lo,.I p.less.hi,.I p.loss.lo,.I p.loss.hi]
def PsA.v (p:PsA):Value:=.agg p.cells.toArray
def PsA.pl (p:PsA):Ps:=⟨p.cards.l,p.less,p.loss⟩
theorem Bp7 (c:Cb) (k:Nat):homesX c (k + 1)=(homesX c k && (within (c.homes.getD k 0) 0 (c.slots - 1) && decide (idxX c.homes (c.homes.getD k 0)=(k:Int)))):=by
 unfold homesX;rw [List.range_succ,List.all_append];simp
end Go.Bk
namespace Go.Le
open Go Go.Eng Go.Bk
abbrev Rc:=List (List Int×Int)
def aIdx:Rc→List Int→Option (Nat×Int)
 | [],_=>none
 | x::l,a=>if x.1=a then some (0,x.2) else (aIdx l a).map fun p=>(p.1 + 1,p.2)
def aFind (l:Rc) (a:List Int):Option Int:=(aIdx l a).map (·.2)
def aSet:Rc→List Int→Int→Rc
 | [],a,v=>[(a,v)]
 | x::l,a,v=>if x.1=a then (a,v)::l else x::aSet l a v
def rv (l:Rc):List (List Int×Value):=l.map fun p=>(p.1,.I p.2)
theorem Do2 (a:List Int):∀ l:Rc,kIdx (rv l) a=(aIdx l a).map fun p=>(p.1,.I p.2)
 | []=>rfl
 | x::l=>by
   show (if x.1=a then _ else _)=_
   unfold aIdx
   by_cases h:x.1=a
   · rw [if_pos h,if_pos h];rfl
   · rw [if_neg h,if_neg h,show kIdx (List.map (fun p:List Int×Int=>(p.1,Value.int .i64 p.2)) l) a=_ from Do2 a l]
     cases aIdx l a <;> rfl
theorem CE4 (l:Rc) (a:List Int):kFind (rv l) a=(aFind l a).map (Value.int .i64):=by
 unfold kFind aFind;rw [Do2]
 cases aIdx l a <;> rfl
theorem Do1 (a:List Int) (v:Int):∀ l:Rc,kSet (rv l) a (.I v)=rv (aSet l a v)
 | []=>rfl
 | x::l=>by
   show (if x.1=a then _ else _)=_
   unfold aSet
   by_cases h:x.1=a
   · rw [if_pos h,if_pos h];rfl
   · rw [if_neg h,if_neg h,show kSet (List.map (fun p:List Int×Int=>(p.1,Value.int .i64 p.2)) l) a (.int .i64 v)=_ from Do1 a v l];rfl
theorem Bo0 (l:Rc):(rv l).length=l.length:=by simp [rv]
theorem CX3 (a:List Int):aFind [] a=none:=rfl
theorem Av9 (x:List Int×Int) (l:Rc) (a:List Int):aFind (x::l) a=if x.1=a then some x.2 else aFind l a:=by
 unfold aFind
 show Option.map _ (if x.1=a then _ else _)=_
 by_cases h:x.1=a
 · rw [if_pos h,if_pos h];rfl
 · rw [if_neg h,if_neg h]
   cases aIdx l a <;> rfl
theorem Bk0 (a b:List Int) (v:Int):∀ l:Rc,aFind (aSet l a v) b=if a=b then some v else aFind l b
 | []=>by
   show aFind [(a,v)] b=_
   rw [Av9]
 | x::l=>by
   unfold aSet
   by_cases h:x.1=a
   · rw [if_pos h,Av9,Av9,h]
     by_cases h2:a=b
     · simp [h2]
     · simp [h2]
   · rw [if_neg h,Av9,Av9,Bk0 a b v l]
     by_cases h2:x.1=b
     · have:a ≠ b:=fun e=>h (by rw [h2,e])
       simp [h2,this]
     · simp [h2]
theorem Bj9 (a:List Int) (v:Int):∀ l:Rc,(aSet l a v).map (·.1)=if a∈l.map (·.1) then l.map (·.1) else l.map (·.1)++[a]
 | []=>by simp [aSet]
 | x::l=>by
   unfold aSet
   by_cases h:x.1=a
   · simp [h]
   · have h2:¬ a=x.1:=fun e=>h e.symm
     rw [if_neg h,List.map_cons,Bj9 a v l]
     by_cases h3:a∈l.map (·.1)
     · rw [if_pos h3,if_pos (by simp only [List.map_cons,List.mem_cons];exact .inr h3)];rfl
     · rw [if_neg h3,if_neg (by simp only [List.map_cons,List.mem_cons];exact fun h=>h.elim h2 h3)];rfl
def Nk (l:Rc):Prop:=(l.map (·.1)).Nodup
theorem Nk.set {l:Rc} (h:Nk l) (a:List Int) (v:Int):Nk (aSet l a v):=by
 unfold Nk at *;rw [Bj9]
 split
 · exact h
 · rename_i ha
   rw [List.nodup_append];refine ⟨h,by simp,fun x hx y hy=>?_⟩
   rw [List.mem_singleton.1 hy]
   rintro rfl
   exact ha hx
theorem Bk1 {k:List Int} {v:Int}:∀ {l:Rc},Nk l→((k,v)∈l ↔ aFind l k=some v)
 | [],_=>by simp [CX3]
 | x::l,h=>by
   have h':x.1 ∉ l.map (·.1)∧Nk l:=List.nodup_cons.1 (show (x.1::l.map (·.1)).Nodup from h);rw [Av9,List.mem_cons]
   by_cases hx:x.1=k
   · rw [if_pos hx]
     constructor
     · rintro (h1 | h1)
       · rw [← h1]
       · exact absurd (List.mem_map.2 ⟨(k,v),h1,rfl⟩) (hx ▸ h'.1)
     · intro h1
       cases h1
       exact .inl (by rw [← hx])
   · rw [if_neg hx,← Bk1 h'.2]
     constructor
     · rintro (h1 | h1)
       · exact absurd (by rw [← h1]) hx
       · exact h1
     · exact .inr
theorem AW9 {α β:Type} {f:α→β}:∀ {l:List α},(l.map f).Nodup→l.Nodup
 | [],_=>List.nodup_nil
 | x::l,h=>by
   rw [List.map_cons,List.nodup_cons] at h;exact List.nodup_cons.2 ⟨fun hx=>h.1 (List.mem_map.2 ⟨x,hx,rfl⟩),AW9 h.2⟩
theorem Nk.nodup {l:Rc} (h:Nk l):l.Nodup:=AW9 h
theorem BF7 {l l':Rc} (h:Nk l) (h':Nk l') (he:∀ k,aFind l k=aFind l' k):l.Perm l' :=
 (List.perm_ext_iff_of_nodup h.nodup h'.nodup).2 fun ⟨k,v⟩=>by rw [Bk1 h,Bk1 h',he]
theorem Nk.perm {l l':Rc} (h:Nk l) (hp:l.Perm l'):Nk l':=(hp.map _).nodup_iff.1 h
def addX (l:Rc) (s:List Int) (m:Int):Rc:=match aFind l s with
 | none=>aSet l s m
 | some n=>if m < n then aSet l s m else l
def addF (F:List Int→Option Int) (s:List Int) (m:Int) (k:List Int):Option Int :=
 if s=k then (match F s with
  | none=>some m
  | some n=>some (if m < n then m else n)) else F k
theorem Dm3 (l:Rc) (s:List Int) (m:Int) (k:List Int):aFind (addX l s m) k=addF (aFind l) s m k:=by
 unfold addX addF
 cases h:aFind l s with
 | none=>simp only [Bk0]
 | some n =>
   by_cases hm:m < n
   · simp only [if_pos hm,Bk0]
   · simp only [if_neg hm]
     by_cases hk:s=k
     · rw [if_pos hk,← hk,h]
     · rw [if_neg hk]
theorem Nk.add {l:Rc} (h:Nk l) (s:List Int) (m:Int):Nk (addX l s m):=by
 unfold addX
 split
 · exact h.set s m
 · split
   · exact h.set s m
   · exact h
theorem CX2 (F:List Int→Option Int) (a:List Int×Int) (b:List Int×Int):addF (addF F a.1 a.2) b.1 b.2=addF (addF F b.1 b.2) a.1 a.2:=by
 obtain ⟨s,m⟩:=a;obtain ⟨t,n⟩:=b
 funext k
 unfold addF
 by_cases h1:s=t
 · subst h1
   by_cases h2:s=k
   · subst h2
     simp only [if_true]
     cases F s with
     | none=>simp only [Option.some.injEq];omega
     | some q=>simp only [Option.some.injEq];split <;> split <;> (try split) <;> first | omega | rfl
   · simp only [if_neg h2]
 · have h1':¬ t=s:=fun e=>h1 e.symm
   by_cases h2:s=k
   · subst h2
     simp [h1,h1']
   · by_cases h3:t=k
     · subst h3;simp [h1,h1']
     · simp [h2,h3]
def addAll (l:Rc) (ads:List (List Int×Int)):Rc:=ads.foldl (fun l a=>addX l a.1 a.2) l
def addAllF (F:List Int→Option Int) (ads:List (List Int×Int)):List Int→Option Int:=ads.foldl (fun F a=>addF F a.1 a.2) F
theorem AO5:∀ (ads:List (List Int×Int)) (l:Rc) (F:List Int→Option Int),(∀ k,aFind l k=F k)→∀ k,aFind (addAll l ads) k=addAllF F ads k
 | [],_,_,h,k=>h k
 | a::ads,l,F,h,k=>by
   refine AO5 ads (addX l a.1 a.2) (addF F a.1 a.2) (fun k=>?_) k
   rw [Dm3,show aFind l=F from funext h]
theorem Nk.addAll {l:Rc} (h:Nk l) (ads:List (List Int×Int)):Nk (addAll l ads):=by
 induction ads generalizing l with
 | nil=>exact h
 | cons a ads ih=>exact ih (h.add a.1 a.2)
theorem BO5 {ads bs:List (List Int×Int)} (h:ads.Perm bs) (F:List Int→Option Int):addAllF F ads=addAllF F bs :=
 h.foldl_eq' (fun x _ y _ z=>CX2 z x y) F
theorem Cb8 {ads bs:List (List Int×Int)} (h:ads.Perm bs):(addAll [] ads).Perm (addAll [] bs):=by
 have h0:Nk []:=by simp [Nk]
 refine BF7 (h0.addAll ads) (h0.addAll bs) (fun k=>?_)
 rw [AO5 ads [] (fun _=>none) (fun _=>rfl),AO5 bs [] (fun _=>none) (fun _=>rfl),BO5 h]
theorem AV6 (l:Rc) (ads bs:List (List Int×Int)):addAll l (ads++bs)=addAll (addAll l ads) bs:=by simp [addAll]
def liesX (n:Nat) (s:List Int) (slot:Int):Int:=idxP (fun y=>decide (y=slot)) (s.take n)
def crd (l:Ln):Nat:=l.card.toNat
def backE (c:Cb) (s:List Int) (l:Ln) (j:Nat):List Int×Bool:=(s.set (crd l) (j:Int),!decide ((j:Int)=c.homes.getD (crd l) 0))
def backL (c:Cb) (s:List Int) (l:Ln) (k:Nat):List (List Int×Bool):=((List.range k).filter fun (j:Nat)=>decide (liesX c.homes.length s (j:Int) = -1)).map (backE c s l)
def thenX (c:Cb) (s:List Int) (l:Ln):List (List Int×Bool) :=
 if l.kind=0 then (if s.getD (crd l) 0 = -1 then [] else [(s.set (crd l) (-1),false)])
 else if l.kind=1 then (if s.getD (crd l) 0 = -1 then backL c s l c.slots.toNat else [])
 else if liesX c.homes.length s l.slot=l.card then [(s,false)] else []
theorem CW4 (c:Cb) (s:List Int) (l:Ln) (k:Nat):backL c s l (k + 1)=backL c s l k++(if liesX c.homes.length s (k:Int) = -1 then [backE c s l k] else []):=by
 unfold backL;rw [List.range_succ,List.filter_append,List.map_append]
 congr 1
 by_cases h:liesX c.homes.length s (k:Int) = -1 <;> simp [h]
theorem BO2 (c:Cb) (s:List Int) (l:Ln) (k:Nat):(backL c s l k).length≤k:=by
 unfold backL;rw [List.length_map];exact Kt (List.length_filter_le _ _) (by simp)
abbrev Rule:=Nat→Ln→Bool→Bool
def b2i (b:Bool):Int:=if b then 1 else 0
def add1 (wrong:Int) (ok:Rule) (i:Nat) (l:Ln) (n:Int) (t:List Int×Bool):List (List Int×Int) :=
 if n + b2i t.2≤wrong∧ok i l t.2=true then [(t.1,n + b2i t.2)] else []
def addsP (c:Cb) (wrong:Int) (ok:Rule) (i:Nat) (l:Ln) (p:List Int×Int):List (List Int×Int):=(thenX c p.1 l).flatMap (add1 wrong ok i l p.2)
def adds (c:Cb) (wrong:Int) (ok:Rule) (i:Nat) (l:Ln) (now:Rc):List (List Int×Int):=now.flatMap (addsP c wrong ok i l)
def stepX (c:Cb) (wrong:Int) (ok:Rule) (i:Nat) (l:Ln) (now:Rc):Rc:=addAll [] (adds c wrong ok i l now)
def firstX (c:Cb):List Int:=c.homes++List.replicate (5 - c.homes.length) 0
def zLn:Ln:=⟨0,0,0,0⟩
def playX (c:Cb) (wrong:Int) (ok:Rule):Nat→Rc
 | 0=>[(firstX c,0)]
 | k + 1=>stepX c wrong ok k (c.loans.getD k zLn) (playX c wrong ok k)
theorem BD5 (c:Cb) (wrong:Int) (ok:Rule) (i:Nat) (l:Ln) {a b:Rc} (h:a.Perm b):(stepX c wrong ok i l a).Perm (stepX c wrong ok i l b) :=
 Cb8 (h.flatMap_right _)
structure Gd (c:Cb) (p:List Int×Int):Prop where
 len:p.1.length=5
 lo:∀ x∈p.1.take c.homes.length,-1≤x∧x≤c.slots - 1
 ge:0≤p.2
 le:p.2≤12
theorem Ch6 {l:Rc} {s:List Int} {m:Int} {p:List Int×Int} (h:p∈addX l s m):p∈l∨p=(s,m):=by
 have hset:∀ {l:Rc},p∈aSet l s m→p∈l∨p=(s,m):=by
  intro l
  induction l with
  | nil=>intro h;exact .inr (List.mem_singleton.1 h)
  | cons x l ih =>
    intro h;unfold aSet at h
    split at h
    · rcases List.mem_cons.1 h with h | h
      · exact .inr h
      · exact .inl (List.mem_cons_of_mem _ h)
    · rcases List.mem_cons.1 h with h | h
      · exact .inl (by rw [h];exact List.mem_cons_self ..)
      · exact (ih h).imp_left (List.mem_cons_of_mem _)
 unfold addX at h
 split at h
 · exact hset h
 · split at h
   · exact hset h
   · exact .inl h
theorem AU2 {p:List Int×Int}:∀ {ads:List (List Int×Int)} {l:Rc},p∈addAll l ads→p∈l∨p∈ads
 | [],_,h=>.inl h
 | a::ads,l,h=>by
   rcases AU2 (ads:=ads) (l:=addX l a.1 a.2) h with h | h
   · rcases Ch6 h with h | h
     · exact .inl h
     · exact .inr (by rw [h];exact List.mem_cons_self ..)
   · exact .inr (List.mem_cons_of_mem _ h)
theorem Dm4 (l:Rc) (s:List Int) (m:Int):(addX l s m).length≤l.length + 1:=by
 have hs:(aSet l s m).length≤l.length + 1:=by
  have:=congrArg List.length (Bj9 s m l)
  rw [List.length_map] at this;rw [this]
  split <;> simp
 unfold addX
 split
 · exact hs
 · split
   · exact hs
   · omega
theorem Br8:∀ (ads:List (List Int×Int)) (l:Rc),(addAll l ads).length≤l.length + ads.length
 | [],l=>by simp [addAll]
 | a::ads,l=>by
   have h1:=Br8 ads (addX l a.1 a.2);have h2:=Dm4 l a.1 a.2
   show (addAll (addX l a.1 a.2) ads).length≤_
   simp only [List.length_cons];omega
theorem Dc5 (c:Cb) (s:List Int) (l:Ln) (h:c.slots≤6):(thenX c s l).length≤6:=by
 unfold thenX
 split
 · split <;> simp
 · split
   · split
     · exact Kt (BO2 ..) (by omega)
     · simp
   · split <;> simp
theorem Dm6 (wrong:Int) (ok:Rule) (i:Nat) (l:Ln) (n:Int) (t:List Int×Bool):(add1 wrong ok i l n t).length≤1:=by
 unfold add1
 split <;> simp
theorem AO0 {α β:Type} (f:α→List β) (B:Nat) (h:∀ x,(f x).length≤B):∀ l:List α,(l.flatMap f).length≤l.length * B
 | []=>by simp
 | x::l=>by
   have h1:=AO0 f B h l;have h2:=h x;rw [List.flatMap_cons,List.length_append,List.length_cons,Nat.succ_mul];omega
theorem CX1 (c:Cb) (wrong:Int) (ok:Rule) (i:Nat) (l:Ln) (h:c.slots≤6) (p:List Int×Int):(addsP c wrong ok i l p).length≤6:=by
 have h1:=AO0 (add1 wrong ok i l p.2) 1 (fun t=>Dm6 wrong ok i l p.2 t) (thenX c p.1 l);have h2:=Dc5 c p.1 l h;unfold addsP;omega
theorem Ba6 (c:Cb) (wrong:Int) (ok:Rule) (h:c.slots≤6):∀ k,(playX c wrong ok k).length≤6 ^ k
 | 0=>by simp [playX]
 | k + 1=>by
   have h1:=Ba6 c wrong ok h k;have h2:=Br8 (adds c wrong ok k (c.loans.getD k zLn) (playX c wrong ok k)) [];have h3:=AO0 (addsP c wrong ok k (c.loans.getD k zLn)) 6 (CX1 c wrong ok k _ h) (playX c wrong ok k)
   show (addAll [] _).length≤_
   unfold adds at h2 ⊢;rw [List.length_nil] at h2;rw [Nat.pow_succ];omega
theorem AW7 {s:List Int} {n i:Nat} {v x:Int} (h:x∈(s.set i v).take n):x∈s.take n∨x=v:=by
 rw [List.take_set] at h;exact (List.mem_or_eq_of_mem_set h)
theorem CB7 {c:Cb} {p:List Int×Int} (h:Gd c p) (hs:1≤c.slots) (l:Ln):∀ t∈thenX c p.1 l,t.1.length=5∧∀ x∈t.1.take c.homes.length,-1≤x∧x≤c.slots - 1:=by
 intro t ht;unfold thenX at ht
 split at ht
 · split at ht
   · cases ht
   · rw [List.mem_singleton.1 ht]
     refine ⟨by simp [h.len],fun x hx=>?_⟩
     rcases AW7 hx with hx | rfl
     · exact h.lo x hx
     · omega
 · split at ht
   · split at ht
     · unfold backL at ht
       obtain ⟨j,hj,rfl⟩:=List.mem_map.1 ht;have hj2:=List.mem_range.1 (List.mem_filter.1 hj).1;refine ⟨by simp [backE,h.len],fun x hx=>?_⟩
       rcases AW7 (show x∈(p.1.set (crd l) (j:Int)).take c.homes.length from hx) with hx | rfl
       · exact h.lo x hx
       · omega
     · cases ht
   · split at ht
     · rw [List.mem_singleton.1 ht];exact ⟨h.len,h.lo⟩
     · cases ht
theorem AG6 {c:Cb} {wrong:Int} {ok:Rule} (hc:1≤c.slots) (hl:c.homes.length≤5) (hh:∀ x∈c.homes,-1≤x∧x≤c.slots - 1) (hw:wrong≤12):∀ k,∀ p∈playX c wrong ok k,Gd c p
 | 0,p,hp=>by
   rw [List.mem_singleton.1 hp];refine ⟨?_,fun x hx=>?_,Int.le_refl _,(by decide:(0:Int)≤12)⟩
   · show (c.homes++List.replicate (5 - c.homes.length) 0).length=5
     rw [List.length_append,List.length_replicate];omega
   · have:(c.homes++List.replicate (5 - c.homes.length) (0:Int)).take c.homes.length=c.homes:=by simp
     exact hh x (by rw [← this];exact hx)
 | k + 1,p,hp=>by
   rcases AU2 (show p∈addAll [] _ from hp) with hp | hp
   · cases hp
   · obtain ⟨q,hq,hp⟩:=List.mem_flatMap.1 hp
     have hg:=AG6 hc hl hh hw k q hq;obtain ⟨t,ht,hp⟩:=List.mem_flatMap.1 hp;have h1:=CB7 hg hc _ t ht;unfold add1 at hp
     split at hp
     · rename_i h2
       rw [List.mem_singleton.1 hp];refine ⟨h1.1,h1.2,?_,?_⟩
       · show 0≤q.2 + b2i t.2
         have:=hg.ge
         unfold b2i;split <;> omega
       · exact Int.le_trans h2.1 hw
     · cases hp
end Go.Le
namespace Go.Q
open Go Go.Eng Go.Bk
theorem BJ6 (l:List (Ln)) (q:OA) (b o c:Nat) (gf:FuncId) (cap:Array Value) (p:Ln→Bool) (W:World) (hS:Sl W q b o 4 (l.map Ln.cells)) (hl:l.length≤1000000000) (he:Enters π gf) (hf:∀ i (h:i < l.length) w,Mem W [] [] w→CC gf ([(.agg (l[i]).cells.toArray:Value)]++cap.toList).toArray w (Pure (.bool (p l[i])) w)) :
  CC 238 #[.slice q l.length c,.func (.func gf) #[] cap] W (Pure (.I (idxP p l)) W):=by
 refine cS func238 ?_;refine su ?_;refine Ac8 (l.length) (fun k q=>(8,.I (k:Int))::q) (fun _=>_) (fun _=>[]) (fun k=>∀ j (h:j < l.length),j < k→p l[j]=false) (fun j _ h=>absurd h (by omega)) rfl (zE 8 rfl rfl (zS 0 rfl (zS 1 rfl (zS 7 rfl (Sub.nil _))))) .nil ?_;intro k kN kI;refine st ?_;refine cn rfl ?_ ?_
 ·intro c0'
  have hk:k < l.length:=by omega
  obtain ⟨x,hx⟩:∃ x,l[k]=x:=⟨_,rfl⟩;refine st ?_;refine lv (Aa3 rfl rfl Bd6 (by omega) (by omega) (hS.ptrM hk)) ?_;refine lv (Aa5 rfl (fun w hm=>hS.loadX (by decide) hm (by simp) Bu3 hk hx)) ?_;refine Xe (Ab4 rfl rfl he) (fun w hm=>hx ▸ hf k hk w hm) ?_;refine st ?_;refine cn rfl ?_ ?_
  ·intro c1'
   refine su ?_;exact Aa9 rZ (by rw [AU5 hk (by rw [hx];exact c1') kI])
  intro c1';refine st ?_;refine lA ?_;exact Ac2 (by omega) (fun j h h1=>by (rcases Lc j k with h4 | h4;exact kI j h h4;have e:j=k:=(by omega);subst e;rw [hx];exact c1')) rfl (zE 8 rfl rfl (zS 0 rfl (zS 1 rfl (zS 7 rfl (Sub.nil _))))) .nil
 intro c0';obtain rfl:k=l.length:=by omega
 refine Ls ?_;refine su ?_;refine Aa4 ?_;refine su ?_;exact Aa9 rZ (by rw [Bg8 (fun j hj=>kI j hj hj)])
theorem BM7 (l:List (Ln)) (q:OA) (b o c:Nat) (gf:FuncId) (cap:Array Value) (p:Ln→Bool) (W:World) (hS:Sl W q b o 4 (l.map Ln.cells)) (hl:l.length≤1000000000) (he:Enters π gf) (hf:∀ i (h:i < l.length) w,Mem W [] [] w→CC gf ([(.agg (l[i]).cells.toArray:Value)]++cap.toList).toArray w (Pure (.bool (p l[i])) w)) :
  CC 173 #[.slice q l.length c,.func (.func gf) #[] cap] W (Pure (.bool (l.any p)) W):=by
 refine cS func173 ?_;refine st ?_;refine zc (zF rfl DB6) (fun w hm=>BJ6 l q b o c gf cap p w (Sl.mono hS (by decide) hm (by simp)) hl he (fun i h w2 h2=>hf i h w2 (hm.pass h2))) ?_;exact Aa9 rZ (by rw [← Dx2])
theorem BJ4 (l:List Int) (q:OA) (b o c:Nat) (x:Int) (W:World) (hS:Sl W q b o 1 (l.map intC)) (hl:l.length≤1000000000):CC 172 #[.slice q l.length c,.I x] W (Pure (.I (idxX l x)) W):=by
 rw [CL1];refine cS func172 ?_;refine su ?_;refine Ac8 (l.length) (fun k q=>(8,.int .i64 (k:Int))::q) (fun _=>_) (fun _=>[]) (fun k=>∀ j (h:j < l.length),j < k→decide (x=l[j])=false) (fun j _ h=>absurd h (by omega)) rfl (zE 8 rfl rfl (zS 0 rfl (zS 1 rfl (zS 7 rfl (Sub.nil _))))) .nil ?_;intro k kN kI;refine st ?_;refine cn rfl ?_ ?_
 ·intro c0'
  have hk:k < l.length:=by omega
  obtain ⟨y,hy⟩:∃ y,l[k]=y:=⟨_,rfl⟩;refine st ?_;refine lv (Aa3 rfl rfl Af6 (by omega) (by omega) (hS.ptrM hk)) ?_;refine lv (Aa5 rfl (fun w hm=>hS.loadM1 (by decide) hm (by simp) Ae0 hk (v:=.I y) (by simp [intC,hy]))) ?_;refine cn rfl ?_ ?_
  ·intro c1'
   refine su ?_;exact Aa9 rZ (by unfold idxI;rw [AU5 hk (by rw [hy];exact decide_eq_true (by omega)) kI])
  intro c1';refine st ?_;refine lA ?_;exact Ac2 (by omega) (fun j h h1=>by (rcases Lc j k with h4 | h4;exact kI j h h4;have e:j=k:=(by omega);subst e;rw [hy];exact decide_eq_false (by omega))) rfl (zE 8 rfl rfl (zS 0 rfl (zS 1 rfl (zS 7 rfl (Sub.nil _))))) .nil
 intro c0';obtain rfl:k=l.length:=by omega
 refine Ls ?_;refine su ?_;refine Aa4 ?_;refine su ?_;exact Aa9 rZ (by unfold idxI;rw [Bg8 (fun j hj=>kI j hj hj)])
end Go.Q
namespace Go.Le
open Go Go.Eng Go.Bk Go.RowKit
def loanV (c:Cb) (l:Ln):Bool :=
 if l.kind=0∨l.kind=1 then within l.card 0 ((c.homes.length:Int) - 1) && within l.person 0 7
 else if l.kind=2 then within l.slot 0 (c.slots - 1) && (decide (l.card = -1) || within l.card 0 ((c.homes.length:Int) - 1))
 else false
def cabV (c:Cb):Bool:=within c.slots 1 6 && decide (c.homes.length≤5) && within c.wrong 0 12 && decide (c.loans.length≤12) && homesX c c.homes.length && !c.loans.any fun l=>!loanV c l
theorem Bx7 {s:List Int} (h:s.length=5):∃ a b c d e,s=[a,b,c,d,e]:=by
 match s,h with
 | [a,b,c,d,e],_=>exact ⟨a,b,c,d,e,rfl⟩
section
variable {P:Program}
theorem arr_load {w:World} {b:Nat} {T T0:TypeId} {fr:Nat×Nat} {l:List Int} {cs:LV} (h:w.heap[b]? = some (.cells cs.toArray T0 fr)) (hc:cs=l.map (Value.int .i64)) (hT:tyB P T=some (false,1)) {i:Int} (h0:0≤i) (hi:i < (l.length:Int)) {x:Int} (hx:l.getD i.toNat 0=x) :
  (loadVar T ⟨b,0 + i.toNat * 1,none⟩).run P w = .ok (.I x) w:=by
 subst hc;have hi':i.toNat < l.length:=by omega
 refine Ag5 hT ?_;rw [Ae1 h];rw [List.getD_eq_getElem?_getD,List.getElem?_eq_getElem hi'] at hx;simp at hx
 simp [hi',hx]
theorem BF8 {l l':List Int} {cs cs':LV} {i:Nat} {v:Int} (hc:cs=l.map (Value.int .i64)) (hc':cs'=l'.map (Value.int .i64)) (hi:i < l.length) (h:l.set i v=l'):paste cs (0 + i * 1) (cellsL (.I v))=some cs':=by
 subst hc;subst hc';subst h
 have:paste (l.map (Value.int .i64)) i (cellsL (.I v))=some ((l.map (Value.int .i64)).set i (.I v)):=Aw7 rfl (by simpa using hi)
 rw [Nat.zero_add,Nat.mul_one,this,List.map_set]
end
end Go.Le
namespace Go.Q
open Go Go.Eng Go.Bk Go.Le Go.RowKit
def lmis (k:Int):Value:=.iface 212 (.agg #[.I k])
theorem AH1 (b:Bool) (e:Int) (W:World):CC 119 #[.bool b,.I e] W (Try lmis (needX b e) W):=by
 refine cS func119 ?_;refine st ?_;refine cn rfl ?_ ?_
 ·intro c0'
  refine st ?_;refine lv (Lr (parts:=[(0,.tmp 6)]) rfl Ce0 Cr0 rfl) ?_;refine lv (Lz rfl Ch3) ?_;refine AA7 rfl ?_;exact Ae2 (k:=e) (by simp [needX,show b=false by simpa using c0'])
 intro c0';refine st ?_;exact At4 (.r0 rfl) (by simp [needX,show b=true by simpa using c0'])
theorem Ah0 (n lo hi:Int) (W:World):CC 123 #[.I n,.I lo,.I hi] W (Pure (.bool (within n lo hi)) W):=by
 refine cS func123 ?_;refine st ?_
 refine Ab0 (dj:=10) (dp:=14) 4 rfl (fun g10=>by
  refine sv ?_;exact zs g10
 ) (fun g10=>by
   iterate 3 refine nQ ?_
   refine sv ?_;exact zs g10
 ) ?_
 refine su ?_;exact rP
abbrev cabO (c:CbA):Obj:=.cells c.cells.toArray 130 (0,0)
theorem AE1 (c:CbA) (bc:Nat) (n:Int) (W:World) (hb:W.heap[bc]? = some (cabO c)) (hl:c.homes.l.length≤10000):CC 60 #[.pointer (some ⟨bc,0,none⟩),.I n] W (Pure (.bool (within n 0 ((c.homes.l.length:Int) - 1))) W):=by
 refine cS func60 ?_;refine su ?_;refine lu (Aa0 rfl hb (by simp) Bu4 rfl) ?_;refine lv (Ad8 rfl rfl (Lq _ ⟨by omega,by omega⟩)) ?_;refine zc (zF rfl AE7) (fun w hm=>Ah0 _ _ _ w) ?_;exact rP
theorem AH5 (c:CbA) (bc:Nat) (n:Int) (W:World) (hb:W.heap[bc]? = some (cabO c)) (hs:within c.slots 1 6=true):CC 63 #[.pointer (some ⟨bc,0,none⟩),.I n] W (Pure (.bool (within n 0 (c.slots - 1))) W):=by
 simp only [within,Bool.and_eq_true,decide_eq_true_eq] at hs;refine cS func63 ?_;refine su ?_;refine lv (Aa0 rfl hb (by simp) Ae0 rfl) ?_;refine lv (Ad8 rfl rfl (Lq _ ⟨by omega,by omega⟩)) ?_;refine zc (zF rfl AE7) (fun w hm=>Ah0 _ _ _ w) ?_;exact rP
theorem AX4 (c:CbA) (bc:Nat) (l:Ln) (W:World) (hb:W.heap[bc]? = some (cabO c)) (hl:c.homes.l.length≤10000):CC 175 #[.pointer (some ⟨bc,0,none⟩),.agg l.cells.toArray] W (Pure (.bool (within l.card 0 ((c.homes.l.length:Int) - 1) && within l.person 0 7)) W):=by
 refine cS func175 ?_;refine st ?_;refine zn (Lm rfl) (fun b3=>?_)
 refine zc (zF rfl CP9) (fun w hm=>AE1 c bc _ w (hm.old_at hb (by simp)) hl) ?_
 refine Ab0 (dj:=9) (dp:=13) 4 rfl (fun g9=>by
  refine su ?_;refine Xe (zF rfl AE7) (fun w hm=>Ah0 _ _ _ w) ?_;refine sv ?_;exact zs g9
 ) (fun g9=>by
   iterate 3 refine nQ ?_
   refine sv ?_;exact zs g9
 ) ?_
 refine su ?_;exact rP
theorem BJ1 (c:CbA) (bc:Nat) (l:Ln) (W:World) (hb:W.heap[bc]? = some (cabO c)) (hl:c.homes.l.length≤10000) (hs:within c.slots 1 6=true):CC 178 #[.pointer (some ⟨bc,0,none⟩),.agg l.cells.toArray] W (Pure (.bool (within l.slot 0 (c.slots - 1) && (decide (l.card = -1) || within l.card 0 ((c.homes.l.length:Int) - 1)))) W):=by
 refine cS func178 ?_;refine st ?_;refine zn (Lm rfl) (fun b3=>?_)
 refine zc (zF rfl CP8) (fun w hm=>AH5 c bc _ w (hm.old_at hb (by simp)) hs) ?_
 refine Ab0 (dj:=9) (dp:=19) 10 rfl (fun g9=>by
  refine su ?_
  refine Ac5 (dj:=13) (dp:=18) 5 rfl (fun g13=>by
   refine su ?_;refine Xe (zF rfl CP9) (fun w hm=>AE1 c bc _ w (hm.old_at hb (by simp)) hl) ?_;refine sv ?_;exact zs g13
  ) (fun g13=>by
    iterate 4 refine nQ ?_
    refine sv ?_;exact zs g13
  ) ?_
  refine sv ?_;exact zs g9
 ) (fun g9=>by
   iterate 9 refine nQ ?_
   refine sv ?_;exact zs g9
 ) ?_
 refine su ?_;exact rP
abbrev kindsO:Obj:=.cells [.func (.func 175) #[] #[],.func (.func 176) #[] #[],.func (.func 175) #[] #[],.func (.func 177) #[] #[],.func (.func 178) #[] #[],.func (.func 179) #[] #[]].toArray 223 (0,0)
theorem AQ2 (W:World):CC 121 #[] W (News (fun b=>.slice (some ⟨b,0,none⟩) 3 3) (fun b=>[(b,kindsO)]) W):=by
 refine cS func121 ?_;refine st ?_;refine lv (Lr (parts:=[(0,.func 175),(1,.func 176)]) rfl AZ9 AT7 rfl) ?_;refine lv (Lr (parts:=[(0,.func 175),(1,.func 177)]) rfl AZ9 AT7 rfl) ?_;refine lv (Lr (parts:=[(0,.func 178),(1,.func 179)]) rfl AZ9 AT7 rfl) ?_;refine zn (Lu (parts:=[(0,.tmp 1),(1,.tmp 2),(2,.tmp 3)]) rfl AM0 AZ9 rfl rfl rfl rfl) (fun b4=>?_)
 exact Ld (chg:=[]) rZ (fun _ hm=>⟨b4,rfl,hm⟩)
theorem AU4 (c:CbA) (bc:Nat) (s:List Int) (slot:Int) (W:World) (hb:W.heap[bc]? = some (cabO c)) (hl:c.homes.l.length≤5) (hs:s.length=5):CC 64 #[.pointer (some ⟨bc,0,none⟩),.agg (s.map (Value.int .i64)).toArray,.I slot] W (Pure (.I (liesX c.homes.l.length s slot)) W):=by
 obtain ⟨x0,x1,x2,x3,x4,rfl⟩:=Bx7 hs;obtain ⟨s,hse⟩:∃ s,s=[x0,x1,x2,x3,x4]:=⟨_,rfl⟩;rw [← hse] at hs ⊢;have hs':[Value.int .i64 x0,.int .i64 x1,.int .i64 x2,.int .i64 x3,.int .i64 x4]=s.map (Value.int .i64):=by rw [hse];rfl
 rw [← hs'];have hsl:(s.take c.homes.l.length).length=c.homes.l.length:=by rw [List.length_take];omega
 have hgt:∀ j,j < c.homes.l.length→∀ h,(s.take c.homes.l.length)[j]'h=s.getD j 0:=fun j hj h=>by rw [List.getElem_take,List.getD_eq_getElem?_getD,List.getElem?_eq_getElem (by omega)];rfl
 refine cS func64 ?_;refine st ?_;refine zn (Lm rfl) (fun b4=>?_)
 refine lu (Aa0 rfl hb (by simp) Bu4 rfl) ?_;refine Ac8 (c.homes.l.length) (fun k q=>(14,.I (k:Int))::q) (fun _=>_) (fun _=>[]) (fun k=>∀ j,j < k→s.getD j 0 ≠ slot) (fun j h=>absurd h (by omega)) rfl (zE 14 rfl rfl (zS 0 rfl (zS 2 rfl (zS 4 rfl (zS 13 rfl (Sub.nil _)))))) (qC .nil) ?_;intro k kN kI;refine st ?_;refine cn rfl ?_ ?_
 ·intro c0'
  have hk:k < c.homes.l.length:=by omega
  refine st ?_;refine lv (Aa7 rfl rfl AB3 (by omega) (by omega)) ?_;refine lv (Aa5 rfl (fun w hm=>arr_load (l:=s) (hm.at mm0) hs' Ae0 (i:=(k:Int)) (by omega) (by omega) rfl)) ?_;refine cn rfl ?_ ?_
  ·intro c1'
   refine su ?_;exact Aa9 rZ (by unfold liesX;rw [AU5 (k:=k) (by omega) (by rw [hgt k hk];exact decide_eq_true c1') (fun j hj h=>by rw [hgt j (by omega)];exact decide_eq_false (kI j h))])
  intro c1';refine st ?_;refine lA ?_;exact Ac2 (by omega) (fun j h1=>by (rcases Lc j k with h4 | h4;exact kI j h4;have e:j=k:=(by omega);subst e;exact c1')) rfl (zE 14 rfl rfl (zS 0 rfl (zS 2 rfl (zS 4 rfl (zS 13 rfl (Sub.nil _)))))) (qC .nil)
 intro c0';obtain rfl:k=c.homes.l.length:=by omega
 refine Ls ?_;refine su ?_;refine Aa4 ?_;refine su ?_;exact Aa9 rZ (by unfold liesX;rw [Bg8 (fun j hj=>by rw [hgt j (by omega)];exact decide_eq_false (kI j (by omega)))])
end Go.Q
namespace Go.Le
open Go Go.Eng Go.Bk Go.RowKit
theorem AK4 {c:Cb} {l:Ln} (h:l.kind=0∨l.kind=1):loanV c l=(within l.card 0 ((c.homes.length:Int) - 1) && within l.person 0 7):=by unfold loanV;rw [if_pos h]
theorem Cs8 {c:Cb} {l:Ln} (h:l.kind=2):loanV c l=(within l.slot 0 (c.slots - 1) && (decide (l.card = -1) || within l.card 0 ((c.homes.length:Int) - 1))):=by unfold loanV;rw [if_neg (by omega),if_pos h]
theorem Ch8 {c:Cb} {l:Ln} (h:within l.kind 0 2=false):loanV c l=false:=by
 simp only [within,Bool.and_eq_false_iff,decide_eq_false_iff_not] at h;unfold loanV;rw [if_neg (by omega),if_neg (by omega)]
theorem Dw7 {k:Int} (h:within k 0 2=true):k=0∨k=1∨k=2:=by
 simp only [within,Bool.and_eq_true,decide_eq_true_eq] at h;omega
structure CV (c:Cb):Prop where
 slots:1≤c.slots∧c.slots≤6
 few:c.homes.length≤5
 wrong:0≤c.wrong∧c.wrong≤12
 lfew:c.loans.length≤12
 homes:homesX c c.homes.length=true
 loans:∀ l∈c.loans,loanV c l=true
theorem Ca7 {c:Cb} (h:cabV c=true):CV c:=by
 unfold cabV at h;simp only [within,Bool.and_eq_true,decide_eq_true_eq,Bool.not_eq_true',List.any_eq_false,Bool.not_eq_false] at h;obtain ⟨⟨⟨⟨⟨h1,h2⟩,h3⟩,h4⟩,h5⟩,h6⟩:=h;exact ⟨h1,h2,h3,h4,h5,fun l hl=>by simpa using h6 l hl⟩
theorem CV.hom {c:Cb} (h:CV c):∀ x∈c.homes,-1≤x∧x≤c.slots - 1:=fun x hx=>by
 obtain ⟨i,hi,rfl⟩:=List.getElem_of_mem hx;have h1:=h.homes;unfold homesX at h1;rw [List.all_eq_true] at h1;have h2:=h1 i (List.mem_range.2 hi);simp only [within,Bool.and_eq_true,decide_eq_true_eq] at h2;rw [List.getD_eq_getElem?_getD,List.getElem?_eq_getElem hi] at h2;simp at h2
 omega
theorem DG9 {c:Cb} (h:((within c.slots 1 6=false∨5 < (c.homes.length:Int))∨within c.wrong 0 12=false)∨12 < (c.loans.length:Int)):cabV c=false:=by
 rw [Bool.eq_false_iff];intro h9;have h8:=Ca7 h9;have h1:=h8.slots;have h2:=h8.few;have h3:=h8.wrong;have h4:=h8.lfew;simp only [within,Bool.and_eq_false_iff,decide_eq_false_iff_not] at h;omega
theorem DG8 {c:Cb} {k:Nat} (hk:k < c.homes.length) (h:homesX c (k + 1)=false):cabV c=false:=by
 rw [Bool.eq_false_iff];intro h9;have h8:=(Ca7 h9).homes;unfold homesX at h h8;rw [List.all_eq_true] at h8;rw [List.all_eq_false] at h;obtain ⟨x,hx,h⟩:=h;exact h (h8 x (List.mem_range.2 (by have:=List.mem_range.1 hx;omega)))
theorem DG7 {c:Cb} (h:((within c.slots 1 6=true∧(c.homes.length:Int)≤5)∧within c.wrong 0 12=true)∧(c.loans.length:Int)≤12) (hh:homesX c c.homes.length=true):cabV c = !c.loans.any fun l=>!loanV c l:=by
 unfold cabV;obtain ⟨⟨⟨h1,h2⟩,h3⟩,h4⟩:=h;rw [h1,h3,hh,decide_eq_true (show c.homes.length≤5 by omega),decide_eq_true (show c.loans.length≤12 by omega)];simp
def openC (c:Cb):Except Int Unit:=if cabV c=true then .ok () else .error 1
theorem Df1 {c:Cb} {u:Unit} (h:openC c = .ok u):cabV c=true:=by
 unfold openC at h
 split at h
 · assumption
 · cases h
theorem CH3 {c:Cb} {k:Int} (h:openC c = .error k):cabV c=false∧k=1:=by
 unfold openC at h
 split at h
 · cases h
 · rename_i h2
   cases h
   exact ⟨by simpa using h2,rfl⟩
end Go.Le
namespace Go.Q
open Go Go.Eng Go.Bk Go.Le Go.RowKit
theorem BA5 (c:CbA) (bc b1 b2 bk:Nat) (l:Ln) (W:World) (hb:W.heap[bc]? = some (cabO c)) (hl:c.homes.l.length≤10000) (hs:within c.slots 1 6=true)
  (h1:W.heap[b1]? = some (.cells [.slice (some ⟨bk,0,none⟩) 3 3].toArray 216)) (h2:W.heap[b2]? = some (.cells [.pointer (some ⟨bc,0,none⟩)].toArray 123)) (hk:W.heap[bk]? = some kindsO) :
  CC 174 #[.agg l.cells.toArray,.pointer (some ⟨b1,0,none⟩),.pointer (some ⟨b2,0,none⟩)] W (Pure (.bool (!loanV c.pl l)) W):=by
 cases hw:within l.kind 0 2 with
 | false =>
   rw [Ch8 hw];refine cS func174 ?_;refine csr ?_;refine Xg (Lm rfl) (fun b3=>?_)
   refine vQ ?_;refine nnx ?_;refine Lx ?_;refine Ab9 16 Ah8 (qC .nil) ?_;refine zv 0 rfl (Lo rfl Av2) ?_;refine zv 1 rfl (Aa6 rfl mm0 Ae0 rfl) ?_;refine zv 2 rfl (Aa0 rfl h1 (by simp) AW6 rfl) ?_;refine zv 3 rfl (Ae3 rfl AM0) ?_;refine zv 4 rfl (Ad8 rfl rfl (Lq _ ⟨by omega,by omega⟩)) ?_;refine RunA.one (i:=5) (by kernel_rfl) (by kernel_rfl) ?_;refine Xd rfl (Ab8 rfl AE7) (fun w hm=>Ah0 _ _ _ w) (Aa2 (qC .nil) (qC .nil) rfl ?_)
   refine zv 6 rfl (Aa8 rfl) ?_;refine zv 7 rfl (Aa8 rfl) ?_;refine At5 (dj:=12) true rfl (by simp [hw]) ?_;refine Xw (i:=8) rfl (fun _ _ _ h=>h) (qC .nil) ?_;refine Xw (i:=9) rfl (fun _ _ _ h=>h) (qC .nil) ?_;refine Xw (i:=10) rfl (fun _ _ _ h=>h) (qC .nil) ?_;refine Xw (i:=11) rfl (fun _ _ _ h=>h) (qC .nil) ?_;refine Xw (i:=12) rfl (fun _ _ _ h=>h) (qC .nil) ?_;refine Xw (i:=13) rfl (fun _ _ _ h=>h) (qC .nil) ?_;refine Xw (i:=14) rfl (fun _ _ _ h=>h) (qC .nil) ?_;refine Xw (i:=15) rfl (fun _ _ _ h=>h) (qC .nil) ?_;refine AA8 (by kernel_rfl) ?_;refine Ja (i:=16) (by kernel_rfl) ?_;refine Xx rfl (Ab2 ?_)
   refine Ja (i:=17) (by kernel_rfl) ?_;refine Xx rfl (Ab2 ?_)
   refine Ja (i:=18) (by kernel_rfl) ?_;refine Xc rfl (Aa8 rfl) (Ab2 ?_)
   refine Ja (i:=19) (by kernel_rfl) ?_;refine Xc rfl (Aa8 rfl) (Ab2 ?_)
   refine RunB.done (by kernel_rfl) ?_;refine Ke ?_;refine Ks ?_;exact rP
 | true =>
   obtain ⟨kind,card,person,slot⟩:=l
   rcases Dw7 hw with hk0 | hk0 | hk0 <;> (dsimp only at hk0;subst hk0)
   · rw [AK4 (.inl rfl)]
     refine cS func174 ?_;refine csr ?_;refine Xg (Lm rfl) (fun b3=>?_)
     refine vQ ?_;refine nnx ?_;refine Lx ?_;refine Ab9 16 Ah8 (qC .nil) ?_;refine zv 0 rfl (Lo rfl Av2) ?_;refine zv 1 rfl (Aa6 rfl mm0 Ae0 rfl) ?_;refine zv 2 rfl (Aa0 rfl h1 (by simp) AW6 rfl) ?_;refine zv 3 rfl (Ae3 rfl AM0) ?_;refine zv 4 rfl (Ad8 rfl rfl (Lq _ ⟨by omega,by omega⟩)) ?_;refine RunA.one (i:=5) (by kernel_rfl) (by kernel_rfl) ?_;refine Xd rfl (Ab8 rfl AE7) (fun w hm=>Ah0 _ _ _ w) (Aa2 (qC .nil) (qC .nil) rfl ?_)
     refine zv 6 rfl (Aa8 rfl) ?_;refine zv 7 rfl (Aa8 rfl) ?_;refine At5 (dj:=12) false rfl rfl ?_;refine zv 8 rfl (Aa0 rfl h1 (by simp) AW6 rfl) ?_;refine zv 9 rfl (Lo rfl Av2) ?_;refine zv 10 rfl (Aa6 rfl mm0 Ae0 rfl) ?_;refine zv 11 rfl (Ab1 rfl rfl AM0 (of_decide_eq_true rfl) (of_decide_eq_true rfl)) ?_;refine zv 12 rfl (Lo rfl AR5) ?_;refine zv 13 rfl (Aa0 rfl hk (by simp) Cf2 rfl) ?_;refine zv 14 rfl (Aa0 rfl h2 (by simp) Bm8 rfl) ?_;refine zv 15 rfl (Ab5 rfl mm0 Bu3 rfl) ?_;refine AA8 (by kernel_rfl) ?_;refine Ja (i:=16) (by kernel_rfl) ?_;refine Xd rfl (Ab4 rfl rfl CS1) (fun w hm=>AX4 c bc _ w (hm.old_at hb (by simp)) hl) (Ab2 ?_)
     refine Ja (i:=17) (by kernel_rfl) ?_;refine Xc rfl (Aa8 rfl) (Ab2 ?_)
     refine Ja (i:=18) (by kernel_rfl) ?_;refine Xc rfl (Aa8 rfl) (Ab2 ?_)
     refine Ja (i:=19) (by kernel_rfl) ?_;refine Xc rfl (Aa8 rfl) (Ab2 ?_)
     refine RunB.done (by kernel_rfl) ?_;refine Ke ?_;refine Ks ?_;exact rP
   · rw [AK4 (.inr rfl)]
     refine cS func174 ?_;refine csr ?_;refine Xg (Lm rfl) (fun b3=>?_)
     refine vQ ?_;refine nnx ?_;refine Lx ?_;refine Ab9 16 Ah8 (qC .nil) ?_;refine zv 0 rfl (Lo rfl Av2) ?_;refine zv 1 rfl (Aa6 rfl mm0 Ae0 rfl) ?_;refine zv 2 rfl (Aa0 rfl h1 (by simp) AW6 rfl) ?_;refine zv 3 rfl (Ae3 rfl AM0) ?_;refine zv 4 rfl (Ad8 rfl rfl (Lq _ ⟨by omega,by omega⟩)) ?_;refine RunA.one (i:=5) (by kernel_rfl) (by kernel_rfl) ?_;refine Xd rfl (Ab8 rfl AE7) (fun w hm=>Ah0 _ _ _ w) (Aa2 (qC .nil) (qC .nil) rfl ?_)
     refine zv 6 rfl (Aa8 rfl) ?_;refine zv 7 rfl (Aa8 rfl) ?_;refine At5 (dj:=12) false rfl rfl ?_;refine zv 8 rfl (Aa0 rfl h1 (by simp) AW6 rfl) ?_;refine zv 9 rfl (Lo rfl Av2) ?_;refine zv 10 rfl (Aa6 rfl mm0 Ae0 rfl) ?_;refine zv 11 rfl (Ab1 rfl rfl AM0 (of_decide_eq_true rfl) (of_decide_eq_true rfl)) ?_;refine zv 12 rfl (Lo rfl AR5) ?_;refine zv 13 rfl (Aa0 rfl hk (by simp) Cf2 rfl) ?_;refine zv 14 rfl (Aa0 rfl h2 (by simp) Bm8 rfl) ?_;refine zv 15 rfl (Ab5 rfl mm0 Bu3 rfl) ?_;refine AA8 (by kernel_rfl) ?_;refine Ja (i:=16) (by kernel_rfl) ?_;refine Xd rfl (Ab4 rfl rfl CS1) (fun w hm=>AX4 c bc _ w (hm.old_at hb (by simp)) hl) (Ab2 ?_)
     refine Ja (i:=17) (by kernel_rfl) ?_;refine Xc rfl (Aa8 rfl) (Ab2 ?_)
     refine Ja (i:=18) (by kernel_rfl) ?_;refine Xc rfl (Aa8 rfl) (Ab2 ?_)
     refine Ja (i:=19) (by kernel_rfl) ?_;refine Xc rfl (Aa8 rfl) (Ab2 ?_)
     refine RunB.done (by kernel_rfl) ?_;refine Ke ?_;refine Ks ?_;exact rP
   · rw [Cs8 rfl]
     refine cS func174 ?_;refine csr ?_;refine Xg (Lm rfl) (fun b3=>?_)
     refine vQ ?_;refine nnx ?_;refine Lx ?_;refine Ab9 16 Ah8 (qC .nil) ?_;refine zv 0 rfl (Lo rfl Av2) ?_;refine zv 1 rfl (Aa6 rfl mm0 Ae0 rfl) ?_;refine zv 2 rfl (Aa0 rfl h1 (by simp) AW6 rfl) ?_;refine zv 3 rfl (Ae3 rfl AM0) ?_;refine zv 4 rfl (Ad8 rfl rfl (Lq _ ⟨by omega,by omega⟩)) ?_;refine RunA.one (i:=5) (by kernel_rfl) (by kernel_rfl) ?_;refine Xd rfl (Ab8 rfl AE7) (fun w hm=>Ah0 _ _ _ w) (Aa2 (qC .nil) (qC .nil) rfl ?_)
     refine zv 6 rfl (Aa8 rfl) ?_;refine zv 7 rfl (Aa8 rfl) ?_;refine At5 (dj:=12) false rfl rfl ?_;refine zv 8 rfl (Aa0 rfl h1 (by simp) AW6 rfl) ?_;refine zv 9 rfl (Lo rfl Av2) ?_;refine zv 10 rfl (Aa6 rfl mm0 Ae0 rfl) ?_;refine zv 11 rfl (Ab1 rfl rfl AM0 (of_decide_eq_true rfl) (of_decide_eq_true rfl)) ?_;refine zv 12 rfl (Lo rfl AR5) ?_;refine zv 13 rfl (Aa0 rfl hk (by simp) Cf2 rfl) ?_;refine zv 14 rfl (Aa0 rfl h2 (by simp) Bm8 rfl) ?_;refine zv 15 rfl (Ab5 rfl mm0 Bu3 rfl) ?_;refine AA8 (by kernel_rfl) ?_;refine Ja (i:=16) (by kernel_rfl) ?_;refine Xd rfl (Ab4 rfl rfl DE2) (fun w hm=>BJ1 c bc _ w (hm.old_at hb (by simp)) hl hs) (Ab2 ?_)
     refine Ja (i:=17) (by kernel_rfl) ?_;refine Xc rfl (Aa8 rfl) (Ab2 ?_)
     refine Ja (i:=18) (by kernel_rfl) ?_;refine Xc rfl (Aa8 rfl) (Ab2 ?_)
     refine Ja (i:=19) (by kernel_rfl) ?_;refine Xc rfl (Aa8 rfl) (Ab2 ?_)
     refine RunB.done (by kernel_rfl) ?_;refine Ke ?_;refine Ks ?_;exact rP
theorem Bg4 (c:CbA) (bc:Nat) (W:World) (hb:W.heap[bc]? = some (cabO c)) (hC:CbOk W c) (hs:CbS c):CC 120 #[.pointer (some ⟨bc,0,none⟩)] W (Pure (.bool (cabV c.pl)) W):=by
 have h1:=hs.homes;have h2:=hs.loans;have e0:c.pl.slots=c.slots:=rfl;have e1:c.pl.homes=c.homes.l:=rfl;have e2:c.pl.wrong=c.wrong:=rfl;have e3:c.pl.loans=c.loans.l:=rfl;refine cS func120 ?_;refine st ?_;refine zn (Lm rfl) (fun b1=>?_)
 refine lv (Aa0 rfl hb (by simp) Ae0 rfl) ?_;refine zc (zF rfl AE7) (fun w hm=>Ah0 _ _ _ w) ?_
 refine Ac5 (dj:=13) (dp:=21) 8 rfl (fun g13=>by
  refine su ?_;refine lv (Aa0 rfl hb (by simp) Bu4 rfl) ?_;refine Xa (Ae3 rfl Af6) ?_;refine sv ?_;exact zs g13
 ) (fun g13=>by
   iterate 7 refine nQ ?_
   refine sv ?_;exact zs g13
 ) ?_
 refine st ?_
 refine Ac5 (dj:=22) (dp:=30) 8 rfl (fun g22=>by
  refine su ?_;refine lv (Aa0 rfl hb (by simp) Ae0 rfl) ?_;refine Xe (zF rfl AE7) (fun w hm=>Ah0 _ _ _ w) ?_;refine sv ?_;exact zs g22
 ) (fun g22=>by
   iterate 7 refine nQ ?_
   refine sv ?_;exact zs g22
 ) ?_
 refine st ?_
 refine Ac5 (dj:=31) (dp:=39) 8 rfl (fun g31=>by
  refine su ?_;refine lv (Aa0 rfl hb (by simp) BS5 rfl) ?_;refine Xa (Ae3 rfl Bd6) ?_;refine sv ?_;exact zs g31
 ) (fun g31=>by
   iterate 7 refine nQ ?_
   refine sv ?_;exact zs g31
 ) ?_
 refine st ?_;refine cn rfl ?_ ?_
 ·intro c0'
  refine su ?_;exact Aa9 rZ (by rw [DG9 (c:=c.pl) c0'])
 intro c0';have hw:within c.slots 1 6=true:=c0'.1.1.1;refine su ?_;refine lu (Aa0 rfl hb (by simp) Bu4 rfl) ?_;refine Ac8 (c.homes.l.length) (fun k q=>(46,.I (k:Int))::q) (fun _=>_) (fun _=>[]) (fun k=>homesX c.pl k=true) rfl rfl (zE 46 rfl rfl (zS 1 rfl (zS 44 rfl (zS 45 rfl (Sub.nil _))))) (qC .nil) ?_;intro k kN kI;refine st ?_;refine cn rfl ?_ ?_
 ·intro c1'
  have hk:k < c.homes.l.length:=by omega
  obtain ⟨y,hy⟩:∃ y,c.homes.l[k]=y:=⟨_,rfl⟩;have hy2:c.pl.homes.getD k 0=y:=by (show c.homes.l.getD k 0=y;rw [List.getD_eq_getElem?_getD,List.getElem?_eq_getElem hk,hy];rfl)
  refine st ?_;refine lv (Aa3 rfl rfl Af6 (by omega) (by omega) (Sl.ptrM hC.homes hk)) ?_;refine lu (Aa5 rfl (fun w hm=>Sl.loadM1 hC.homes (by decide) hm (by simp) Ae0 hk (v:=.I y) (by simp [intC,hy]))) ?_;refine zc (zF rfl CP8) (fun w hm=>AH5 c bc _ w (hm.old_at hb (by simp)) hw) ?_
  refine Ac5 (dj:=55) (dp:=65) 10 rfl (fun g55=>by
   have g55':=g55;try simp only [nH] at g55'
   refine su ?_;refine lv (Aa0 rfl hb (by simp) Bu4 rfl) ?_;refine Xe (zF rfl DE7) (fun w hm=>BJ4 c.homes.l _ _ _ _ y w ((hC.mono0 hm).homes) (by omega)) ?_;refine sv ?_;exact zs g55
  ) (fun g55=>by
    iterate 9 refine nQ ?_
    refine sv ?_;exact zs g55
  ) ?_
  refine st ?_;refine cn rfl ?_ ?_
  ·intro c2'
   refine su ?_;exact Aa9 rZ (by rw [DG8 (c:=c.pl) (show k < c.pl.homes.length from hk) (by rw [Bp7,hy2,e0,e1,kI];rcases c2' with h9 | h9 <;> simp [h9])])
  intro c2';refine st ?_;refine lA ?_;exact Ac2 (by omega) (by rw [Bp7,hy2,kI];simpa [e0,e1] using c2') rfl (zE 46 rfl rfl (zS 1 rfl (zS 44 rfl (zS 45 rfl (Sub.nil _))))) (qC .nil)
 intro c1';obtain rfl:k=c.homes.l.length:=by omega
 refine Ls ?_;refine su ?_;refine Aa4 ?_;refine st ?_;refine Xj (zF rfl CT5) (fun w hm=>AQ2 w) (fun b67=>?_)
 refine zn (Lp CZ6) (fun b5=>?_)
 refine sQ .here ?_;refine su ?_;refine lv (Aa0 rfl hb (by simp) BS5 rfl) ?_;refine zc (zF rfl DE6) (fun w hm=>BM7 c.loans.l _ _ _ _ 174 #[.pointer (some ⟨b5,0,none⟩),.pointer (some ⟨b1,0,none⟩)] (fun l=>!loanV c.pl l) w ((hC.mono0 hm).loans) (by omega) DE5 (fun i h w2 h2=>BA5 c bc b5 b1 b67 _ w2 (h2.old_at (hm.old_at hb (by simp)) (by simp)) (by omega) hw (h2.old_at (hm.at mm0) (by simp)) (h2.old_at (hm.at mm2) (by simp)) (h2.old_at (hm.at mm1) (by simp)))) ?_;exact Aa9 rZ (by rw [DG7 (c:=c.pl) c0' kI];rfl)
theorem Bf2 (c:CbA) (W:World) (hC:CbOk W c) (hs:CbS c):CC 56 #[c.v] W (TryN lmis (openC c.pl) (fun _ b=>.pointer (some ⟨b,0,none⟩)) (fun _ b=>[(b,cabO c)]) W):=by
 refine cS func56 ?_;refine st ?_;refine zn (Lm rfl) (fun b1=>?_)
 refine lv (Lr (parts:=[(0,.tmp 4)]) rfl Da2 Cr7 rfl) ?_;refine zn (Lm rfl) (fun b6=>?_)
 refine zc (zF rfl DF9) (fun w hm=>Bg4 c b6 w (hm.at mm0) (hC.mono0 hm) hs) ?_;refine Xh (zF rfl BZ7) (fun w hm=>AH1 _ _ w) (fun e9 he9=>?_) (fun v9 hv9=>?_)
 ·obtain ⟨er9,rfl⟩:=Ac9 he9
  refine Aa1 ?_;exact Ai5 (by unfold openC;rw [if_neg (by simp [er9])])
 obtain ⟨ok9,rfl⟩:=Ad9 hv9;refine su ?_;exact AL3 (a:=()) b6 rZ (by unfold openC;rw [if_pos ok9]) rfl (qC .nil)
theorem Cb5 (i:Int) (l:Ln) (x:Bool) (W:World):CC 308 #[.agg #[],.I i,.agg l.cells.toArray,.bool x] W (Pure (.bool true) W):=by
 refine cS func308 ?_;refine st ?_;refine zn (Lm rfl) (fun b4=>?_)
 refine zn (Lm rfl) (fun b6=>?_)
 exact rP
end Go.Q
namespace Go.Le
open Go Go.Eng Go.Bk Go.RowKit
theorem DH9 {l:Rc} {s:List Int} {m:Int} (h:aFind l s=none∨m < (aFind l s).getD 0):addX l s m=aSet l s m:=by
 unfold addX
 cases hf:aFind l s with
 | none=>rfl
 | some n =>
   rw [hf] at h;exact if_pos (h.resolve_left (by simp))
theorem DU6 {l:Rc} {s:List Int} {m:Int} (h:(aFind l s).isSome=true∧¬ m < (aFind l s).getD 0):addX l s m=l:=by
 unfold addX
 cases hf:aFind l s with
 | none=>rw [hf] at h;cases h.1
 | some n =>
   rw [hf] at h;exact if_neg h.2
def Sz (l:Rc):Prop:=∀ x∈l,x.1.length=5
theorem Sz.rv {l:Rc} (h:Sz l):∀ x∈rv l,x.1.length=5:=fun x hx=>by
 obtain ⟨p,hp,rfl⟩:=List.mem_map.1 hx;exact h p hp
theorem Sz.add {l:Rc} (h:Sz l) {s:List Int} (hs:s.length=5) (m:Int):Sz (addX l s m):=fun x hx=>by
 rcases Ch6 hx with hx | rfl
 · exact h x hx
 · exact hs
section
variable {P:Program} {ops:Array Oper} {Q:Exit→Act→World→Prop} {n:Nat} {r:Regs} {ds:List Deferred} {W:World} {chg news:Blks} {rest:List Oper}
variable {d:Nat} {ty:TypeId} {pos:String} {after:Array Edge} {dst:Option Tmp} {gd:Option (Nat×Bool)} {T k E:TypeId} {l:Rc}
abbrev SK (P:Program) (T k E:TypeId):Prop:=KeyOk P T k E ka (fun l=>l.length=5)
theorem BP0 {x i:Operand} {b:Nat} {a:List Int} (hT:SK P T k E) (hx:rev r x=some (.map (some b))) (hi:rev r i=some (ka a)) (hb:∀ w,Mem W chg news w→w.heap[b]? = some (mapK ka (rv l))) (ha:a.length=5) (hl:Sz l) (hz:zeroV P E=some (.I 0)) :
  Val P r W chg news { dst,op:=.lookup T x i true,type:=ty,pos,after,guard:=gd } (.tuple #[.I ((aFind l a).getD 0),.bool (aFind l a).isSome]):=by
 have h:=Cb9 (dst:=dst) (ty:=ty) (pos:=pos) (after:=after) (gd:=gd) hT hx hi hb ha hl.rv hz;have e1:(kFind (rv l) a).getD (.I 0) = .I ((aFind l a).getD 0):=by rw [CE4];cases aFind l a <;> rfl
 have e2:(kFind (rv l) a).isSome=(aFind l a).isSome:=by rw [CE4];cases aFind l a <;> rfl
 rw [e1,e2] at h;exact h
theorem BB7 {x i y:Operand} {b:Nat} {a:List Int} {m:Int} {chg':Blks} (hT:SK P T k E) (hx:rev r x=some (.map (some b))) (hi:rev r i=some (ka a)) (hy:rev r y=some (.I m)) (ha:a.length=5) (hl:Sz l) (hu:Upd chg b (mapK ka (rv l)) (mapK ka (rv (aSet l a m))) chg') :
  Sto P r W chg news { dst,op:=.mapUpdate T x i y,type:=ty,pos,after,guard:=gd } chg' news:=by
 rw [← Do1] at hu;exact BP4 hT hx hi hy ha hl.rv hu
end
end Go.Le
namespace Go.Q
open Go Go.Eng Go.Bk Go.Le Go.RowKit
theorem Ay7:SK π 125 140 3:=KeyOk.arr (n:=5) (by kernel_rfl) (by kernel_rfl) (by kernel_rfl) (fun a b ha hb=>by
 obtain ⟨a0,a1,a2,a3,a4,rfl⟩:=Bx7 ha;obtain ⟨b0,b1,b2,b3,b4,rfl⟩:=Bx7 hb;refine (DN8 a0 a1 a2 a3 a4 b0 b1 b2 b3 b4).trans (congrArg some ?_)
 rw [Bool.eq_iff_iff];simp)
abbrev rcO (l:Rc):Obj:=mapK ka (rv l)
theorem BO4 (m:Nat) (l:Rc) (hl:Sz l) (s:List Int) (hs:s.length=5) (n:Int) (W:World) (hb:W.heap[m]? = some (rcO l)):CC 122 #[.map (some m),.agg (s.map (Value.int .i64)).toArray,.I n] W (Turns m (rcO (addX l s n)) (.tuple #[]) W):=by
 have hs':=hs;obtain ⟨x0,x1,x2,x3,x4,rfl⟩:=Bx7 hs;refine Af9 hb func122 rfl rfl ?_;refine csr ?_;refine Xg (Lm rfl) (fun b4=>?_)
 refine nsr ?_;refine vQ ?_;refine Xa (Ab5 rfl mm1 AB7 rfl) ?_;refine Xa (BP0 Ay7 (a:=[x0,x1,x2,x3,x4]) rfl rfl (fun w hm=>(hm.chgd _ _ mm0).2) hs' hl Cy2) ?_
 iterate 5 refine vQ ?_
 refine nsr ?_
 iterate 3 refine vQ ?_
 refine Ac5 (dj:=16) (dp:=20) 4 rfl (fun g16=>by
  iterate 4 refine vQ ?_
  exact Ac1 (Kg rfl (qU (Ad2 rfl (by rw [g16]) (Ab3 _)))) (List.Sublist.refl _)
 ) (fun g16=>by
   iterate 3 refine nQ ?_
   refine vQ ?_;exact Ac1 (Kg rfl (qU (Ad2 rfl (by rw [g16]) (Ab3 _)))) (List.Sublist.refl _)
 ) ?_
 refine nnx ?_;refine Ly rfl ?_ ?_
 ·intro c0
  have c0':=c0;clear c0;try simp only [nH] at c0'
  rw [DH9 (by simpa using c0')];refine Kv ?_;refine vQ ?_;refine Xa (Ab5 rfl mm1 AB7 rfl) ?_;refine vQ ?_;refine Xs (BB7 Ay7 (a:=[x0,x1,x2,x3,x4]) rfl rfl rfl hs' hl .here) ?_;refine Kf ?_;exact Ak2 (chg:=[(m,_)]) (.r0 rfl) (fun _ hm=>⟨rfl,hm.drop⟩)
 intro c0;have c0':=c0;clear c0;try simp only [nH] at c0'
 rw [DU6 (by simpa using c0')];refine Kd ?_;exact Ak2 (chg:=[(m,_)]) (.r0 rfl) (fun _ hm=>⟨rfl,hm.drop⟩)
end Go.Q
namespace Go.Le
open Go Go.Eng Go.Bk Go.RowKit
abbrev Sp5 (xs:List (List Int×Bool)):Prop:=∀ x∈xs,x.1.length=5
theorem Do0 {x:List Int×Bool} (h:x.1.length=5):Sp5 ([]++[x]):=fun y hy=>by rw [List.mem_singleton.1 hy];exact h
theorem Du0 {c:Cb} {s:List Int} {l:Ln} {k:Nat} {x:List Int×Bool} (hs:s.length=5) (h:x.1.length=5):Sp5 (backL c s l k++[x]):=fun y hy=>by
 rcases List.mem_append.1 hy with hy | hy
 · unfold backL at hy
   obtain ⟨j,_,rfl⟩:=List.mem_map.1 hy;simp [backE,hs]
 · rw [List.mem_singleton.1 hy];exact h
abbrev encT (x:List Int×Bool):LV:=[ka x.1,.bool x.2]
theorem CB5 {c:Cb} {s:List Int} {l:Ln} (h:l.kind=0):thenX c s l=if s.getD (crd l) 0 = -1 then [] else [(s.set (crd l) (-1),false)]:=if_pos h
theorem CB8 {c:Cb} {s:List Int} {l:Ln} (h:l.kind=1):thenX c s l=if s.getD (crd l) 0 = -1 then backL c s l c.slots.toNat else []:=by
 unfold thenX;rw [if_neg (by omega),if_pos h]
theorem CB6 {c:Cb} {s:List Int} {l:Ln} (h:l.kind=2):thenX c s l=if liesX c.homes.length s l.slot=l.card then [(s,false)] else []:=by
 unfold thenX;rw [if_neg (by omega),if_neg (by omega)]
end Go.Le
namespace Go.Q
open Go Go.Eng Go.Bk Go.Le Go.RowKit
abbrev stO (s:List Int):Obj:=.cells (s.map (Value.int .i64)).toArray 140 (0,0)
abbrev lnO (l:Ln):Obj:=.cells l.cells.toArray 73 (0,0)
abbrev aV (b:Nat):Value:=.pointer (some ⟨b,0,none⟩)
abbrev cpO (bc:Nat):Obj:=.cells [aV bc].toArray 123 (0,0)
theorem Dt6 (c:Cb) (s:List Int) (hs:s.length=5) (ln:Ln) (hk:ln.kind=0) (hc:0≤ln.card∧ln.card < 5) (b4 b5:Nat) (W0:World):SeqQ π 239 #[aV b4,aV b5] encT (fun _=>[]) [(b4,stO s),(b5,lnO ln)] lmis (fun xs=>xs=thenX c s ln) Sp5 (fun _ _=>False) 7 W0:=by
 rw [CB5 hk];have hlen:=hs;obtain ⟨x0,x1,x2,x3,x4,hse⟩:=Bx7 hs;obtain ⟨y0,y1,y2,y3,y4,hye⟩:=Bx7 (show (s.set (crd ln) (-1)).length=5 by rw [List.length_set,hs]);have hcs:[Value.int .i64 x0,.int .i64 x1,.int .i64 x2,.int .i64 x3,.int .i64 x4]=s.map (Value.int .i64):=by rw [hse];rfl
 intro X l U I Ix Ip rest w0 u0 hy i0 hm0;have hst:stO s = .cells [Value.int .i64 x0,.I x1,.I x2,.I x3,.I x4].toArray 140 (0,0):=by rw [hcs]
 have hm1:Mem W0 [] ((b4,stO s)::(b5,lnO ln)::(U u0++(rest++[]))) w0:=hm0.pick pk8;rw [hst] at hm1;refine AA0 (vs:=[.func (.yield l) #[] #[],aV b4,aV b5]) hm1 func239 rfl rfl ?_ 8
 refine Ki ?_;refine Kj ?_;refine Xb (Lo rfl AR2) ?_;refine Xb (Aa6 rfl mm1 Ae0 rfl) ?_;refine Xb (Aa7 rfl rfl AB3 (by omega) (by omega)) ?_;refine Xb (Aa5 rfl (fun w hm=>arr_load (hm.at mm0) hcs Ae0 hc.1 (by omega) rfl)) ?_;refine vR ?_;refine Kk ?_;refine Kl ?_;refine Kn rfl ?_ ?_
 ·intro c0
  have c0':=c0;clear c0;try simp only [nH] at c0'
  refine Ki ?_;refine Kj ?_;refine Xb (Lo rfl AR2) ?_;refine Xb (Aa6 rfl mm1 Ae0 rfl) ?_;refine Xb (Aa7 rfl rfl AB3 (by omega) (by omega)) ?_;refine Ya (Lt (cs:=[Value.int .i64 x0,.I x1,.I x2,.I x3,.I x4]) (cs':=[Value.int .i64 y0,.I y1,.I y2,.I y3,.I y4]) rfl rfl .here Ae0 rfl (BF8 (l:=s) hcs (l':=[y0,y1,y2,y3,y4]) rfl (by omega) hye)) ?_;refine Kk ?_;refine Kl ?_;refine Kj ?_;refine vR ?_;refine Xb (Ab5 rfl mm0 AB7 rfl) ?_;refine AI6 (Ai4 rfl rfl) rfl rfl rfl (fun w hm=>(Ba2 (α:=List Int×Bool) (encs:=encT) (eb:=fun _=>[]) (U:=U) (I:=I) (Ix:=Ix) (Ip:=Ip) (pre:=[]) (v:=([y0,y1,y2,y3,y4],false)) (N':=fun x=>(b4,stO [y0,y1,y2,y3,y4])::(b5,lnO ln)::(U x++(rest++[]))) (tl:=(b4,stO [y0,y1,y2,y3,y4])::(b5,lnO ln)::rest) (fun x=>pk0) (hy [] ([y0,y1,y2,y3,y4],false) u0 ((b4,stO [y0,y1,y2,y3,y4])::(b5,lnO ln)::rest) w i0 (Do0 rfl) (by decide) ((show Mem W0 [] ((b4,stO [y0,y1,y2,y3,y4])::(b5,lnO ln)::(U u0++(rest++[]))) w from hm).pick pk0)))) (fun p14 hp14=>?_) (fun z14 hz14=>?_)
  ·exact fun _ w s=>⟨s.defers,p14.2,s.mem.pick pk0,.inr (.inl ⟨p14.1,rfl,hp14⟩)⟩
  refine Kk ?_;exact Ak2 (chg:=[]) (.r0 rfl) (fun _ hm=>⟨z14.2,hm.pick pk0,.inl ⟨_,rfl,hz14.imp (fun h=>⟨_,(by rw [if_neg (by simpa [crd] using c0'),hye];rfl),h.2⟩) (fun h=>h.2)⟩⟩)
 intro c0;have c0':=c0;clear c0;try simp only [nH] at c0'
 refine Ko ?_;exact Ak2 (chg:=[]) (.r0 rfl) (fun _ hm=>⟨u0,hm.pick pk0,.inl ⟨_,rfl,.inl ⟨[],(by rw [if_pos (by simpa [crd] using c0')]),i0⟩⟩⟩)
theorem Dh2 (c:CbA) (bc:Nat) (hl:c.homes.l.length≤5) (s:List Int) (hs:s.length=5) (ln:Ln) (hk:ln.kind=2) (b3 b4 b5:Nat) (W0:World) (hb:W0.heap[bc]? = some (cabO c)):SeqQ π 241 #[aV b3,aV b4,aV b5] encT (fun _=>[]) [(b3,cpO bc),(b4,stO s),(b5,lnO ln)] lmis (fun xs=>xs=thenX c.pl s ln) Sp5 (fun _ _=>False) 7 W0:=by
 rw [CB6 hk];have hlen:=hs;obtain ⟨x0,x1,x2,x3,x4,hse⟩:=Bx7 hs;have hcs:[Value.int .i64 x0,.int .i64 x1,.int .i64 x2,.int .i64 x3,.int .i64 x4]=s.map (Value.int .i64):=by rw [hse];rfl
 intro X l U I Ix Ip rest w0 u0 hy i0 hm0;have hst:stO s = .cells [Value.int .i64 x0,.I x1,.I x2,.I x3,.I x4].toArray 140 (0,0):=by rw [hcs]
 have hm1:Mem W0 [] ((b3,cpO bc)::(b4,stO s)::(b5,lnO ln)::(U u0++(rest++[]))) w0:=hm0.pick pk8;rw [hst] at hm1;refine AA0 (vs:=[.func (.yield l) #[] #[],aV b3,aV b4,aV b5]) hm1 func241 rfl rfl ?_ 8
 refine Ki ?_;refine Cl5 ?_;refine Ab9 7 Ah8 (qE (qC .nil)) ?_;refine zw 0 ?_;refine zw 1 ?_;refine zw 2 ?_;refine zw 3 ?_;refine zw 5 ?_;refine zw 6 ?_;refine zA 4 ?_;refine Xd rfl (zF rfl CP7) (fun w hm=>(hse ▸ AU4 c bc s ln.slot w (hm.old_at hb (by simp)) hl hlen)) (Aa2 (qE (qC .nil)) (qE (qC .nil)) rfl ?_)
 refine zt ?_;refine zp 7 ?_;refine zd ?_;refine Kl ?_;refine Kn rfl ?_ ?_
 ·intro c0
  have c0':=c0;clear c0;try simp only [nH] at c0'
  refine Kj ?_;refine vR ?_;refine Xb (Ab5 rfl mm1 AB7 rfl) ?_;refine AI6 (Ai4 rfl rfl) rfl rfl rfl (fun w hm=>(Ba2 (α:=List Int×Bool) (encs:=encT) (eb:=fun _=>[]) (U:=U) (I:=I) (Ix:=Ix) (Ip:=Ip) (pre:=[]) (v:=([x0,x1,x2,x3,x4],false)) (N':=fun x=>(b3,cpO bc)::(b4,stO [x0,x1,x2,x3,x4])::(b5,lnO ln)::(U x++(rest++[]))) (tl:=(b3,cpO bc)::(b4,stO [x0,x1,x2,x3,x4])::(b5,lnO ln)::rest) (fun x=>pk0) (hy [] ([x0,x1,x2,x3,x4],false) u0 ((b3,cpO bc)::(b4,stO [x0,x1,x2,x3,x4])::(b5,lnO ln)::rest) w i0 (Do0 rfl) (by decide) ((show Mem W0 [] ((b3,cpO bc)::(b4,stO [x0,x1,x2,x3,x4])::(b5,lnO ln)::(U u0++(rest++[]))) w from hm).pick pk0)))) (fun p15 hp15=>?_) (fun z15 hz15=>?_)
  ·exact fun _ w s=>⟨s.defers,p15.2,s.mem.pick pk0,.inr (.inl ⟨p15.1,rfl,hp15⟩)⟩
  refine Kk ?_;exact Ak2 (chg:=[]) (.r0 rfl) (fun _ hm=>⟨z15.2,hm.pick pk0,.inl ⟨_,rfl,hz15.imp (fun h=>⟨_,(by rw [hse,if_pos (show liesX c.pl.homes.length [x0,x1,x2,x3,x4] ln.slot=ln.card from c0')];rfl),h.2⟩) (fun h=>h.2)⟩⟩)
 intro c0;have c0':=c0;clear c0;try simp only [nH] at c0'
 refine Ko ?_;exact Ak2 (chg:=[]) (.r0 rfl) (fun _ hm=>⟨u0,hm.pick pk0,.inl ⟨_,rfl,.inl ⟨[],(by rw [hse,if_neg (show ¬ liesX c.pl.homes.length [x0,x1,x2,x3,x4] ln.slot=ln.card from c0')]),i0⟩⟩⟩)
set_option maxHeartbeats 1000000 in
theorem DT8 (c:CbA) (bc:Nat) (hl:c.homes.l.length≤5) (hsl:1≤c.slots∧c.slots≤6) (s:List Int) (hs:s.length=5) (ln:Ln) (hk:ln.kind=1) (hc:0≤ln.card∧ln.card < (c.homes.l.length:Int)) (b3 b4 b5:Nat) (W0:World) (hb:W0.heap[bc]? = some (cabO c)) (hC:CbOk W0 c):SeqQ π 240 #[aV b4,aV b5,aV b3] encT (fun _=>[]) [(b3,cpO bc),(b4,stO s),(b5,lnO ln)] lmis (fun xs=>xs=thenX c.pl s ln) Sp5 (fun _ _=>False) 7 W0:=by
 rw [CB8 hk];have hlen:=hs;obtain ⟨x0,x1,x2,x3,x4,hse⟩:=Bx7 hs;have hcs:[Value.int .i64 x0,.int .i64 x1,.int .i64 x2,.int .i64 x3,.int .i64 x4]=s.map (Value.int .i64):=by rw [hse];rfl
 have hck:crd ln < c.homes.l.length:=by unfold crd;omega
 have hcc:((crd ln:Nat):Int)=ln.card:=by unfold crd;omega
 intro X l U I Ix Ip rest w0 u0 hy i0 hm0;have hst:stO s = .cells [Value.int .i64 x0,.I x1,.I x2,.I x3,.I x4].toArray 140 (0,0):=by rw [hcs]
 have hm1:Mem W0 [] ((b3,cpO bc)::(b4,stO s)::(b5,lnO ln)::(U u0++(rest++[]))) w0:=hm0.pick pk8;rw [hst] at hm1;refine AA0 (vs:=[.func (.yield l) #[] #[],aV b4,aV b5,aV b3]) hm1 func240 rfl rfl ?_ 8
 refine RunCR.scope ?_;refine Ki ?_;refine Ki ?_;refine Kj ?_;refine Xb (Lo rfl AR2) ?_;refine Xb (Aa6 rfl mm2 Ae0 rfl) ?_;refine Xb (Aa7 rfl rfl AB3 (by omega) (by omega)) ?_;refine Xb (Aa5 rfl (fun w hm=>arr_load (hm.at mm1) hcs Ae0 hc.1 (by omega) rfl)) ?_;refine vR ?_;refine Kk ?_;refine Kl ?_;refine Kn rfl ?_ ?_
 ·intro c0
  have c0':=c0;clear c0;try simp only [nH] at c0'
  refine Kp ?_;refine Ad1 ?_;refine Ai8 ?_;exact Ld (chg:=[]) (.r0 rfl) (fun _ hm=>⟨u0,hm.pick pk0,.inl ⟨_,rfl,.inl ⟨[],(by rw [if_neg (by simpa [crd] using c0')]),i0⟩⟩⟩)
 intro c0;have c0':=c0;clear c0;try simp only [nH] at c0'
 refine Ko ?_;refine Kl ?_;refine Ki ?_;refine RunCR.label ?_;refine Kl ?_;refine Ki ?_;refine Kj ?_;refine Xb (Aa6 rfl mm0 Bm8 rfl) ?_;refine vR ?_;refine Xb (Lo rfl Ap0) ?_;refine Xb (Lo rfl Ci6) ?_;refine Xb (Aa0 rfl hb (by simp) Ae0 rfl) ?_;refine vR ?_;refine Kk ?_;refine Kl ?_;refine Km ?_;refine Bk6 (X:=X) (n0:=[(b3,_),(b4,_),(b5,_)]) (c.slots.toNat) (fun k y q=>(17,.I (k:Int))::q) (fun _ _=>_) (fun k y=>[]) (fun k y=>U y++(rest++[])) (fun k y=>I (backL c.pl s ln k) y) u0 i0 rfl (zE 17 rfl rfl (zS 0 rfl (zS 1 rfl (zS 2 rfl (zS 3 rfl (zS 16 rfl (Sub.nil _))))))) (qE (qC (Pick.same (by rfl)))) ?_;intro k y kN kI;have hbl:=BO2 c.pl s ln k;refine Ki ?_;refine Kj ?_;refine vR ?_;refine Kk ?_;refine Kl ?_;refine Ki ?_;refine Kn rfl ?_ ?_
 ·intro c1
  have c1':=c1;clear c1;try simp only [nH] at c1'
  have hkn:k < c.slots.toNat:=by omega
  refine Ko ?_;refine Kl ?_;refine Ki ?_;refine Km ?_;refine Ki ?_;refine Kj ?_;refine vR ?_;refine vR ?_;refine Kk ?_;refine Kl ?_;refine Ki ?_;refine Ki ?_;refine Kj ?_;refine Xb (Aa6 rfl mm0 Bm8 rfl) ?_;refine Xb (Ab5 rfl mm1 AB7 rfl) ?_;refine vR ?_;refine Xt (zF rfl CP7) (fun w hm=>(hse ▸ AU4 c bc s (k:Int) w (hm.old_at hb (by simp)) hl hlen)) ?_;refine vR ?_;refine Kk ?_;refine Kl ?_;refine Kn rfl ?_ ?_
  ·intro c2
   have c2':=c2;clear c2;try simp only [nH] at c2'
   refine Kq ?_;refine Ac0 ?_;refine Aa4 ?_;refine Kl ?_;refine Kj ?_;refine Xb (Kb rfl rfl (Lq _ ⟨by omega,by omega⟩)) ?_;refine vR ?_;refine Kk ?_;exact Ac3 y (by omega) (by rw [CW4,if_neg (by rw [hse];exact c2'),List.append_nil];exact kI) rfl (zE 17 rfl rfl (zS 0 rfl (zS 1 rfl (zS 2 rfl (zS 3 rfl (zS 16 rfl (Sub.nil _))))))) (qE (qC (Pick.refl _)))
  intro c2;have c2':=c2;clear c2;try simp only [nH] at c2'
  obtain ⟨y0,y1,y2,y3,y4,hye⟩:=Bx7 (show (s.set (crd ln) (k:Int)).length=5 by rw [List.length_set,hs]);have hbe:backE c.pl s ln k=([y0,y1,y2,y3,y4],!decide ((k:Int)=c.homes.l.getD (crd ln) 0)):=by (unfold backE;rw [hye];rfl)
  refine Ko ?_;refine Kl ?_;refine Ki ?_;refine Kj ?_;refine Xb (Ab5 rfl mm1 AB7 rfl) ?_;refine Xz (Lp Ay1) (fun b6=>?_)
  refine Ya (Lt rfl rfl .here AB7 rfl rfl) ?_;refine Kk ?_;refine Kl ?_;refine Ki ?_;refine Kj ?_;refine Xb (Lo rfl AR2) ?_;refine Xb (Aa6 rfl mm3 Ae0 rfl) ?_;refine vR ?_;refine Xb (Aa7 rfl rfl AB3 (by omega) (by omega)) ?_;refine Ya (Lt (cs:=[Value.int .i64 x0,.I x1,.I x2,.I x3,.I x4]) (cs':=[Value.int .i64 y0,.I y1,.I y2,.I y3,.I y4]) rfl rfl .here Ae0 rfl (BF8 (l:=s) hcs (l':=[y0,y1,y2,y3,y4]) rfl (by omega) hye)) ?_;refine Kk ?_;refine Kl ?_;refine Ki ?_;refine Cd3 13 Ah8 (qF .nil) (by kernel_rfl) (by kernel_rfl) ?_ (hlo:=(fun _ _ h=>by obtain ⟨_,_,h⟩:=h;rcases h with ⟨_,h,_⟩ | ⟨_,h,_⟩ | ⟨_,_,h,_⟩ <;> cases h))
  refine zw 0 ?_;refine zw 1 ?_;refine zw 2 ?_;refine zw 3 ?_;refine zw 4 ?_;refine zw 5 ?_;refine zw 6 ?_;refine zv 7 rfl (Aa0 rfl hb (by simp) Bu4 rfl) ?_;refine zw 8 ?_;refine zw 9 ?_;refine zv 10 rfl (Aa3 rfl rfl Af6 (by omega) (by omega) (Sl.ptrM hC.homes hck)) ?_;refine zv 11 rfl (Aa5 rfl (fun w hm=>Sl.loadM1 hC.homes (by decide) hm (by simp) Ae0 (i:=crd ln) hck (v:=.I (c.homes.l.getD (crd ln) 0)) (by simp [intC,hck]))) ?_;refine zw 12 ?_;refine RunA.done (by kernel_rfl) ?_;refine Dn0 ?_;refine RunAF.one (i:=13) (by kernel_rfl) ?_;refine RunIF.yieldQ rfl (Ai4 rfl rfl) rfl rfl rfl (fun w hm=>(Ba2 (α:=List Int×Bool) (encs:=encT) (eb:=fun _=>[]) (U:=U) (I:=I) (Ix:=Ix) (Ip:=Ip) (pre:=backL c.pl s ln k) (v:=([y0,y1,y2,y3,y4],!decide ((k:Int)=c.homes.l.getD (crd ln) 0))) (N':=fun x=>(b3,cpO bc)::(b4,stO [x0,x1,x2,x3,x4])::(b5,lnO ln)::(U x++(rest++[]))) (tl:=(b6,stO [y0,y1,y2,y3,y4])::(b3,cpO bc)::(b4,stO [x0,x1,x2,x3,x4])::(b5,lnO ln)::rest) (fun x=>pk0) (hy (backL c.pl s ln k) ([y0,y1,y2,y3,y4],!decide ((k:Int)=c.homes.l.getD (crd ln) 0)) y ((b6,stO [y0,y1,y2,y3,y4])::(b3,cpO bc)::(b4,stO [x0,x1,x2,x3,x4])::(b5,lnO ln)::rest) w kI (Du0 hlen rfl) (by omega) ((show Mem W0 [] ((b6,stO [y0,y1,y2,y3,y4])::(b3,cpO bc)::(b4,stO [x0,x1,x2,x3,x4])::(b5,lnO ln)::(U y++(rest++[]))) w from hm).pick pk0)))) (fun p43 hp43=>?_) (fun z43 hz43=>(BQ2 ?_))
  ·refine Aa1 ?_
   refine Ad0 ?_;refine Aa1 ?_;refine Aa1 ?_;refine Ad0 ?_;refine Ae8 ?_;exact fun _ w s=>⟨s.defers,p43.2,s.mem.pick pk0,.inr (.inl ⟨p43.1,rfl,hp43⟩)⟩
  refine RunAF.one (i:=14) (by kernel_rfl) ?_;refine RunIF.of rfl ?_ (hlo:=(fun _ _ h=>by obtain ⟨_,_,h⟩:=h;rcases h with ⟨_,h,_⟩ | ⟨_,h,_⟩ | ⟨_,_,h,_⟩ <;> cases h))
  refine Xc rfl (Aa8 rfl) (BQ2 ?_)
  refine RunAF.done (by kernel_rfl) ?_;refine Kl ?_;refine Kn rfl ?_ ?_
  ·intro c3
   have c3':=c3;clear c3;try simp only [nH] at c3'
   have hno:Ix z43.2:=hz43.elim (fun h=>absurd (h.1.symm.trans c3') (by decide)) (fun h=>h.2);refine Kp ?_;refine su ?_;refine Ai8 ?_;exact Ld (chg:=[]) (.r0 rfl) (fun _ hm=>⟨z43.2,hm.pick pk0,.inl ⟨_,rfl,.inr hno⟩⟩)
  intro c3;have c3':=c3;clear c3;try simp only [nH] at c3'
  have hyes:=hz43.resolve_right (fun h=>absurd (h.1.symm.trans c3') (by decide));refine Ko ?_;refine st ?_;refine Kl ?_;refine Kj ?_;refine Xb (Kb rfl rfl (Lq _ ⟨by omega,by omega⟩)) ?_;refine vR ?_;refine Kk ?_;exact Ac3 z43.2 (by omega) (by rw [CW4,if_pos (by rw [hse];exact c2'),hbe];exact hyes.2) rfl (zE 17 rfl rfl (zS 0 rfl (zS 1 rfl (zS 2 rfl (zS 3 rfl (zS 16 rfl (Sub.nil _))))))) (qE (qC (Pick.refl _)))
 intro c1;have c1':=c1;clear c1;try simp only [nH] at c1'
 obtain hkn:k=c.slots.toNat:=by omega
 refine Kq ?_;refine su ?_;refine Aa4 ?_;refine AC6 ?_;exact Ak2 (chg:=[]) (.r0 rfl) (fun _ hm=>⟨y,hm.pick pk0,.inl ⟨_,rfl,.inl ⟨_,(by rw [if_pos (by simpa [crd] using c0'),hkn];rfl),kI⟩⟩⟩)
structure ThenZ where
 gf:Nat
 lb:Array Value
 blks:Blks
def ThenOk (c:CbA) (bc:Nat) (s:List Int) (ln:Ln) (z:ThenZ):Prop :=
 Enters π z.gf∧∀ W0:World,W0.heap[bc]? = some (cabO c)→CbOk W0 c→SeqQ π z.gf z.lb encT (fun _=>[]) z.blks lmis (fun xs=>xs=thenX c.pl s ln) Sp5 (fun _ _=>False) 7 W0
abbrev ThenT (c:CbA) (bc:Nat) (s:List Int) (ln:Ln):={ z:ThenZ // ThenOk c bc s ln z }
def thenF (k:Int):Nat:=if k=0 then 176 else if k=1 then 177 else 179
theorem BT1 (c:CbA) (bc:Nat) (s:List Int) (hs:s.length=5) (ln:Ln) (hk:ln.kind=0) (hc:0≤ln.card∧ln.card < 5) (W:World):CC 176 #[aV bc,.agg (s.map (Value.int .i64)).toArray,.agg ln.cells.toArray] W (News (fun z:ThenT c bc s ln=>.func (.func z.1.gf) #[] z.1.lb) (fun z=>z.1.blks++[]) W):=by
 obtain ⟨x0,x1,x2,x3,x4,hse⟩:=Bx7 hs;have hst:s.map (Value.int .i64)=[Value.int .i64 x0,.I x1,.I x2,.I x3,.I x4]:=by rw [hse];rfl
 have hso:stO s = .cells [Value.int .i64 x0,.I x1,.I x2,.I x3,.I x4].toArray 140 (0,0):=congrArg (fun l:LV=>Obj.cells l.toArray 140) hst;rw [hst];refine cS func176 ?_;refine st ?_;refine zn (Lm rfl) (fun b4=>?_)
 refine zn (Lm rfl) (fun b5=>?_)
 exact Ld (chg:=[]) rZ (fun _ hm=>⟨⟨⟨239,#[aV b4,aV b5],[(b4,stO s),(b5,lnO ln)]⟩,DB5,fun W0 _ _=>Dt6 c.pl s hs ln hk hc b4 b5 W0⟩,rfl,(show Mem W [] [(b4,stO s),(b5,lnO ln)] _ from by rw [hso];exact hm.pick (qD (qC .nil)))⟩)
theorem BH3 (c:CbA) (bc:Nat) (hl:c.homes.l.length≤5) (s:List Int) (hs:s.length=5) (ln:Ln) (hk:ln.kind=2) (W:World):CC 179 #[aV bc,.agg (s.map (Value.int .i64)).toArray,.agg ln.cells.toArray] W (News (fun z:ThenT c bc s ln=>.func (.func z.1.gf) #[] z.1.lb) (fun z=>z.1.blks++[]) W):=by
 obtain ⟨x0,x1,x2,x3,x4,hse⟩:=Bx7 hs;have hst:s.map (Value.int .i64)=[Value.int .i64 x0,.I x1,.I x2,.I x3,.I x4]:=by rw [hse];rfl
 have hso:stO s = .cells [Value.int .i64 x0,.I x1,.I x2,.I x3,.I x4].toArray 140 (0,0):=congrArg (fun l:LV=>Obj.cells l.toArray 140) hst;rw [hst];refine cS func179 ?_;refine st ?_;refine zn (Lm rfl) (fun b3=>?_)
 refine zn (Lm rfl) (fun b4=>?_)
 refine zn (Lm rfl) (fun b5=>?_)
 exact Ld (chg:=[]) rZ (fun _ hm=>⟨⟨⟨241,#[aV b3,aV b4,aV b5],[(b3,cpO bc),(b4,stO s),(b5,lnO ln)]⟩,DB3,fun W0 h1 _=>Dh2 c bc hl s hs ln hk b3 b4 b5 W0 h1⟩,rfl,(show Mem W [] [(b3,cpO bc),(b4,stO s),(b5,lnO ln)] _ from by rw [hso];exact hm.pick (qH (qD (qC .nil))))⟩)
theorem Cw3 (c:CbA) (bc:Nat) (hl:c.homes.l.length≤5) (hsl:1≤c.slots∧c.slots≤6) (s:List Int) (hs:s.length=5) (ln:Ln) (hk:ln.kind=1) (hc:0≤ln.card∧ln.card < (c.homes.l.length:Int)) (W:World):CC 177 #[aV bc,.agg (s.map (Value.int .i64)).toArray,.agg ln.cells.toArray] W (News (fun z:ThenT c bc s ln=>.func (.func z.1.gf) #[] z.1.lb) (fun z=>z.1.blks++[]) W):=by
 obtain ⟨x0,x1,x2,x3,x4,hse⟩:=Bx7 hs;have hst:s.map (Value.int .i64)=[Value.int .i64 x0,.I x1,.I x2,.I x3,.I x4]:=by rw [hse];rfl
 have hso:stO s = .cells [Value.int .i64 x0,.I x1,.I x2,.I x3,.I x4].toArray 140 (0,0):=congrArg (fun l:LV=>Obj.cells l.toArray 140) hst;rw [hst];refine cS func177 ?_;refine st ?_;refine zn (Lm rfl) (fun b3=>?_)
 refine zn (Lm rfl) (fun b4=>?_)
 refine zn (Lm rfl) (fun b5=>?_)
 exact Ld (chg:=[]) rZ (fun _ hm=>⟨⟨⟨240,#[aV b4,aV b5,aV b3],[(b3,cpO bc),(b4,stO s),(b5,lnO ln)]⟩,DB4,fun W0 h1 h2=>DT8 c bc hl hsl s hs ln hk hc b3 b4 b5 W0 h1 h2⟩,rfl,(show Mem W [] [(b3,cpO bc),(b4,stO s),(b5,lnO ln)] _ from by rw [hso];exact hm.pick (qH (qD (qC .nil))))⟩)
theorem CB9 (k:Int):Enters π (thenF k):=by
 unfold thenF
 split
 · exact DE4
 · split
   · exact DE3
   · exact DE1
theorem Cn6 (c:CbA) (bc:Nat) (hc:CV c.pl) (s:List Int) (hs:s.length=5) (ln:Ln) (hln:loanV c.pl ln=true) (W:World):CC (thenF ln.kind) #[aV bc,.agg (s.map (Value.int .i64)).toArray,.agg ln.cells.toArray] W (News (fun z:ThenT c bc s ln=>.func (.func z.1.gf) #[] z.1.lb) (fun z=>z.1.blks++[]) W):=by
 have hl:c.homes.l.length≤5:=hc.few;have e:(c.pl.homes.length:Int)=(c.homes.l.length:Int):=rfl;unfold thenF
 by_cases h0:ln.kind=0
 · rw [if_pos h0]
   rw [AK4 (.inl h0)] at hln;simp only [within,Bool.and_eq_true,decide_eq_true_eq] at hln;exact BT1 c bc s hs ln h0 (by omega) W
 · rw [if_neg h0]
   by_cases h1:ln.kind=1
   · rw [if_pos h1]
     rw [AK4 (.inr h1)] at hln;simp only [within,Bool.and_eq_true,decide_eq_true_eq] at hln;exact Cw3 c bc hl hc.slots s hs ln h1 (by omega) W
   · rw [if_neg h1]
     have h2:ln.kind=2:=by
      unfold loanV at hln;rw [if_neg (by omega)] at hln
      split at hln
      · assumption
      · cases hln
     exact BH3 c bc hl s hs ln h2 W
theorem Dh5 {w:World} {b:Nat} {T:TypeId} {k:Int} (h:w.heap[b]? = some kindsO) (hk:0≤k∧k≤2) (hT:tyB π T=some (false,1)):(loadVar T ⟨b,0 + k.toNat * 2 + 1,none⟩).run π w = .ok (.func (.func (thenF k)) #[] #[]) w:=by
 refine Ag5 hT ?_;rw [Ae1 h]
 have:k=0∨k=1∨k=2:=by omega
 rcases this with rfl | rfl | rfl <;> rfl
theorem Dw8 {c:Cb} {l:Ln} (h:loanV c l=true):0≤l.kind∧l.kind≤2:=by
 cases hw:within l.kind 0 2 with
 | false=>rw [Ch8 hw] at h;cases h
 | true=>simpa [within] using hw
end Go.Q
namespace Go.Le
open Go Go.Eng Go.Bk Go.RowKit
def zE:List Int×Int:=([],0)
def pickX (l:Rc) (xs:List Nat):Rc:=xs.map fun i=>l.getD i zE
def accX (c:Cb) (wrong:Int) (ok:Rule) (k:Nat) (ln:Ln) (l:Rc) (xs:List Nat):Rc:=addAll [] (adds c wrong ok k ln (pickX l xs))
theorem BF6 (l:Rc) (xs:List Nat) (i:Nat):pickX l (xs++[i])=pickX l xs++[l.getD i zE]:=by simp [pickX]
theorem Dm7 (c:Cb) (wrong:Int) (ok:Rule) (k:Nat) (ln:Ln) (l:Rc) (xs:List Nat) (i:Nat):accX c wrong ok k ln l (xs++[i])=addAll (accX c wrong ok k ln l xs) (addsP c wrong ok k ln (l.getD i zE)):=by
 unfold accX adds;rw [BF6,List.flatMap_append,AV6];simp
theorem Cg4 {l:Rc} {xs:List Nat} (hn:xs.Nodup) (hlt:∀ i∈xs,i < l.length) (AH6:∀ i,i < l.length→i∈xs):(pickX l xs).Perm l:=by
 have h1:xs.Perm (List.range l.length):=(List.perm_ext_iff_of_nodup hn List.nodup_range).2 fun i=>⟨fun h=>List.mem_range.2 (hlt i h),fun h=>AH6 i (List.mem_range.1 h)⟩
 have h2:pickX l (List.range l.length)=l:=by
  unfold pickX
  apply List.ext_getElem
  · simp
  · intro i h1 h2
    simp [List.getD_eq_getElem?_getD,List.getElem?_eq_getElem h2]
 have h3:=h1.map (fun i=>l.getD i zE);have h4:(pickX l xs).Perm (pickX l (List.range l.length)):=h3;rw [h2] at h4;exact h4
theorem DI1 {c:Cb} {wrong:Int} {ok:Rule} {k:Nat} {ln:Ln} {l:Rc} {xs:List Nat} (hn:xs.Nodup) (hlt:∀ i∈xs,i < l.length) (AH6:∀ i,i < l.length→i∈xs):(accX c wrong ok k ln l xs).Perm (stepX c wrong ok k ln l) :=
 BD5 c wrong ok k ln (Cg4 hn hlt AH6)
theorem CF4 {c:Cb} {wrong:Int} {ok:Rule} {k:Nat} {ln:Ln} {l l2:Rc} (hk:c.loans[k]? = some ln) (h:l.Perm (playX c wrong ok k)) (h2:l2.Perm (stepX c wrong ok k ln l)):l2.Perm (playX c wrong ok (k + 1)):=by
 have e:c.loans.getD k zLn=ln:=by rw [List.getD_eq_getElem?_getD,hk];rfl
 show l2.Perm (stepX c wrong ok k (c.loans.getD k zLn) (playX c wrong ok k))
 rw [e];exact h2.trans (BD5 c wrong ok k ln h)
theorem Dm5 {wrong:Int} {ok:Rule} {i:Nat} {l:Ln} {n:Int} {t:List Int×Bool} (h:n + b2i t.2≤wrong) (h2:ok i l t.2=true):add1 wrong ok i l n t=[(t.1,n + b2i t.2)]:=if_pos ⟨h,h2⟩
theorem DI0 {wrong:Int} {ok:Rule} {i:Nat} {l:Ln} {n:Int} {t:List Int×Bool} (h:¬ (n + b2i t.2≤wrong∧ok i l t.2=true)):add1 wrong ok i l n t=[]:=if_neg h
theorem Sz.addAll {l:Rc} (h:Sz l) {bs:List (List Int×Int)} (ha:∀ a∈bs,a.1.length=5):Sz (addAll l bs):=fun x hx=>by
 rcases AU2 hx with hx | hx
 · exact h x hx
 · exact ha x hx
def RndI (B:Rc) (wrong:Int) (ok:Rule) (k:Nat) (ln:Ln) (n:Int) (pre:List (List Int×Bool)) (x:Rc):Prop:=Sz x∧x=addAll B (pre.flatMap (add1 wrong ok k ln n))
theorem CF0 {B x:Rc} {wrong:Int} {ok:Rule} {k:Nat} {ln:Ln} {n m:Int} {pre:List (List Int×Bool)} {v:List Int×Bool} (h:RndI B wrong ok k ln n pre x) (hv:v.1.length=5) (hm:m=n + b2i v.2) (h1:m≤wrong) (h2:ok k ln v.2=true):RndI B wrong ok k ln n (pre++[v]) (addX x v.1 m):=by
 refine ⟨h.1.add hv m,?_⟩
 rw [List.flatMap_append,AV6,← h.2];simp only [List.flatMap_cons,List.flatMap_nil,List.append_nil];rw [Dm5 (by omega) h2,hm];rfl
theorem Do3 {B x:Rc} {wrong:Int} {ok:Rule} {k:Nat} {ln:Ln} {n m:Int} {pre:List (List Int×Bool)} {v:List Int×Bool} (h:RndI B wrong ok k ln n pre x) (hm:m=n + b2i v.2) (h1:¬ (m≤wrong∧ok k ln v.2=true)):RndI B wrong ok k ln n (pre++[v]) x:=by
 refine ⟨h.1,?_⟩
 rw [List.flatMap_append,AV6,← h.2];simp only [List.flatMap_cons,List.flatMap_nil,List.append_nil];rw [DI0 (by rw [← hm];exact h1)];rfl
theorem CP0 {c:Cb} (h:c.homes.length≤5):(firstX c).length=5:=by
 unfold firstX;rw [List.length_append,List.length_replicate];omega
theorem BX4 {c:Cb} (h:c.homes.length≤5):c.homes.map (Value.int .i64)++([Value.int .i64 0,.I 0,.I 0,.I 0,.I 0]:LV).drop c.homes.length=(firstX c).map (Value.int .i64):=by
 unfold firstX;rw [List.map_append,List.map_replicate]
 congr 1
 have:c.homes.length=0∨c.homes.length=1∨c.homes.length=2∨c.homes.length=3∨c.homes.length=4∨c.homes.length=5:=by omega
 rcases this with h | h | h | h | h | h <;> rw [h] <;> rfl
structure CbC (c:CbA):Prop where
 le:c.loans.l.length≤c.loans.c
 nq:c.loans.q=none→c.loans.c=0
 pl:∀ a,c.loans.q=some a→a=⟨a.block,a.off,none⟩
theorem flat_ints (l:List Int):(l.map intC).flatten=l.map (Value.int .i64):=by
 induction l with
 | nil=>rfl
 | cons x l ih=>rw [List.map_cons,List.flatten_cons,ih];rfl
theorem Bo9:∀ (n:Nat) (l:List Nat),l.Nodup→(∀ x∈l,x < n)→l.length≤n
 | 0,l,_,h=>by
   cases l with
   | nil=>exact Nat.le_refl _
   | cons x l=>exact absurd (h x (List.mem_cons_self ..)) (by omega)
 | n + 1,l,hn,h=>by
   by_cases hm:n∈l
   · have h1:=List.length_erase_of_mem hm
     have h2:=Bo9 n (l.erase n) (hn.erase n) (fun x hx=>by
      rw [hn.mem_erase_iff] at hx
      have:=h x hx.2
      omega)
     omega
   · have h2:=Bo9 n l hn (fun x hx=>by
      have:=h x hx
      have:x ≠ n:=fun e=>hm (e ▸ hx)
      omega)
     omega
theorem Aq2 {l:List Nat} {i:Nat} (h:l.Nodup) (hi:i ∉ l):(l++[i]).Nodup:=by
 rw [List.nodup_append];exact ⟨h,by simp,fun x hx y hy=>by rw [List.mem_singleton.1 hy];rintro rfl;exact hi hx⟩
theorem AN7 {l:List Nat} {i n:Nat} (h:∀ x∈l,x < n) (hi:i < n):∀ x∈l++[i],x < n:=fun x hx=>by
 rcases List.mem_append.1 hx with hx | hx
 · exact h x hx
 · rw [List.mem_singleton.1 hx];exact hi
theorem Cl8 {l:List Nat} {i n:Nat} (h:l.Nodup) (h2:∀ x∈l,x < n) (hi:i < n) (h3:i ∉ l):l.length < n:=by
 have:=Bo9 n _ (Aq2 h h3) (AN7 h2 hi)
 rw [List.length_append,List.length_singleton] at this;omega
theorem Dx1 (c:Cb) (wrong:Int) (ok:Rule) (k:Nat) (ln:Ln) (l:Rc):([]:List Nat).Nodup∧(∀ i∈([]:List Nat),i < l.length)∧([]:List Nat).length=0∧Sz (accX c wrong ok k ln l []) :=
 ⟨List.nodup_nil,fun _ h=>(by cases h),rfl,fun x hx=>(by cases hx)⟩
theorem Sl.nil_of {W:World} {p:OA} {b o sz:Nat} {xs:List (LV)} (h:Sl W p b o sz xs) (hp:p=none):xs.length=0:=by
 cases xs with
 | nil=>rfl
 | cons x xs=>have:=h.at' (by simp);rw [hp] at this;cases this
end Go.Le
namespace Go.Q
open Go Go.Eng Go.Bk Go.Le Go.RowKit
abbrev PlayT (c:Cb) (wrong:Int) (ok:Rule) (n:Nat):={ z:Nat×Rc // z.2.Perm (playX c wrong ok n) }
open Classical in
theorem _root_.Go.pk3 {l m:Eng.Blks} (h:∀ x,l.count x≤m.count x:=by intro x;simp only [nC,List.map_nil,List.map_cons,markB,dfrO];omega):Eng.Pick l m:=Eng.Pick.cnt h
set_option maxHeartbeats 4000000 in
theorem Cp5 (c:CbA) (bc:Nat) (hv:cabV c.pl=true) (n:Nat) (hn:n≤c.loans.l.length) (wrong:Int) (hw:wrong≤12) (Tr:TypeId) (vr:Value) (fr:Nat) (ok:Rule) (hone:isOne (.iface Tr vr)=true)
  (hmeth:∀ w,(method (π.types.size + Made.depth) Tr vr "pairworks/lend.allows").run π w = .ok (fr,vr) w) (hent:Enters π fr)
  (hrule:∀ (i:Nat) (ln:Ln) (b:Bool) (w:World),CC fr #[vr,.I (i:Int),.agg ln.cells.toArray,.bool b] w (Pure (.bool (ok i ln b)) w))
  (W:World) (hb:W.heap[bc]? = some (cabO c)) (hC:CbOk W c) (hCC:CbC c):CC 57 #[aV bc,.I (n:Int),.I wrong,.iface Tr vr] W (News (fun z:PlayT c.pl wrong ok n=>.map (some z.1.1)) (fun z=>[(z.1.1,rcO z.1.2)]) W):=by
 have hc:=Ca7 hv;have hl5:c.homes.l.length≤5:=hc.few;have hll:c.loans.l.length≤12:=hc.lfew;have hgood:=AG6 (c:=c.pl) (wrong:=wrong) (ok:=ok) hc.slots.1 hc.few hc.hom hw;obtain ⟨f0,f1,f2,f3,f4,hf⟩:=Bx7 (CP0 (c:=c.pl) hc.few);have hfc:c.homes.l.map (Value.int .i64)++([Value.int .i64 0,.I 0,.I 0,.I 0,.I 0]:LV).drop c.homes.l.length=[Value.int .i64 f0,.I f1,.I f2,.I f3,.I f4]:=(BX4 (c:=c.pl) hc.few).trans (by rw [hf];rfl);refine Ai0 func57 rfl rfl ?_;refine csr ?_;refine Xg (Lm rfl) (fun b6=>?_)
 refine Xg (Lm rfl) (fun b7=>?_)
 refine vQ ?_;refine nsr ?_;refine Xa (Lr (parts:=[]) rfl Ay1 Cr5 rfl) ?_;refine Xg (Lp Ay1) (fun b9=>?_)
 refine sQ .here ?_;refine nnx ?_;refine Lx ?_;refine Ao2 6 Ah8 (qE (qC .nil)) ?_;refine zv 0 rfl (At1 rfl AB3) ?_;refine zv 1 rfl (Aa8 rfl) ?_;refine zv 2 rfl (Aa8 rfl) ?_;refine zv 3 rfl (Lo rfl Ap0) ?_;refine zv 4 rfl (Lo rfl Bw9) ?_;refine zv 5 rfl (Aa0 rfl hb (by simp) Bu4 rfl) ?_;refine AA8 (by kernel_rfl) ?_;refine Ja (i:=6) (by kernel_rfl) ?_;refine Cx4 (cs:=(c.homes.l.map (Value.int .i64))) (cs':=[Value.int .i64 f0,.I f1,.I f2,.I f3,.I f4]) rfl rfl rfl Af6 (by omega) (fun h=>by have:=Sl.nil_of hC.homes h;simpa using this) .here (by simp) rfl (fun w hm j v h=>by obtain ⟨ad,h1,h2⟩:=((hC.mono0 hm).homes).flat (by decide) j v (by rw [flat_ints];exact h);exact ⟨ad,h1,h2⟩) (fun v hv=>by obtain ⟨x,_,rfl⟩:=List.mem_map.1 hv;rfl) hfc rfl (Ab2 ?_)
 refine RunB.done (by kernel_rfl) ?_;refine Ae5 ?_;refine Ke ?_;refine csr ?_;refine Xg (AY8 (K:=List Int) (kv:=ka)) (fun b28=>?_)
 refine Xa (Ab5 rfl mm1 AB7 rfl) ?_;refine Xs (BP3 Ay7 (a:=[f0,f1,f2,f3,f4]) (l:=[]) rfl rfl rfl rfl (by simp) .here) ?_;refine vQ ?_;refine vQ ?_;refine nsr ?_;refine Xj (Ab8 rfl CT5) (fun w hm=>AQ2 w) (fun b31=>?_)
 refine vQ ?_;refine nnx ?_;refine Lx ?_;refine csr ?_;refine vQ ?_;refine vQ ?_;refine Xa (Lo rfl Ap0) ?_;refine Xa (Lo rfl AR3) ?_;refine Xa (Aa0 rfl hb (by simp) BS5 rfl) ?_;refine vQ ?_;refine Xa (BO8 rfl rfl Bd6 (j:=n) (by have:=hCC.le;omega) hCC.nq hCC.pl) ?_;refine Xa (Ae3 rfl Bd6) ?_;refine vQ ?_;refine nnx ?_;refine Kr ?_;refine AT0 (Ab3 _) (news':=[(b6,.cells (cellsL (.I wrong)).toArray 3),(b7,.cells (cellsL (.iface Tr vr)).toArray 215),(b31,kindsO),(b28,rcO [([f0,f1,f2,f3,f4],0)])]++([])) (.cons (.there (.there (.there (.there .here)))) rfl (.cons (.there (.there (.there .here))) rfl (.cons .here rfl (.cons .here rfl .nil)))) ?_;refine Bs6 (X:=Nat×Rc×List Nat) (fun k y=>y.2.2.map markD++[]) (n0:=[(b6,.cells (cellsL (.I wrong)).toArray 3),(b7,.cells (cellsL (.iface Tr vr)).toArray 215),(b31,kindsO)]) (n) (fun k y q=>(40,.I (k:Int))::(10,.map (some y.1))::q) (fun _ _=>_) (fun k y=>[]) (fun k y=>(y.1,rcO y.2.1)::y.2.2.map markB) (fun k y=>y.2.1.Perm (playX c.pl wrong ok k)) (b28,[([f0,f1,f2,f3,f4],0)],[]) rfl (by rw [← hf];exact List.Perm.refl _) rfl (Ae6 (t:=40) rfl rfl (Ae6 (t:=10) rfl rfl (Kg (t:=0) rfl (Kg (t:=6) rfl (Kg (t:=7) rfl (Kg (t:=11) rfl (Kg (t:=38) rfl (Kg (t:=39) rfl (Sub.nil _))))))))) pk3 ?_;intro k y kN kI;obtain ⟨m,l,ds⟩:=y;dsimp only at kI ⊢;have hgd:∀ p∈l,Gd c.pl p:=fun p hp=>hgood k p (kI.mem_iff.1 hp)
 refine csr ?_;refine vQ ?_;refine nnx ?_;refine Lx ?_;refine Ly rfl ?_ ?_
 ·intro c0
  have c0':=c0;clear c0;try simp only [nH] at c0'
  have hkn:k < n:=by omega
  have hkl:k < c.loans.l.length:=by omega
  obtain ⟨ln,hle⟩:∃ ln,c.loans.l[k]=ln:=⟨_,rfl⟩;have hlk:c.pl.loans[k]? = some ln:=by (rw [show c.pl.loans=c.loans.l from rfl,List.getElem?_eq_getElem hkl,hle])
  have hln:=hc.loans ln (hle ▸ List.getElem_mem hkl);have hkin:=Dw8 hln;refine Kd ?_;refine Ke ?_;refine Lx ?_;refine Kr ?_;refine csr ?_;refine vQ ?_;refine Xa (Aa3 rfl rfl Bd6 (by omega) (by omega) (Sl.ptrM hC.loans hkl)) ?_;refine Xa (Aa5 rfl (fun w hm=>hC.loans.loadX (by decide) hm (by simp) Bu3 hkl hle)) ?_;refine Xg (Lp Al2) (fun b12=>?_)
  refine Xg (Lp AG0) (fun b13=>?_)
  refine sQ (.there .here) ?_;refine sQ .here ?_;refine nsr ?_;refine Xg (AY8 (K:=List Int) (kv:=ka)) (fun b45=>?_)
  refine Xg (Lp Da3) (fun b14=>?_)
  refine sQ .here ?_;refine nnx ?_;refine Lx ?_;refine csr ?_;refine vQ ?_;refine Xg (AL4 Ay7 rfl (fun w hm=>hm.at mm7)) (fun b47=>?_)
  refine nnx ?_;refine Kr ?_;refine AT0 (Ab3 _) (news':=[(b45,rcO (accX c.pl wrong ok k ln l [])),(b47,itK m (rv l) []),(b14,.cells [.map (some b45)].toArray 125),(b13,lnO ln),(b12,.cells [.I (k:Int)].toArray 3),(b6,.cells (cellsL (.I wrong)).toArray 3),(b7,.cells (cellsL (.iface Tr vr)).toArray 215),(b31,kindsO),(m,rcO l)]++(ds.map markB)) (.cons (.there (.there .here)) rfl (.cons .here rfl (.cons .here rfl (.cons .here rfl (.cons .here rfl (.cons .here rfl (.cons .here rfl (.cons .here rfl (.cons .here rfl (Pick.refl _)))))))))) ?_;refine Bs6 (X:=List Nat×List Nat) (fun j q=>q.2.map markD++[]) (n0:=[(b14,.cells [.map (some b45)].toArray 125),(b13,lnO ln),(b12,.cells [.I (k:Int)].toArray 3),(b6,.cells (cellsL (.I wrong)).toArray 3),(b7,.cells (cellsL (.iface Tr vr)).toArray 215),(b31,kindsO),(m,rcO l)]) (l.length) (fun j q q=>q) (fun _ _=>_) (fun j q=>[(b45,rcO (accX c.pl wrong ok k ln l q.1)),(b47,itK m (rv l) q.1)]) (fun j q=>q.2.map markB) (fun j q=>q.1.Nodup∧(∀ i∈q.1,i < l.length)∧q.1.length=j∧Sz (accX c.pl wrong ok k ln l q.1)) ([],ds) rfl (Dx1 c.pl wrong ok k ln l) rfl (Kg (t:=0) rfl (Kg (t:=6) rfl (Kg (t:=7) rfl (Kg (t:=11) rfl (Kg (t:=12) rfl (Kg (t:=13) rfl (Kg (t:=14) rfl (Kg (t:=38) rfl (Kg (t:=39) rfl (Kg (t:=40) rfl (Kg (t:=47) rfl (Sub.nil _)))))))))))) pk3 ?_;intro j q jN jI;obtain ⟨us,dsi⟩:=q;obtain ⟨hxn,hxl,hxj,hsz⟩:=jI;dsimp only at hxn hxl hxj hsz ⊢;refine csr ?_;refine AL2 rfl (fun w hm=>hm.at mm8) (fun _=>(.there .here)) rfl (fun i48 hi48 hx48=>?_) (fun hx48=>?_)
  ·have hil:i48 < l.length:=by (rw [← Bo0];exact hi48)
   obtain ⟨p,hp⟩:∃ p,l[i48]=p:=⟨_,rfl⟩;have hg:=hgd p (hp ▸ List.getElem_mem hil);obtain ⟨s,n0⟩:=p;obtain ⟨x0,x1,x2,x3,x4,hse⟩:=Bx7 hg.len;dsimp only at hse;have hn0:=hg.ge;have hn1:=hg.le;dsimp only at hn0 hn1;refine vQ ?_;refine nnx ?_;refine Lx ?_;refine Ai9 rfl ?_;refine Kd ?_;refine Ke ?_;refine Kr ?_;refine csr ?_;refine Xa (AL1 (l:=rv l) (v:=.tuple #[.agg #[.I x0,.I x1,.I x2,.I x3,.I x4],.I n0]) rfl (fun w hm=>hm.at mm1) (fun w hm=>hm.at mm8) hi48 (by simp [rv,hp,ka,hse])) ?_;refine vQ ?_;refine vQ ?_;refine Xg (Lp Ay1) (fun b15=>?_)
   refine Xg (Lp Al2) (fun b16=>?_)
   refine sQ (.there .here) ?_;refine sQ .here ?_;refine nnx ?_;refine Lx ?_;refine Ao2 9 Ah8 (qG (qE (qC .nil))) ?_;refine zv 0 rfl (Aa8 rfl) ?_;refine zv 1 rfl (Lo rfl Av2) ?_;refine zv 2 rfl (Aa6 rfl mm5 Ae0 rfl) ?_;refine zv 3 rfl (Ab1 rfl rfl AM0 (by omega) (by omega)) ?_;refine zv 4 rfl (Lo rfl BK6) ?_;refine zv 5 rfl (Aa5 rfl (fun w hm=>Dh5 (hm.at (.tail _ (.tail _ (.tail _ (.tail _ (.tail _ (.tail _ (.tail _ (.tail _ (.tail _ (.head _))))))))))) hkin Dn4)) ?_;refine zv 6 rfl (Aa8 rfl) ?_;refine zv 7 rfl (Ab5 rfl mm1 AB7 rfl) ?_;refine zv 8 rfl (Ab5 rfl mm5 Bu3 rfl) ?_;refine AA8 (by kernel_rfl) ?_;refine Ja (i:=9) (by kernel_rfl) ?_;refine Xp [(b16,_),(b15,_),(b45,_),(b47,_),(b14,_),(b13,_),(b12,_),(b6,_),(b7,_),(b31,_),(m,_)] _ rfl rfl (Ab4 rfl rfl (CB9 ln.kind)) (fun w hm=>(by rw [show #[Value.int .i64 x0,.int .i64 x1,.int .i64 x2,.int .i64 x3,.int .i64 x4]=(s.map (Value.int .i64)).toArray from by rw [hse];rfl];exact Cn6 c bc hc s hg.len ln hln w)) (fun z62=>(Ab2 ?_))
   obtain ⟨⟨gf62,lb62,it62⟩,he62,hsq62⟩:=z62;dsimp only;refine RunB.done (by kernel_rfl) ?_;refine Ae5 ?_;refine Ke ?_;refine Kr ?_;refine AT0 (Ab3 _) (news':=[(b45,rcO (accX c.pl wrong ok k ln l us)),(b6,.cells (cellsL (.I wrong)).toArray 3),(b7,.cells (cellsL (.iface Tr vr)).toArray 215),(b12,.cells [.I (k:Int)].toArray 3),(b13,lnO ln),(b14,.cells [.map (some b45)].toArray 125),(b16,.cells [.I n0].toArray 3),(m,rcO l),(b47,itK m (rv l) (us++[i48])),(b31,kindsO)]++(it62++dsi.map markB)) (.cons (.there (.there .here)) rfl (.cons (.there (.there (.there (.there (.there (.there .here)))))) rfl (.cons (.there (.there (.there (.there (.there (.there .here)))))) rfl (.cons (.there (.there (.there (.there (.there .here))))) rfl (.cons (.there (.there (.there (.there .here)))) rfl (.cons (.there (.there (.there .here))) rfl (.cons .here rfl (.cons (.there (.there (.there .here))) rfl (.cons (.there .here) rfl (.cons (.there .here) rfl (Pick.skip (Pick.refl _)))))))))))) ?_;refine Cd4 (α:=List Int×Bool) (X:=Rc) (Y:=Nat) (encs:=encT) (fun v y q=>(17,aV y)::(18,.bool v.2)::q) (fun v y=>[(y,stO v.1)]) (fun x=>[(b45,rcO x),(b6,.cells (cellsL (.I wrong)).toArray 3),(b7,.cells (cellsL (.iface Tr vr)).toArray 215),(b12,.cells [.I (k:Int)].toArray 3),(b13,lnO ln),(b14,.cells [.map (some b45)].toArray 125),(b16,.cells [.I n0].toArray 3)]) (RndI (accX c.pl wrong ok k ln l us) wrong ok k ln n0) (fun _ _=>False) (accX c.pl wrong ok k ln l us) ⟨hsz,rfl⟩ ((m,rcO l)::(b47,itK m (rv l) (us++[i48]))::(b31,kindsO)::dsi.map markB) (Kg (t:=6) rfl (Kg (t:=7) rfl (Kg (t:=12) rfl (Kg (t:=13) rfl (Kg (t:=14) rfl (Kg (t:=16) rfl (Sub.nil _))))))) pk3 (fun _=>rfl) rfl rfl he62 ((hsq62 W hb hC)) ?_ ?_ ?_ ?_
   ·intro l D ob pre v x tl hI hsp
    obtain ⟨v1,v2⟩:=v;obtain ⟨z0,z1,z2,z3,z4,hz⟩:=Bx7 (hsp (v1,v2) (by simp));dsimp only at hz ⊢;subst hz;refine Ki ?_;refine Ab6 ?_;refine Xg (Lp Ay1) (fun b17=>?_)
    refine sQ .here ?_;refine Kf ?_;refine Kl ?_;refine Ab6 ?_;refine vQ ?_;refine Kf ?_;exact CY0 b17 (Ae6 (t:=17) rfl rfl (Ae6 (t:=18) rfl rfl (Kg (t:=6) rfl (Kg (t:=7) rfl (Kg (t:=12) rfl (Kg (t:=13) rfl (Kg (t:=14) rfl (Kg (t:=16) rfl (Sub.nil _))))))))) (qC (Pick.refl _))
   ·intro l D ob pre v y x tl hI hsp hlen
    obtain ⟨v1,v2⟩:=v;obtain ⟨z0,z1,z2,z3,z4,hz⟩:=Bx7 (hsp (v1,v2) (by simp));dsimp only at hz ⊢;subst hz;refine Km ?_;refine Ki ?_;refine Ab6 ?_;refine Xa (Aa6 rfl (.tail _ (.tail _ (.tail _ (.tail _ (.tail _ (.tail _ (.tail _ (.tail _ (.tail _ (.head _)))))))))) Ae0 rfl) ?_;refine vQ ?_;refine Kf ?_;refine Kl ?_;refine Ki ?_;refine Ki ?_;refine Ab6 ?_;refine vQ ?_;refine Kf ?_;refine Kl ?_;refine Kn rfl ?_ ?_
    ·intro c2
     have c2':=c2;clear c2;try simp only [nH] at c2'
     subst c2';refine Ab6 ?_;refine vQ ?_;refine Xa (Kb rfl rfl (Lq _ ⟨by omega,by omega⟩)) ?_;refine vQ ?_;refine Kf ?_;refine Kl ?_;refine Ki ?_;refine Ab6 ?_;refine vQ ?_;refine Xa (Aa6 rfl mm4 Ae0 rfl) ?_;refine vQ ?_;refine vQ ?_
     refine Ab0 (dj:=72) (dp:=78) 6 rfl (fun g72=>by
      refine Xa (Aa6 rfl mm5 CA4 rfl) ?_;refine Xa (Aa6 rfl mm6 Ae0 rfl) ?_;refine Xa (Ab5 rfl mm7 Bu3 rfl) ?_;refine vQ ?_;refine Xe (Ag1 rfl rfl hmeth hent) (fun w hm=>hrule k ln _ w) ?_;refine vQ ?_;exact Ac1 (Kg rfl (qU (qT (Ad2 rfl (by rw [g72]) (Ab3 _))))) (List.Sublist.refl _)
     ) (fun g72=>by
       iterate 5 refine nQ ?_
       refine vQ ?_;exact Ac1 (Kg rfl (qU (qT (Ad2 rfl (by rw [g72]) (Ab3 _))))) (List.Sublist.refl _)
     ) ?_
     refine Kf ?_;refine Kl ?_;refine Kn rfl ?_ ?_
     ·intro c3
      have c3':=c3;clear c3;try simp only [nH] at c3'
      refine Ab6 ?_;refine Xa (Aa6 rfl mm8 Cf4 rfl) ?_;refine Xa (Ab5 rfl mm0 AB7 rfl) ?_;refine vQ ?_;refine AV9 (Ab8 rfl CT4) rfl rfl rfl (.there (.there (.there .here))) (fun w hm=>BO4 b45 x hI.1 [z0,z1,z2,z3,z4] rfl _ w (hm.at mm3)) ?_;refine Kf ?_;refine Ac4 ?_;exact AC7 (addX x [z0,z1,z2,z3,z4] (n0 + 1)) (CF0 (v:=([z0,z1,z2,z3,z4],true)) (m:=n0 + 1) hI rfl (by show n0 + 1=n0 + 1;omega) c3'.1 c3'.2) pk3
     intro c3;have c3':=c3;clear c3;try simp only [nH] at c3'
     refine Ko ?_;refine Ac4 ?_;exact AC7 x (Do3 (v:=([z0,z1,z2,z3,z4],true)) (m:=n0 + 1) hI (by show n0 + 1=n0 + 1;omega) (fun h9=>c3'.elim (fun h8=>absurd h9.1 (by omega)) (fun h8=>by rw [show ok k ln true=false from h8] at h9;cases h9.2))) pk3
    intro c2;have c2':=c2;clear c2;try simp only [nH] at c2'
    subst c2';refine Ko ?_;refine Kl ?_;refine Ki ?_;refine Ab6 ?_;refine vQ ?_;refine Xa (Aa6 rfl mm4 Ae0 rfl) ?_;refine vQ ?_;refine vQ ?_
    refine Ab0 (dj:=72) (dp:=78) 6 rfl (fun g72=>by
     refine Xa (Aa6 rfl mm5 CA4 rfl) ?_;refine Xa (Aa6 rfl mm6 Ae0 rfl) ?_;refine Xa (Ab5 rfl mm7 Bu3 rfl) ?_;refine vQ ?_;refine Xe (Ag1 rfl rfl hmeth hent) (fun w hm=>hrule k ln _ w) ?_;refine vQ ?_;exact Ac1 (Kg rfl (qU (qT (Ad2 rfl (by rw [g72]) (Ab3 _))))) (List.Sublist.refl _)
    ) (fun g72=>by
      iterate 5 refine nQ ?_
      refine vQ ?_;exact Ac1 (Kg rfl (qU (qT (Ad2 rfl (by rw [g72]) (Ab3 _))))) (List.Sublist.refl _)
    ) ?_
    refine Kf ?_;refine Kl ?_;refine Kn rfl ?_ ?_
    ·intro c3
     have c3':=c3;clear c3;try simp only [nH] at c3'
     refine Ab6 ?_;refine Xa (Aa6 rfl mm8 Cf4 rfl) ?_;refine Xa (Ab5 rfl mm0 AB7 rfl) ?_;refine vQ ?_;refine AV9 (Ab8 rfl CT4) rfl rfl rfl (.there (.there (.there .here))) (fun w hm=>BO4 b45 x hI.1 [z0,z1,z2,z3,z4] rfl _ w (hm.at mm3)) ?_;refine Kf ?_;refine Ac4 ?_;exact AC7 (addX x [z0,z1,z2,z3,z4] n0) (CF0 (v:=([z0,z1,z2,z3,z4],false)) (m:=n0) hI rfl (by show n0=n0 + 0;omega) c3'.1 c3'.2) pk3
    intro c3;have c3':=c3;clear c3;try simp only [nH] at c3'
    refine Ko ?_;refine Ac4 ?_;exact AC7 x (Do3 (v:=([z0,z1,z2,z3,z4],false)) (m:=n0) hI (by show n0=n0 + 0;omega) (fun h9=>c3'.elim (fun h8=>absurd h9.1 (by omega)) (fun h8=>by rw [show ok k ln false=false from h8] at h9;cases h9.2))) pk3
   ·intro D xs x hS hI
    obtain ⟨hszx,hxe⟩:=hI;subst hS;have hx9:x=accX c.pl wrong ok k ln l (us++[i48]):=by (rw [Dm7,show l.getD i48 zE=(s,n0) from by (rw [List.getD_eq_getElem?_getD,List.getElem?_eq_getElem hil,hp];rfl)];exact hxe)
    subst hx9;refine Ac4 ?_;refine Ac4 ?_;exact Bk3 (us++[i48],D::dsi) rfl (by have:=Cl8 hxn hxl hil hx48;omega) ⟨(Aq2 hxn hx48),(AN7 hxl hil),by simp [hxj],hszx⟩ rfl (Kg (t:=0) rfl (Kg (t:=6) rfl (Kg (t:=7) rfl (Kg (t:=11) rfl (Kg (t:=12) rfl (Kg (t:=13) rfl (Kg (t:=14) rfl (Kg (t:=38) rfl (Kg (t:=39) rfl (Kg (t:=40) rfl (Kg (t:=47) rfl (Sub.nil _)))))))))))) pk3
   intro _ _ _ hst;exact hst.elim
  have hxall:∀ i,i < l.length→i∈us:=fun i hi=>hx48 i (by rw [Bo0];exact hi)
  refine vQ ?_;refine nnx ?_;refine Lx ?_;refine Ae9 rfl ?_;refine Ls ?_;refine Ac0 ?_;refine Ac0 ?_;refine Aa4 ?_;refine Ke ?_;refine Kv ?_;refine Xa (Aa6 rfl mm2 Cf4 rfl) ?_;refine vQ ?_;refine Kf ?_;refine Ac4 ?_;refine Ke ?_;refine Kv ?_;refine Xa (Kb rfl rfl (Lq _ ⟨by omega,by omega⟩)) ?_;refine vQ ?_;refine Kf ?_;exact Bk3 (b45,accX c.pl wrong ok k ln l us,dsi) rfl (by omega) (CF4 hlk kI (DI1 hxn hxl hxall)) rfl (Ae6 (t:=40) rfl rfl (Ae6 (t:=10) rfl rfl (Kg (t:=0) rfl (Kg (t:=6) rfl (Kg (t:=7) rfl (Kg (t:=11) rfl (Kg (t:=38) rfl (Kg (t:=39) rfl (Sub.nil _))))))))) pk3
 intro c0;have c0':=c0;clear c0;try simp only [nH] at c0'
 obtain rfl:k=n:=by omega
 refine Ls ?_;refine Ac0 ?_;refine Ac0 ?_;refine Aa4 ?_;refine Ke ?_;refine csr ?_;refine vQ ?_;refine vQ ?_;refine nnx ?_;refine Ks ?_;exact Ap4 ds pk3 rZ (fun w hm=>⟨⟨(m,l),kI⟩,rfl,hm⟩)
end Go.Q
namespace Go.Le
open Go Go.Eng Go.Bk Go.RowKit
def okAny:Rule:=fun _ _ _=>true
def endL (c:Cb) (ok:Rule):Rc:=playX c c.wrong ok c.loans.length
def openX (c:Cb) (valid:Bool):Except Int Unit:=if cabV c=true then (if valid=true then (if (endL c okAny).length=0 then .error 4 else .ok ()) else .error 2) else .error 1
theorem Az1 {c:Cb} {valid:Bool} {u:Unit} (h:openX c valid = .ok u):cabV c=true∧valid=true∧(endL c okAny).length ≠ 0:=by
 unfold openX at h
 split at h
 · rename_i h1
   split at h
   · rename_i h2
     split at h
     · cases h
     · rename_i h3;exact ⟨h1,h2,h3⟩
   · cases h
 · cases h
def eadd (z:Int×Int×Bool) (x:Int):Int×Int×Bool:=(min (if z.2.2 then z.1 else x) x,max (if z.2.2 then z.2.1 else x) x,true)
def endsL (l:List Int):Int×Int×Bool:=l.foldl eadd (0,0,false)
theorem CU1 (z:Int×Int×Bool) (a b:Int):eadd (eadd z a) b=eadd (eadd z b) a:=by
 obtain ⟨lo,hi,s⟩:=z
 cases s
 · simp only [eadd,if_true,Bool.false_eq_true,if_false,Prod.mk.injEq,and_true]
   omega
 · simp only [eadd,if_true,Prod.mk.injEq,and_true]
   omega
theorem CT9 {l l':List Int} (h:l.Perm l'):endsL l=endsL l':=h.foldl_eq' (fun x _ y _ z=>CU1 z x y) _
theorem CT8 (l:List Int) (x:Int):endsL (l++[x])=eadd (endsL l) x:=by simp [endsL]
def misC (c:Cb) (s:List Int) (k:Nat):Nat:=(List.range k).countP fun i=>!decide (s.getD i 0 = -1) && !decide (s.getD i 0=c.homes.getD i 0)
def misN (c:Cb) (p:List Int×Int):Int:=(misC c p.1 c.homes.length:Nat)
theorem Dp1 (c:Cb) (s:List Int) (k:Nat):misC c s (k + 1)=misC c s k + (if (!decide (s.getD k 0 = -1) && !decide (s.getD k 0=c.homes.getD k 0))=true then 1 else 0):=by
 unfold misC;rw [List.range_succ,List.countP_append,List.countP_singleton]
theorem Dw4 (c:Cb) (s:List Int) (k:Nat):misC c s k≤k:=by
 have:=List.countP_le_length (p:=fun i=>!decide (s.getD i 0 = -1) && !decide (s.getD i 0=c.homes.getD i 0)) (l:=List.range k)
 rw [List.length_range] at this;exact this
def misX (c:Cb):Int×Int×Bool:=endsL ((endL c okAny).map (misN c))
def MisX (c:Cb):(Int×Int)×Int:=match openX c true with
 | .ok _=>(((misX c).1,(misX c).2.1),0)
 | .error k=>((0,0),k)
end Go.Le
namespace Go.Q
open Go Go.Eng Go.Bk Go.Le Go.RowKit
structure RuleOk (Tr:TypeId) (vr:Value) (fr:Nat) (ok:Rule):Prop where
 meth:∀ w,(method (π.types.size + Made.depth) Tr vr "pairworks/lend.allows").run π w = .ok (fr,vr) w
 ent:Enters π fr
 calls:∀ (i:Nat) (ln:Ln) (b:Bool) (w:World),CC fr #[vr,.I (i:Int),.agg ln.cells.toArray,.bool b] w (Pure (.bool (ok i ln b)) w)
theorem Dm0:RuleOk 137 (.agg #[]) 308 okAny:=⟨As6 _,Dz1,fun i ln b w=>Cb5 i ln b w⟩
theorem CX0 (c:CbA) (bc:Nat) (hv:cabV c.pl=true) (Tr:TypeId) (vr:Value) (fr:Nat) (ok:Rule) (hr:RuleOk Tr vr fr ok) (W:World) (hb:W.heap[bc]? = some (cabO c)) (hC:CbOk W c) (hCC:CbC c):CC 53 #[aV bc,.iface Tr vr] W (News (fun z:PlayT c.pl c.pl.wrong ok c.pl.loans.length=>.map (some z.1.1)) (fun z=>[(z.1.1,rcO z.1.2)]) W):=by
 have hw:c.wrong≤12:=(Ca7 hv).wrong.2;refine cS func53 ?_;refine st ?_;refine Ab9 13 Ah8 .nil ?_;refine zv 0 rfl (Aa8 rfl) ?_;refine zv 1 rfl (Aa8 rfl) ?_;refine zv 2 rfl (Aa8 rfl) ?_;refine zv 3 rfl (Lo rfl Ap0) ?_;refine zv 4 rfl (Lo rfl AR3) ?_;refine zv 5 rfl (Aa0 rfl hb (by simp) BS5 rfl) ?_;refine zv 6 rfl (Ae3 rfl Bd6) ?_;refine zv 7 rfl (Aa8 rfl) ?_;refine zv 8 rfl (Aa8 rfl) ?_;refine zv 9 rfl (Lo rfl Ap0) ?_;refine zv 10 rfl (Lo rfl Ci5) ?_;refine zv 11 rfl (Aa0 rfl hb (by simp) Ae0 rfl) ?_;refine zv 12 rfl (Aa8 rfl) ?_;refine zt ?_;refine zB 13 ?_;refine Xk rfl (zF rfl DR4) (fun w hm=>Cp5 c bc hv c.loans.l.length (Nat.le_refl _) c.wrong hw Tr vr fr ok rfl hr.meth hr.ent hr.calls w (hm.old_at hb (by simp)) (hC.mono0 hm) hCC) (fun b18=>(Ab2 ?_))
 refine zp 14 ?_;refine zd ?_;refine su ?_;exact Ld (chg:=[]) rZ (fun _ hm=>⟨b18,rfl,hm⟩)
abbrev OpenT (c:Cb):={ z:Nat×Nat×Rc // z.2.2.Perm (endL c okAny) }
theorem AY2 (v:Value) (W:World):CC 52 #[v] W (Pure (.bool true) W):=by
 refine cS func52 ?_;refine su ?_;exact rP
theorem Az5 (c:CbA) (hC0:CbS c) (hCC:CbC c) (gf:FuncId) (cap:Array Value) (valid:Bool) (he:Enters π gf) (W:World) (hC:CbOk W c)
  (hval:∀ b news w,Mem W [] news w→w.heap[b]? = some (cabO c)→cabV c.pl=true→CC gf ([(aV b:Value)]++cap.toList).toArray w (Pure (.bool valid) w)) :
  CC 51 #[c.v,.func (.func gf) #[] cap] W (TryB lmis (openX c.pl valid) (fun z:OpenT c.pl=>.tuple #[aV z.1.1,.map (some z.1.2.1)]) (fun z=>[(z.1.1,cabO c),(z.1.2.1,rcO z.1.2.2)]) W):=by
 refine cS func51 ?_;refine st ?_;refine zn (Lm rfl) (fun b2=>?_)
 refine Xm (zF rfl Dq0) (fun w hm=>Bf2 c w (hC.mono0 hm) hC0) (fun e9 he9=>?_) (fun a9 ha9 b9=>?_)
 ·obtain ⟨hcv,rfl⟩:=CH3 he9
  refine Aa1 ?_;exact AI7 (by unfold openX;rw [if_neg (by simp [hcv])])
 have hcv:=Df1 ha9;refine st ?_;refine Xe (Ab4 rfl rfl he) (fun w hm=>hval b9 _ w hm (hm.at mm0) hcv) ?_;refine Xh (zF rfl BZ7) (fun w hm=>AH1 _ _ w) (fun e13 he13=>?_) (fun v13 hv13=>?_)
 ·obtain ⟨er13,rfl⟩:=Ac9 he13
  refine Aa1 ?_;exact AI7 (by unfold openX;rw [if_pos hcv,if_neg (by simp [er13])])
 obtain ⟨ok13,rfl⟩:=Ad9 hv13;refine st ?_;refine lv (Lr (parts:=[]) rfl Da1 Cr6 rfl) ?_;refine lv (Lz rfl Dg3) ?_;refine Xj (zF rfl DR5) (fun w hm=>CX0 c b9 hcv _ _ _ okAny Dm0 w (hm.at mm0) (hC.mono0 hm) hCC) (fun b17=>?_)
 refine st ?_;refine lv (BP2 Ay7 rfl (fun w hm=>hm.at mm0)) ?_;refine Xh (zF rfl BZ7) (fun w hm=>AH1 _ _ w) (fun e21 he21=>?_) (fun v21 hv21=>?_)
 ·obtain ⟨er21,rfl⟩:=Ac9 he21
  refine Aa1 ?_;exact AI7 (by unfold openX;rw [if_pos hcv,if_pos ok13,if_pos (by have h9:=b17.2.length_eq;have h8:=Bo0 b17.1.2;have h7:¬ (0 < (rv b17.1.2).length):=(by simpa using er21);rw [show (endL c.pl okAny).length=_ from h9.symm];omega)])
 obtain ⟨ok21,rfl⟩:=Ad9 hv21;refine su ?_;exact Cx7 (a:=()) (⟨(b9,b17.1.1,b17.1.2),b17.2⟩:OpenT c.pl) (.r2 rfl (.tmp rfl) (.tmp rfl)) (by unfold openX;rw [if_pos hcv,if_pos ok13,if_neg (by have h9:=b17.2.length_eq;have h8:=Bo0 b17.1.2;have h7:0 < (rv b17.1.2).length:=(by simpa using ok21);rw [show (endL c.pl okAny).length=_ from h9.symm];omega)]) rfl (qD (qC .nil))
theorem As7 (b:Nat) (W:World):CC 50 #[.nilIface,.pointer (some ⟨b,0,none⟩)] W (Pure (.tuple #[]) W):=by
 refine cS func50 ?_;refine st ?_;refine lv (Ax6 rfl AL8) ?_;refine Ly rfl ?_ (fun h=>absurd h (by simp))
 intro c0;clear c0;refine su ?_;exact Aa9 (.r0 rfl) (by first | rfl | simp)
theorem As8 (b:Nat) (k:Int) (x:Value) (W:World) (hb:W.heap[b]? = some (.cells #[x] 49 (0,0))):CC 50 #[lmis k,.pointer (some ⟨b,0,none⟩)] W (Turns b (.cells #[.I k] 49 (0,0)) (.tuple #[]) W):=by
 refine Af9 hb func50 rfl rfl ?_;refine st ?_;refine lv (Aq7 rfl AL8) ?_;refine Ly rfl (fun h=>absurd h (by simp)) ?_;intro c0;clear c0;refine st ?_;refine lv (Al8 rfl Ch3) ?_;refine zn (Lp Ce0) (fun b4=>?_)
 refine sQ .here ?_;refine st ?_;refine Ly rfl (fun h=>absurd h (by simp)) ?_;intro c1;clear c1;refine su ?_;refine Xs (Ab7 rfl rfl .here Af8 rfl rfl) ?_;refine st ?_;exact Ak2 (chg:=[(b,_)]) (.r0 rfl) (fun _ hm=>⟨rfl,hm.drop⟩)
theorem BW2 (b:Nat) (z:Int×Int×Bool) (x:Int) (W:World) (hb:W.heap[b]? = some (.cells [Value.int .i64 z.1,.I z.2.1,.bool z.2.2].toArray 227)):CC 126 #[aV b,.I x] W (Turns b (.cells [Value.int .i64 (eadd z x).1,.I (eadd z x).2.1,.bool (eadd z x).2.2].toArray 227) (.tuple #[]) W):=by
 obtain ⟨lo,hi,s⟩:=z;obtain ⟨sv,hsv⟩:∃ sv,sv=s:=⟨_,rfl⟩;refine Af9 hb func126 rfl rfl ?_;refine su ?_;refine cn rfl ?_ ?_
 ·intro c0'
  obtain rfl:s=false:=by simpa using c0'
  refine su ?_;refine Xs (Ab7 rfl rfl .here Ae0 rfl rfl) ?_;refine su ?_;refine Xs (Ab7 rfl rfl .here Ae0 rfl rfl) ?_;refine su ?_;refine Xs (Ab7 rfl rfl .here Cm9 rfl rfl) ?_;refine st ?_;refine Bk9 (X:=Unit) 17 (n0:=[]) (fun u q=>q) (fun u=>[(b,.cells [Value.int .i64 (eadd (lo,hi,sv) x).1,.I (eadd (lo,hi,sv) x).2.1,.bool (eadd (lo,hi,sv) x).2.2].toArray 227)]) (fun u=>[]) (fun u=>[]) (fun u=>True) Ah8 .nil (Sub.nil _) .nil ?_ ?_
  ·refine Xv (i:=0) rfl (fun c hck=>(Aa8 rfl)) (fun _ _ _ h=>h) .nil ?_
   refine Xv (i:=1) rfl (fun c hck=>(Aa8 rfl)) (fun _ _ _ h=>h) .nil ?_;refine Xv (i:=2) rfl (fun c hck=>(Aa8 rfl)) (fun _ _ _ h=>h) .nil ?_;refine Xv (i:=3) rfl (fun c hck=>(Aa8 rfl)) (fun _ _ _ h=>h) .nil ?_;refine Xv (i:=4) rfl (fun c hck=>(Lo rfl At0)) (fun _ _ _ h=>h) .nil ?_;refine Xv (i:=6) rfl (fun c hck=>(Aa8 rfl)) (fun _ _ _ h=>h) .nil ?_;refine Xv (i:=8) rfl (fun c hck=>(Aa8 rfl)) (fun _ _ _ h=>h) .nil ?_;refine Xv (i:=9) rfl (fun c hck=>(Aa8 rfl)) (fun _ _ _ h=>h) .nil ?_;refine Xv (i:=10) rfl (fun c hck=>(Lo rfl AR4)) (fun _ _ _ h=>h) .nil ?_;refine Xv (i:=12) rfl (fun c hck=>(Aa8 rfl)) (fun _ _ _ h=>h) .nil ?_;refine Af7 (rs:=[5,11]) (by kernel_rfl) (by simp) (by kernel_rfl) (fun m hm=>?_)
   simp only [List.mem_cons,List.not_mem_nil,or_false] at hm
   rcases hm with rfl | rfl
   ·refine Xc rfl (Aa6 rfl mm0 Ae0 rfl) (Aa2 .nil .nil rfl ?_)
    refine Xv (i:=7) rfl (fun c hck=>(Val.min rfl rfl)) (fun _ _ _ h=>h) .nil ?_;refine zA 11 ?_;refine Xc rfl (Aa6 rfl mm0 Ae0 rfl) (Aa2 .nil .nil rfl ?_)
    refine Xv (i:=13) rfl (fun c hck=>(Val.max rfl rfl)) (fun _ _ _ h=>h) .nil ?_;refine Xv (i:=14) rfl (fun c hck=>(Aa8 rfl)) (fun _ _ _ h=>h) .nil ?_;refine Xv (i:=15) rfl (fun c hck=>(Lo rfl At0)) (fun _ _ _ h=>h) .nil ?_;refine zA 16 ?_;refine Xr rfl (Ab7 rfl rfl .here Ae0 rfl rfl) (Aa2 .nil .nil rfl ?_)
    refine zt ?_;refine zp 17 ?_;refine zp 18 ?_;refine zB 19 ?_;refine Xr rfl (Ab7 rfl rfl .here Ae0 rfl rfl) (Ab2 ?_)
    refine zd ?_;subst hsv;exact Af4 () trivial rfl (Sub.nil _) .nil
   refine Xc rfl (Aa6 rfl mm0 Ae0 rfl) (Aa2 .nil .nil rfl ?_)
   refine Xv (i:=13) rfl (fun c hck=>(Val.max rfl rfl)) (fun _ _ _ h=>h) .nil ?_;refine zA 5 ?_;refine Xc rfl (Aa6 rfl mm0 Ae0 rfl) (Aa2 .nil .nil rfl ?_)
   refine Xv (i:=7) rfl (fun c hck=>(Val.min rfl rfl)) (fun _ _ _ h=>h) .nil ?_;refine Xv (i:=14) rfl (fun c hck=>(Aa8 rfl)) (fun _ _ _ h=>h) .nil ?_;refine Xv (i:=15) rfl (fun c hck=>(Lo rfl At0)) (fun _ _ _ h=>h) .nil ?_;refine zA 16 ?_;refine Xr rfl (Ab7 rfl rfl .here Ae0 rfl rfl) (Aa2 .nil .nil rfl ?_)
   refine zt ?_;refine zp 17 ?_;refine zp 18 ?_;refine zB 19 ?_;refine Xr rfl (Ab7 rfl rfl .here Ae0 rfl rfl) (Ab2 ?_)
   refine zd ?_;subst hsv;exact Af4 () trivial rfl (Sub.nil _) .nil
  intro u uI;subst hsv;exact Ak2 (chg:=[(b,_)]) (.r0 rfl) (fun _ hm=>⟨rfl,hm.drop⟩)
 intro c0';obtain rfl:s=true:=by simpa using c0'
 refine st ?_;refine Bk9 (X:=Unit) 17 (n0:=[]) (fun u q=>q) (fun u=>[(b,.cells [Value.int .i64 (eadd (lo,hi,sv) x).1,.I (eadd (lo,hi,sv) x).2.1,.bool (eadd (lo,hi,sv) x).2.2].toArray 227)]) (fun u=>[]) (fun u=>[]) (fun u=>True) Ah8 .nil (Sub.nil _) .nil ?_ ?_
 ·refine Xv (i:=0) rfl (fun c hck=>(Aa8 rfl)) (fun _ _ _ h=>h) .nil ?_
  refine Xv (i:=1) rfl (fun c hck=>(Aa8 rfl)) (fun _ _ _ h=>h) .nil ?_;refine Xv (i:=2) rfl (fun c hck=>(Aa8 rfl)) (fun _ _ _ h=>h) .nil ?_;refine Xv (i:=3) rfl (fun c hck=>(Aa8 rfl)) (fun _ _ _ h=>h) .nil ?_;refine Xv (i:=4) rfl (fun c hck=>(Lo rfl At0)) (fun _ _ _ h=>h) .nil ?_;refine Xv (i:=6) rfl (fun c hck=>(Aa8 rfl)) (fun _ _ _ h=>h) .nil ?_;refine Xv (i:=8) rfl (fun c hck=>(Aa8 rfl)) (fun _ _ _ h=>h) .nil ?_;refine Xv (i:=9) rfl (fun c hck=>(Aa8 rfl)) (fun _ _ _ h=>h) .nil ?_;refine Xv (i:=10) rfl (fun c hck=>(Lo rfl AR4)) (fun _ _ _ h=>h) .nil ?_;refine Xv (i:=12) rfl (fun c hck=>(Aa8 rfl)) (fun _ _ _ h=>h) .nil ?_;refine Af7 (rs:=[5,11]) (by kernel_rfl) (by simp) (by kernel_rfl) (fun m hm=>?_)
  simp only [List.mem_cons,List.not_mem_nil,or_false] at hm
  rcases hm with rfl | rfl
  ·refine Xc rfl (Aa6 rfl mm0 Ae0 rfl) (Aa2 .nil .nil rfl ?_)
   refine Xv (i:=7) rfl (fun c hck=>(Val.min rfl rfl)) (fun _ _ _ h=>h) .nil ?_;refine zA 11 ?_;refine Xc rfl (Aa6 rfl mm0 Ae0 rfl) (Aa2 .nil .nil rfl ?_)
   refine Xv (i:=13) rfl (fun c hck=>(Val.max rfl rfl)) (fun _ _ _ h=>h) .nil ?_;refine Xv (i:=14) rfl (fun c hck=>(Aa8 rfl)) (fun _ _ _ h=>h) .nil ?_;refine Xv (i:=15) rfl (fun c hck=>(Lo rfl At0)) (fun _ _ _ h=>h) .nil ?_;refine zA 16 ?_;refine Xr rfl (Ab7 rfl rfl .here Ae0 rfl rfl) (Aa2 .nil .nil rfl ?_)
   refine zt ?_;refine zp 17 ?_;refine zp 18 ?_;refine zB 19 ?_;refine Xr rfl (Ab7 rfl rfl .here Ae0 rfl rfl) (Ab2 ?_)
   refine zd ?_;subst hsv;exact Af4 () trivial rfl (Sub.nil _) .nil
  refine Xc rfl (Aa6 rfl mm0 Ae0 rfl) (Aa2 .nil .nil rfl ?_)
  refine Xv (i:=13) rfl (fun c hck=>(Val.max rfl rfl)) (fun _ _ _ h=>h) .nil ?_;refine zA 5 ?_;refine Xc rfl (Aa6 rfl mm0 Ae0 rfl) (Aa2 .nil .nil rfl ?_)
  refine Xv (i:=7) rfl (fun c hck=>(Val.min rfl rfl)) (fun _ _ _ h=>h) .nil ?_;refine Xv (i:=14) rfl (fun c hck=>(Aa8 rfl)) (fun _ _ _ h=>h) .nil ?_;refine Xv (i:=15) rfl (fun c hck=>(Lo rfl At0)) (fun _ _ _ h=>h) .nil ?_;refine zA 16 ?_;refine Xr rfl (Ab7 rfl rfl .here Ae0 rfl rfl) (Aa2 .nil .nil rfl ?_)
  refine zt ?_;refine zp 17 ?_;refine zp 18 ?_;refine zB 19 ?_;refine Xr rfl (Ab7 rfl rfl .here Ae0 rfl rfl) (Ab2 ?_)
  refine zd ?_;subst hsv;exact Af4 () trivial rfl (Sub.nil _) .nil
 intro u uI;subst hsv;exact Ak2 (chg:=[(b,_)]) (.r0 rfl) (fun _ hm=>⟨rfl,hm.drop⟩)
end Go.Q
