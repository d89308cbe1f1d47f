/- Walks of package book: strings.Builder, whose writing is told of in the caller's words. -/
import Derived.Test.YtmkdbdbenfbkhaaGreatDoorY02
import Derived.Lib.SplitLaws
set_option linter.unusedSimpArgs false
set_option linter.unusedVariables false
set_option linter.unusedSectionVars false
namespace Go.Bk
open Go Go.Eng Go.RowKit
def BuP (b:Nat) (p:Value):Prop:=p = .pointer none∨p = .pointer (some ⟨b,0,none⟩)
def buS (b:Nat):Value:=.pointer (some ⟨b,0,none⟩)
end Go.Bk
namespace Go.Proofs.YtmkdbdbenfbkhaaGreatDoor
open Go Go.Eng Go.Bk Go.RowKit

abbrev buO (p:Value) (x:Eng.Own) (n:Nat):Obj:=.cells [p,ownV x n].toArray 175 (0,0)
abbrev buB (b:Nat) (p:Value) (x:Eng.Own) (l:Str) (tl:Blks):Blks:=(b,buO p x l.length)::(ownB 5 x (byc l)++tl)
theorem AR4 (b:Nat) (p v:Value) (rest:Blks) (W0 w:World) (hm0:Mem W0 [] ((b,.cells [p,v].toArray 175 (0,0))::(rest++[])) w) (hp:BuP b p) :
    Calls Tryz.prog 154 #[.pointer (some ⟨b,0,none⟩)] w (Grow W0 [] (fun _:Unit=>.tuple #[]) (fun _=>(b,.cells [buS b,v].toArray 175 (0,0))::(rest++[])) (fun _=>True)):=by
  obtain ⟨j,hj,hjs⟩:=Option.map_eq_some_iff.1 (show (Tryz.prog.info? 175).map (·.size)=some 2 by kernel_rfl);have hj0:j.size ≠ 0:=by rw [hjs];decide
  rcases hp with rfl | rfl
  · refine Af0 hm0 Tryz.func154 rfl rfl ?_
    refine su ?_;refine lv (AF5 rfl (t:=175) (by kernel_rfl)) ?_;refine RunC.cond rfl ?_ (fun h=>absurd h (by simp))
    intro c0;clear c0;refine st ?_;refine lv (Bs5 rfl (List.mem_append_right _ (.head _)) (t:=175) (by kernel_rfl) (by kernel_rfl) hj hj0 (by simp)) ?_;refine lv (CH3 Tryz.func218 (by kernel_rfl) (by kernel_rfl) (by kernel_rfl) (e:=Extern.AbiNoEscape.same) (by kernel_rfl) rfl (fun w=>rfl)) ?_;refine lu (AV0 rfl (List.mem_append_right _ (.head _)) (t:=175) (by kernel_rfl) (by kernel_rfl) hj (by kernel_rfl)) ?_;refine Ab4 (Sto.store rfl rfl .here Cs3 rfl rfl) rfl rfl ?_;refine st ?_;exact Ax8 () trivial (.r0 rfl) rfl (.cons .here rfl (Pick.refl _))
  · refine Af0 hm0 Tryz.func154 rfl rfl ?_
    refine su ?_;refine lv (AF5 rfl (t:=175) (by kernel_rfl)) ?_;refine RunC.cond rfl (fun h=>absurd h (by simp)) ?_;intro c0;clear c0;refine su ?_;refine lv (BB2 rfl rfl (t:=175) (by kernel_rfl) hj) ?_;refine RunC.cond rfl (fun h=>absurd h (by simp)) ?_;intro c1;clear c1;refine st ?_;exact Ax8 () trivial (.r0 rfl) rfl (.cons .here rfl (Pick.refl _))
theorem AK7 (b:Nat) (p v:Value) (tl:Blks) (W0 w:World) (hm0:Mem W0 [] ((b,.cells [p,v].toArray 175 (0,0))::tl) w) (hp:BuP b p) :
    Calls Tryz.prog 154 #[.pointer (some ⟨b,0,none⟩)] w (Grow W0 [] (fun _:Unit=>.tuple #[]) (fun _=>(b,.cells [buS b,v].toArray 175 (0,0))::tl) (fun _=>True)):=by
  have h:=AR4 b p v tl W0 w (by rw [List.append_nil];exact hm0) hp;simp only [List.append_nil] at h;exact h
theorem AJ8 (b:Nat) (p:Value) (x:Eng.Own) (l s:Str) (rest:Blks) (W0 w:World) (hm0:Mem W0 [] (buB b p x l (rest++[])) w) (hp:BuP b p) (hx:OwnOk 1 x l.length (byc l)) (hb:l.length + s.length≤140737488355328) :
    Calls Tryz.prog 86 #[.pointer (some ⟨b,0,none⟩),.string (bs s)] w (Grow W0 [] (fun _:Eng.Own=>.tuple #[.int .i64 (s.length:Int),.nilIface]) (fun y=>buB b (buS b) y (l++s) (rest++[])) (fun y=>OwnOk 1 y (l++s).length (byc (l++s)))):=by
  refine Af0 hm0 Tryz.func86 rfl rfl ?_;refine st ?_;refine Ag7 (zF rfl CE5) rfl rfl rfl (fun w hm=>(AK7 b p (ownV x l.length) (ownB 5 x (byc l)++(rest++[])) W0 w hm hp)) (fun z7 hz7=>?_)
  
  refine su ?_;refine Bt7 (A:=[(b,_)]) (B:=_) (x:=x) (ys:=s) Cq5 rfl rfl rfl hx (by omega) rfl (fun z14 hz14=>?_)
  refine su ?_;refine Ab4 (An1 rfl rfl .here Cj1 rfl rfl) rfl rfl ?_;refine st ?_;refine lu (AM2 rfl Bi6) ?_;exact Au5 z14 (by rw [List.length_append,Bf9];exact hz14) (.r2 rfl (.tmp rfl) (.tmp rfl)) rfl (by simp only [buB,List.length_append,Bf9];exact (.cons .here rfl (Pick.refl _)))
theorem Ao9 {β:Type} {P:Program} {f:FuncId} {args:Array Value} {W0 w:World} {chg:Blks} {v:β→Value} {nw nw':β→Blks} {I:β→Prop} (h:Calls P f args w (Grow W0 chg v nw I)) (hp:∀ b,Pick (nw' b) (nw b)):Calls P f args w (Grow W0 chg v nw' I) :=
  Af8 h (by rintro e w' ⟨b,h1,h2,h3⟩;exact ⟨b,h1,h2,h3.pick (hp b)⟩)
theorem BV7 {W0 w w':World} {news:Blks} (h:Mem W0 [] news w) (hb:Below W0.heap.size w w'):Mem W0 [] [] w' :=
  ⟨hb.os.trans h.os,hb.tape.trans h.tape,hb.output.trans h.output,Nat.le_trans h.size hb.size,fun k hk _=>(hb.block k hk).trans (h.old k hk (by simp)),fun _ _ h=>(by cases h),fun _ _ h=>(by cases h),by simp⟩
theorem Bg1 (b:Nat) (p:Value) (x:Eng.Own) (l:Str) (tl:Blks) (W0 w:World) (hm0:Mem W0 [] (buB b p x l tl) w) (hp:BuP b p) (hx:OwnOk 1 x l.length (byc l)) :
    Calls Tryz.prog 88 #[.pointer (some ⟨b,0,none⟩)] w (Grow W0 [] (fun _:Unit=>.string (bs l)) (fun _=>[]) (fun _=>True)):=by
  have h1:=hm0.newd b (buO p x l.length) (.head _);have hown:w.ownsRow W0.heap.size 5 1 (ownV x l.length) l.length (byc l):=hx.owns (fun b' o hb=>hm0.newd b' o (.tail _ (List.mem_append_left _ hb)))
  have hne:(ownV x l.length).ownBlock ≠ some b:=by
    have h2:=hm0.once
    match x,h2 with
    | none,_=>intro h;cases h
    | some (b',c,r),h2 =>
      intro h;have e:b'=b:=Option.some.inj h;subst e;simp [ownB] at h2
  have hB:Lib.BuilderAt 175 5 W0.heap.size b p (Lib.byteCells l) w:=⟨h1.1,_,h1.2,by rw [show (Lib.byteCells l).length=l.length by simp [Lib.byteCells]];exact hown,hne⟩;refine Af8 (Tryz.Builder_String_any W0.heap.size b l w (by rcases hp with rfl | rfl;exact .inl hB;exact .inr hB) hm0.size) ?_
  rintro e w' ⟨rfl,hb⟩
  exact ⟨(),trivial,rfl,BV7 hm0 hb⟩
theorem Ag2 (ps:List Part) (ws:List Str) (hws:(ps.map Part.words).flatten=ws) (b:Nat) (w:World) (hL:Lw Tryz.prog w) (hb:w.heap[b]? = some (.cells ((ps.map fun p=>[p.v]).flatten).toArray 20 (0,0))) (hps:ps.length≤100) (hok:∀ p∈ps,p.ok w) (hN:ws.length≤20000) :
    Calls Tryz.prog 87 #[.slice (some ⟨b,0,none⟩) ps.length ps.length] w (Pure (.string (bs (lineS ws))) w):=by
  rw [← hws] at hN ⊢;exact BL9 ps (some ⟨b,0,none⟩) b 0 ps.length w hL (Sl.rowsR (t:=[]) (by rw [List.append_nil];exact hb) (by simp)) hps hok hN
theorem BN4 (word:Str) (s:SA Sp) (b:Nat) (p:Value) (x:Eng.Own) (l:Str) (rest:Blks) (W0 w:World) (hL:Lw Tryz.prog W0) (hm0:Mem W0 [] (buB b p x l (rest++[])) w) (hp:BuP b p) (hx:OwnOk 1 x l.length (byc l)) (hw:word.length≤40) (hs:(Part.sps s).ok W0) (hb:l.length + (rowS word s.l).length≤140737488355328) :
    Calls Tryz.prog 85 #[.string (bs word),s.v,.pointer (some ⟨b,0,none⟩)] w (Grow W0 [] (fun _:Eng.Own=>.tuple #[]) (fun y=>buB b (buS b) y (l++rowS word s.l) (rest++[])) (fun y=>OwnOk 1 y (l++rowS word s.l).length (byc (l++rowS word s.l)))):=by
  have hwl:(word::s.l.map spS).length≤20000:=by
    have:=hs.2.1
    simp only [List.length_cons,List.length_map];omega
  refine Af0 hm0 Tryz.func85 rfl rfl ?_;refine st ?_;refine lv (Val.makeInterface rfl Aw3) ?_;refine lv (Val.makeInterface rfl Cy6) ?_;refine zn (New.buildSlice (parts:=[(0,.tmp 6),(1,.tmp 8)]) rfl Aq2 An3 rfl rfl rfl rfl) (fun b9=>?_)
  refine zc (zF rfl As1) (fun w hm=>(Ag2 [Part.s word,Part.sps s] (word::s.l.map spS) (by simp [Part.words]) b9 w (hL.mono hm) (hm.at (.head _)) (by simp) (by intro p hp;simp only [List.mem_cons,List.not_mem_nil,or_false] at hp;rcases hp with rfl | rfl;exact hw;exact hs.mono0 hm) hwl)) ?_;refine Ag7 (zF rfl Cu1) rfl rfl rfl (fun w hm=>(AJ8 b p x l (rowS word s.l) rest W0 w (hm.pick (Pick.cnt fun x=>by simp only [nC];omega)) hp hx hb)) (fun z11 hz11=>?_)
  
  refine st ?_;exact Ax8 z11 hz11 (.r0 rfl) rfl (.cons .here rfl (Pick.refl _))
end Go.Proofs.YtmkdbdbenfbkhaaGreatDoor
namespace Go.Proofs.YtmkdbdbenfbkhaaGreatDoor
open Go Go.Eng
theorem BG7:Enters Tryz.prog 85:=Aa3 Tryz.func85 (by kernel_rfl) rfl
theorem CL4:Enters Tryz.prog 88:=Aa3 Tryz.func88 (by kernel_rfl) rfl
theorem Ar6:(Tryz.prog.underlying 3).any (fun t=>match t with | .interface _=>false | _=>true)=true:=by kernel_rfl
theorem Ch7:zeroB Tryz.prog 175=some [.pointer none,.slice none 0 0]:=by kernel_rfl
end Go.Proofs.YtmkdbdbenfbkhaaGreatDoor
namespace Go.Bk
open Go Go.Eng Go.RowKit
theorem Ap4 {ws:List Str} (h:∀ x∈ws,x.length≤50):(lineS ws).length≤ws.length * 51 + 1:=by
  have h1:=Bx3 (sep:=[32]) h;unfold lineS;rw [List.length_append];simp only [nl,List.length_singleton] at h1 ⊢;omega
theorem AL3 {W:World} {word:Str} {s:SA Sp} (hw:word.length≤40) (hs:(Part.sps s).ok W):(rowS word s.l).length≤(s.l.length + 1) * 51 + 1:=by
  have h:=Ap4 (ws:=word::s.l.map spS) (fun x hx=>by
    rcases List.mem_cons.1 hx with rfl | hx
    · omega
    · exact Bi3 hs x hx)
  unfold rowS;simpa using h
theorem CT1 {s:Sp} {h:Int} (hs:spanX s h=true) (hh:h≤9223372036854775807):In64 s.lo∧In64 s.hi:=by
  simp only [spanX,Bool.and_eq_true,decide_eq_true_eq] at hs;unfold In64;omega
structure TrV (t:TrA):Prop where
  dawn:In64 t.dawn
  ways:t.ways.l.length≤6
  all:∀ x∈t.all,x.l.length≤6∧∀ s∈x.l,In64 s.lo∧In64 s.hi
theorem Cs5 {t:TrA} (h:tourX t.pl=true):TrV t:=by
  unfold tourX at h;rw [BD9] at h;simp only [Bool.and_eq_true,decide_eq_true_eq,within,Bool.not_eq_true',List.any_eq_false,badRow,Bool.or_eq_true,not_or,badSp,Bool.not_eq_false] at h;obtain ⟨⟨⟨h1,h2⟩,h3⟩,h4⟩:=h;have e1:t.pl.fr.length=t.fr.l.length:=rfl;have e2:t.pl.ways.length=t.ways.l.length:=by simp [TrA.pl]
  have e3:t.pl.dawn=t.dawn:=rfl;rw [e1] at h1 h2 h4;rw [e2] at h2;rw [e3] at h3;refine ⟨by unfold In64;omega,by omega,fun x hx=>?_⟩
  obtain ⟨h5,h6⟩:=h4 x hx;have h5':x.l.length=t.fr.l.length:=by first | exact h5 | simpa using h5
  refine ⟨by omega,fun s hs=>CT1 (h:=1440) ?_ (by decide)⟩
  first | exact h6 s hs | (simp [badSp] at h6;exact h6 s hs)
theorem TrV.part {W:World} {t:TrA} (h:TrV t) (hT:TrOk W t) {x:SA Sp} (hx:x∈t.all):(Part.sps x).ok W:=⟨hT.all x hx,by have:=(h.all x hx).1;omega,(h.all x hx).2⟩
theorem BI0 (t:TrA):t.fr∈t.all:=by simp [TrA.all]
theorem AM1 (t:TrA):t.stay∈t.all:=by simp [TrA.all]
theorem Br9 (t:TrA):t.light∈t.all:=by simp [TrA.all]
theorem BA9 {t:TrA} {x:SA Sp} (h:x∈t.ways.l):x∈t.all:=by simp [TrA.all,h]
def tT (t:TrA) (k:Nat):Str:=lineS [wTour,Lib.itoa t.dawn]++rowS wFrom t.fr.l++((t.ways.l.take k).map fun s=>rowS wWays s.l).flatten
theorem CP2 {t:TrA} {k:Nat} (hk:k < t.ways.l.length) {x:SA Sp} (hx:t.ways.l[k]=x):tT t (k + 1)=tT t k++rowS wWays x.l:=by
  unfold tT;rw [List.take_succ_eq_append_getElem hk,List.map_append,List.flatten_append,hx];simp
theorem BQ8 (t:TrA):tourS t.pl=tT t t.ways.l.length++rowS wStay t.stay.l++rowS wLight t.light.l:=by
  unfold tT tourS;rw [List.take_length];simp [TrA.pl,List.map_map,Function.comp_def]
theorem Cs6 {W:World} {t:TrA} (h:TrV t) (hT:TrOk W t):∀ {k:Nat},k≤t.ways.l.length→(tT t k).length≤1000 + 400 * k
  | 0,_=>by
    have h1:=Ap4 (ws:=[wTour,Lib.itoa t.dawn]) (fun x hx=>by
      simp only [List.mem_cons,List.not_mem_nil,or_false] at hx
      rcases hx with rfl | rfl
      · decide
      · exact Nat.le_trans (Aq7 h.dawn) (by decide))
    have h2:=AL3 (word:=wFrom) (by decide) (h.part hT (BI0 t));have h3:=(h.all _ (BI0 t)).1;unfold tT;simp only [List.take_zero,List.map_nil,List.flatten_nil,List.append_nil,List.length_append];simp only [List.length_cons,List.length_nil] at h1;omega
  | k + 1,hk=>by
    have hk':k < t.ways.l.length:=by omega
    have hm:=BA9 (List.getElem_mem hk');have h2:=AL3 (word:=wWays) (by decide) (h.part hT hm);have h3:=(h.all _ hm).1;rw [CP2 hk' rfl,List.length_append]
    have:=Cs6 h hT (k:=k) (by omega)
    omega
end Go.Bk
namespace Go.Proofs.YtmkdbdbenfbkhaaGreatDoor
open Go Go.Eng Go.Bk Go.RowKit

abbrev trO (t:TrA):Obj:=.cells t.cells.toArray 25 (0,0)
abbrev tM (t:TrA) (b3 b1:Nat) (y:Eng.Own) (l:Str):Blks:=(b3,buO (buS b3) y l.length)::(b1,trO t)::(ownB 5 y (byc l)++[])
theorem Bg0 (b:Nat) (s:Str) (tl:Blks) (W0 w:World) (hm0:Mem W0 [] ((b,.cells [.pointer none,.slice none 0 0].toArray 175 (0,0))::tl) w) (hb:s.length≤140737488355328) :
    Calls Tryz.prog 86 #[.pointer (some ⟨b,0,none⟩),.string (bs s)] w (Grow W0 [] (fun _:Eng.Own=>.tuple #[.int .i64 (s.length:Int),.nilIface]) (fun y=>buB b (buS b) y s tl) (fun y=>OwnOk 1 y s.length (byc s))):=by
  have h:=AJ8 b (.pointer none) none [] s tl W0 w (by rw [List.append_nil];exact hm0) (.inl rfl) OwnOk.start (by simpa using hb);simp only [List.append_nil,List.nil_append] at h;exact h
theorem Ay4 (t:TrA) (word:Str) (s:SA Sp) (b3 b1:Nat) (y:Eng.Own) (l:Str) (W0 w:World) (hL:Lw Tryz.prog W0) (hm0:Mem W0 [] (tM t b3 b1 y l) w) (hx:OwnOk 1 y l.length (byc l)) (hw:word.length≤40) (hs:(Part.sps s).ok W0) (hb:l.length≤100000) :
    Calls Tryz.prog 85 #[.string (bs word),s.v,.pointer (some ⟨b3,0,none⟩)] w (Grow W0 [] (fun _:Eng.Own=>.tuple #[]) (fun y=>tM t b3 b1 y (l++rowS word s.l)) (fun y=>OwnOk 1 y (l++rowS word s.l).length (byc (l++rowS word s.l)))):=by
  have h2:=AL3 hw hs;have h3:=hs.2.1;exact Ao9 (BN4 word s b3 (buS b3) y l [(b1,trO t)] W0 w hL (hm0.pick (Pick.cnt fun x=>by simp only [nC];omega)) (.inr rfl) hx hw hs (by omega)) (fun y=>(Pick.cnt fun x=>by simp only [nC];omega))
theorem Bv2 (t:TrA) (W:World) (hL:Lw Tryz.prog W) (hT:TrOk W t) (hv:TrV t):Calls Tryz.prog 84 #[t.v] W (Grow W [] (fun _:Unit=>.string (bs (tourS t.pl))) (fun _=>[]) (fun _=>True)):=by
  have hl0:(lineS [wTour,Lib.itoa t.dawn]).length≤1000:=by
    have h1:=Ap4 (ws:=[wTour,Lib.itoa t.dawn]) (fun x hx=>by
      simp only [List.mem_cons,List.not_mem_nil,or_false] at hx
      rcases hx with rfl | rfl
      · decide
      · exact Nat.le_trans (Aq7 hv.dawn) (by decide))
    simp only [List.length_cons,List.length_nil] at h1;omega
  have hw6:=hv.ways;have hst:=AL3 (word:=wStay) (by decide) (hv.part hT (AM1 t));have hst2:=(hv.all _ (AM1 t)).1;have hlen:=fun k hk=>Cs6 hv hT (k:=k) hk
  have hlast:=hlen t.ways.l.length (Nat.le_refl _);have e0:tT t 0=lineS [wTour,Lib.itoa t.dawn]++rowS wFrom t.fr.l:=by simp [tT]
  refine Aa2 Tryz.func84 rfl rfl ?_;refine st ?_;refine zn (New.box rfl) (fun b1=>?_)
  refine zn (New.alloc Ch7) (fun b3=>?_)
  refine lu (Val.makeInterface rfl Aw3) ?_;refine lv (Val.makeInterface rfl Ar6) ?_;refine zn (New.buildSlice (parts:=[(0,.tmp 8),(1,.tmp 11)]) rfl Aq2 An3 rfl rfl rfl rfl) (fun b12=>?_)
  refine zc (zF rfl As1) (fun w hm=>(Ag2 [Part.s wTour,Part.n t.dawn] [wTour,Lib.itoa t.dawn] rfl b12 w (hL.mono hm) (hm.at (.head _)) (by simp) (by intro p hp;simp only [List.mem_cons,List.not_mem_nil,or_false] at hp;rcases hp with rfl | rfl;exact (show wTour.length≤40 by decide);exact hv.dawn) (by simp))) ?_;refine Ag7 (zF rfl Cu1) rfl rfl rfl (fun w hm=>(Ao9 (nw':=fun y=>tM t b3 b1 y (lineS [wTour,Lib.itoa t.dawn])) (Bg0 b3 (lineS [wTour,Lib.itoa t.dawn]) [(b1,trO t)] W w (hm.pick (.cons (.there .here) rfl (.cons (.there .here) rfl .nil))) (by omega)) (fun y=>(Pick.cnt fun x=>by simp only [nC];omega)))) (fun z14 hz14=>?_)
  
  refine su ?_;refine Ag7 (Ac1 rfl rfl BG7) rfl rfl rfl (fun w hm=>(Ay4 t wFrom t.fr b3 b1 z14 _ W w hL hm hz14 (by decide) (hv.part hT (BI0 t)) (by omega))) (fun z18 hz18=>?_)
  
  refine su ?_;refine Aj3 (X:=Eng.Own) (n0:=[(b1,_)]) (t.ways.l.length) (fun k x q=>(22,.int .i64 (k:Int))::q) (fun _ _=>_) (fun k x=>[(b3,buO (buS b3) x (tT t k).length)]) (fun k x=>ownB 5 x (byc (tT t k))++[]) (fun k x=>OwnOk 1 x (tT t k).length (byc (tT t k))) z18 (by rw [e0];exact hz18) rfl (zE 22 rfl rfl (zS 1 rfl (zS 3 rfl (zS 4 rfl (zS 20 rfl (zS 21 rfl (Sub.nil _))))))) (.cons .here (by rw [e0]) (.cons .here rfl (Pick.same (by rw [e0];rfl)))) ?_;intro k x kN kI;refine st ?_;refine cn rfl ?_ ?_
  ·intro c0'
   have hk:k < t.ways.l.length:=by omega
   obtain ⟨y,hy⟩:∃ y,t.ways.l[k]=y:=⟨_,rfl⟩;have hym:y∈t.ways.l:=hy ▸ List.getElem_mem hk;have hlk:=hlen k (by omega);refine st ?_;refine lv (Aa6 rfl rfl Aq3 (by omega) (by omega) (Sl.ptrM hT.ways hk)) ?_;refine lv (Ab2 rfl (fun w hm=>Sl.loadM1 hT.ways (by decide) hm (by simp) Az9 hk (v:=y.v) (by simp [SA.cell,hy]))) ?_;refine Ag7 (Ac1 rfl rfl BG7) rfl rfl rfl (fun w hm=>(Ay4 t wWays y b3 b1 x _ W w hL hm kI (by decide) (hv.part hT (BA9 hym)) (by omega))) (fun z28 hz28=>?_)
   
   refine st ?_;refine lv (Val.add rfl rfl (IntWalk.i64_in _ ⟨by omega,by omega⟩)) ?_;exact Ae7 z28 (by omega) (by rw [CP2 hk hy];exact hz28) rfl (zE 22 rfl rfl (zS 1 rfl (zS 3 rfl (zS 4 rfl (zS 20 rfl (zS 21 rfl (Sub.nil _))))))) (.cons .here (by rw [CP2 hk hy]) (.cons .here rfl (Pick.same (by rw [CP2 hk hy];rfl))))
  intro c0';obtain rfl:k=t.ways.l.length:=by omega
  refine RunC.exit ?_;refine su ?_;refine Ab0 ?_;refine su ?_;refine Ag7 (Ac1 rfl rfl BG7) rfl rfl rfl (fun w hm=>(Ay4 t wStay t.stay b3 b1 x _ W w hL hm kI (by decide) (hv.part hT (AM1 t)) (by omega))) (fun z33 hz33=>?_)
  
  refine su ?_;refine Ag7 (Ac1 rfl rfl BG7) rfl rfl rfl (fun w hm=>(Ay4 t wLight t.light b3 b1 z33 _ W w hL hm hz33 (by decide) (hv.part hT (Br9 t)) (by rw [List.length_append];omega))) (fun z37 hz37=>?_)
  
  refine st ?_;refine Ag7 (zF rfl CL4) rfl rfl rfl (fun w hm=>(Bg1 b3 (buS b3) z37 _ [(b1,trO t)] W w (hm.pick (Pick.cnt fun x=>by simp only [nC];omega)) (.inr rfl) hz37)) (fun z38 hz38=>?_)
  
  refine su ?_;exact Au5 () trivial (.r1 rfl (.tmp rfl)) (by rw [BQ8]) .nil
end Go.Proofs.YtmkdbdbenfbkhaaGreatDoor
namespace Go.Proofs.YtmkdbdbenfbkhaaGreatDoor
open Go Go.Eng
theorem AL9:arr1B Tryz.prog 209=some 3:=by kernel_rfl
theorem CF5:Enters Tryz.prog 106:=Aa3 Tryz.func106 (by kernel_rfl) rfl
theorem Ce0:Enters Tryz.prog 113:=Aa3 Tryz.func113 (by kernel_rfl) rfl
theorem BV2:(Tryz.prog.underlying 26).any (fun t=>match t with | .interface _=>false | _=>true)=true:=by kernel_rfl
theorem BK5:placesB Tryz.prog 209=some [(0,1),(1,1),(2,1)]:=by kernel_rfl
theorem BQ4:tyB Tryz.prog 209=some (true,3):=by kernel_rfl
instance:Tyc Tryz.prog 209 true 3:=⟨BQ4⟩
theorem Ba8:zeroB Tryz.prog 139=some [.int .i64 0,.int .i64 0,.int .i64 0,.int .i64 0]:=by kernel_rfl
theorem BD0:zeroB Tryz.prog 209=some [.string ⟨#[]⟩,.string ⟨#[]⟩,.string ⟨#[]⟩]:=by kernel_rfl
end Go.Proofs.YtmkdbdbenfbkhaaGreatDoor
namespace Go.Bk
open Go Go.Eng Go.RowKit
def kindW (k:Int):Str:=if k=1 then wBack else if k=2 then wLook else wTake
structure LnV (l:Ln):Prop where
  kind:l.kind=0∨l.kind=1∨l.kind=2
  card:In64 l.card
  person:In64 l.person
  slot:In64 l.slot
theorem AP6 (k:Int):(kindW k).length≤40:=by
  unfold kindW
  split
  · decide
  · split <;> decide
theorem Bu1 {n:Int} (h:In64 n):(Lib.itoa n).length≤50:=Nat.le_trans (Aq7 h) (by decide)
theorem Bm6 {l:Ln} (h:LnV l):(loanS l).length≤154:=by
  have h1:=Bu1 h.card;have h2:=Bu1 h.person;have h3:=Bu1 h.slot
  have key:∀ a b c:Str,a.length≤50→b.length≤50→c.length≤50→(lineS [a,b,c]).length≤154:=fun a b c ha hb hc=>by
    have:=Ap4 (ws:=[a,b,c]) (fun x hx=>by
      simp only [List.mem_cons,List.not_mem_nil,or_false] at hx
      rcases hx with rfl | rfl | rfl <;> assumption)
    simpa using this
  unfold loanS
  split
  · split
    · exact key _ _ _ (by decide) h3 (by decide)
    · exact key _ _ _ (by decide) h3 h1
  · exact key _ _ _ (by split <;> decide) h1 h2
structure CbV (c:CbA):Prop where
  slots:In64 c.slots
  wrong:In64 c.wrong
  homes:c.homes.l.length≤5
  hom64:∀ n∈c.homes.l,In64 n
  loans:c.loans.l.length≤12
  each:∀ l∈c.loans.l,LnV l
theorem CG3 {c:CbA} (h:cabX c.pl=true):CbV c:=by
  simp only [cabX,Bool.and_eq_true,decide_eq_true_eq,within,Bool.not_eq_true',List.any_eq_false,Bool.not_eq_false] at h;obtain ⟨⟨⟨⟨⟨h1,h2⟩,h3⟩,h4⟩,h5⟩,h6⟩:=h;have e1:c.pl.slots=c.slots:=rfl;have e2:c.pl.homes=c.homes.l:=rfl;have e3:c.pl.wrong=c.wrong:=rfl;have e4:c.pl.loans=c.loans.l:=rfl;rw [e1] at h1;rw [e2] at h2 h5;rw [e3] at h3;rw [e4] at h4 h6;refine ⟨by unfold In64;omega,by unfold In64;omega,h2,fun n hn=>?_,h4,fun l hl=>?_⟩
  · obtain ⟨i,hi,rfl⟩:=List.getElem_of_mem hn
    unfold homesX at h5;have h7:=List.all_eq_true.1 h5 i (List.mem_range.2 hi);simp only [Bool.and_eq_true,within,decide_eq_true_eq,e1,e2] at h7;rw [List.getD_eq_getElem?_getD,List.getElem?_eq_getElem hi] at h7;simp only [Option.getD_some] at h7;unfold In64;omega
  · have h7:loanX c.pl l=true:=by first | exact h6 l hl | simpa using h6 l hl
    unfold loanX at h7;rw [e1,e2] at h7
    split at h7
    · simp only [within,Bool.and_eq_true,decide_eq_true_eq] at h7
      refine ⟨by omega,?_,?_,?_⟩ <;> unfold In64 <;> omega
    · split at h7
      · simp only [within,Bool.and_eq_true,Bool.or_eq_true,decide_eq_true_eq] at h7
        refine ⟨by omega,?_,?_,?_⟩ <;> unfold In64 <;> omega
      · cases h7
def cT (c:CbA) (k:Nat):Str:=lineS [wCab,Lib.itoa c.slots,Lib.itoa c.wrong]++lineS (wHomes::c.homes.l.map Lib.itoa)++((c.loans.l.take k).map loanS).flatten
theorem CT4 {c:CbA} {k:Nat} (hk:k < c.loans.l.length) {x:Ln} (hx:c.loans.l[k]=x):cT c (k + 1)=cT c k++loanS x:=by
  unfold cT;rw [List.take_succ_eq_append_getElem hk,List.map_append,List.flatten_append,hx];simp
theorem Cq2 (c:CbA):cabS c.pl=cT c c.loans.l.length:=by
  unfold cT cabS;rw [List.take_length];rfl
theorem Cv5 {c:CbA} (h:CbV c):(lineS [wCab,Lib.itoa c.slots,Lib.itoa c.wrong]).length≤1000:=by
  have:=Ap4 (ws:=[wCab,Lib.itoa c.slots,Lib.itoa c.wrong]) (fun x hx=>by
    simp only [List.mem_cons,List.not_mem_nil,or_false] at hx
    rcases hx with rfl | rfl | rfl
    · decide
    · exact Bu1 h.slots
    · exact Bu1 h.wrong)
  simp only [List.length_cons,List.length_nil] at this;omega
theorem Cv4 {c:CbA} (h:CbV c):(lineS (wHomes::c.homes.l.map Lib.itoa)).length≤1000:=by
  have:=Ap4 (ws:=wHomes::c.homes.l.map Lib.itoa) (fun x hx=>by
    rcases List.mem_cons.1 hx with rfl | hx
    · decide
    · obtain ⟨n,hn,rfl⟩:=List.mem_map.1 hx
      exact Bu1 (h.hom64 n hn))
  have h5:=h.homes;simp only [List.length_cons,List.length_map] at this;omega
theorem Aj8 {α:Type} {f:α→Str} {m:Nat}:∀ {l:List α},(∀ x∈l,(f x).length≤m)→((l.map f).flatten).length≤l.length * m
  | [],_=>by simp
  | a::l,h=>by
    have h1:=h a (by simp);have ih:=Aj8 (f:=f) (l:=l) (fun x hx=>h x (by simp [hx]));simp only [List.map_cons,List.flatten_cons,List.length_append,List.length_cons,Nat.add_mul];omega
theorem CO3 {c:CbA} (h:CbV c) (k:Nat):(cT c k).length≤2000 + 154 * 12:=by
  have h1:=Cv5 h;have h2:=Cv4 h;have h3:=Aj8 (f:=loanS) (l:=c.loans.l.take k) (m:=154) (fun x hx=>Bm6 (h.each x (List.mem_of_mem_take hx)));have h4:=h.loans;have h5:(c.loans.l.take k).length * 154≤12 * 154:=Nat.mul_le_mul_right _ (by rw [List.length_take];omega);unfold cT;simp only [List.length_append];omega
end Go.Bk
namespace Go.Proofs.YtmkdbdbenfbkhaaGreatDoor
open Go Go.Eng Go.Bk Go.RowKit

theorem AP3 (W:World):Calls Tryz.prog 113 #[] W (Pure (.agg #[.string (bs wTake),.string (bs wBack),.string (bs wLook)]) W):=by
  refine Aa2 Tryz.func113 rfl rfl ?_;refine st ?_;refine zn (New.alloc BD0) (fun b0=>?_)
  refine lv (Val.build (parts:=[(0,.const (.string ⟨#[116,97,107,101]⟩)),(1,.const (.string ⟨#[98,97,99,107]⟩)),(2,.const (.string ⟨#[108,111,111,107]⟩))]) rfl BD0 BK5 rfl) ?_;refine Ab4 (Sto.store rfl rfl .here BQ4 rfl rfl) rfl rfl ?_;refine su ?_;exact Aa4 (.r1 rfl (.agg rfl (.head _) BQ4 rfl)) (by first | rfl | simp)
theorem BL7 (l:Ln) (h:LnV l) (W:World) (hL:Lw Tryz.prog W):Calls Tryz.prog 106 #[.agg l.cells.toArray] W (Pure (.string (bs (loanS l))) W):=by
  have hk:=h.kind;refine Aa2 Tryz.func106 rfl rfl ?_;refine st ?_;refine zn (New.box rfl) (fun b1=>?_)
  refine Ae9 3 As5 (.cons .here rfl .nil) ?_;refine zw 1 ?_;refine zw 2 ?_;refine zA 0 ?_;refine Ac4 rfl (zF rfl Ce0) rfl rfl rfl (fun w hm=>AP3 w) (Aa5 (.cons .here rfl .nil) (.cons .here rfl .nil) rfl ?_)
  refine zt ?_;refine zo 3 rfl (Az3 rfl rfl AL9 (by omega) (by omega) (show (#[Value.string (bs wTake),.string (bs wBack),.string (bs wLook)]:Array Value)[l.kind.toNat]? = some (.string (bs (kindW l.kind))) by rcases hk with h | h | h <;> rw [h] <;> rfl)) ?_;refine zp 4 ?_;refine zd ?_;refine su ?_;refine cn rfl ?_ ?_
  ·intro c0'
   refine st ?_;refine lu (Val.makeInterface rfl Aw3) ?_;refine lu (Val.makeInterface rfl Ar6) ?_;refine lv (Val.makeInterface rfl Ar6) ?_;refine zn (New.buildSlice (parts:=[(0,.tmp 13),(1,.tmp 16),(2,.tmp 19)]) rfl Aq2 An3 rfl rfl rfl rfl) (fun b20=>?_)
   refine zc (zF rfl As1) (fun w hm=>(Ag2 [Part.s (kindW l.kind),Part.n l.card,Part.n l.person] [kindW l.kind,Lib.itoa l.card,Lib.itoa l.person] rfl b20 w (hL.mono hm) (hm.at (.head _)) (by simp) (by intro p hp;simp only [List.mem_cons,List.not_mem_nil,or_false] at hp;rcases hp with rfl | rfl | rfl;exact AP6 _;exact h.card;exact h.person) (by simp))) ?_;exact Aa4 (.r1 rfl (.tmp rfl)) (by have h2:¬ l.kind=2:=(by simpa using c0');unfold loanS kindW;rw [if_neg h2];rcases hk with h | h | h <;> simp_all)
  intro c0';refine su ?_;refine cn rfl ?_ ?_
  ·intro c1'
   refine st ?_;refine lu (Val.makeInterface rfl Aw3) ?_;refine lv (Val.makeInterface rfl Ar6) ?_;refine lv (Val.makeInterface rfl Aw3) ?_;refine zn (New.buildSlice (parts:=[(0,.tmp 27),(1,.tmp 30),(2,.tmp 31)]) rfl Aq2 An3 rfl rfl rfl rfl) (fun b32=>?_)
   refine zc (zF rfl As1) (fun w hm=>(Ag2 [Part.s (kindW l.kind),Part.n l.slot,Part.s wNone] [kindW l.kind,Lib.itoa l.slot,wNone] rfl b32 w (hL.mono hm) (hm.at (.head _)) (by simp) (by intro p hp;simp only [List.mem_cons,List.not_mem_nil,or_false] at hp;rcases hp with rfl | rfl | rfl;exact AP6 _;exact h.slot;exact (show wNone.length≤40 by decide)) (by simp))) ?_;exact Aa4 (.r1 rfl (.tmp rfl)) (by have h2:l.kind=2:=(by simpa using c0');have h3:l.card = -1:=(by simpa using c1');unfold loanS kindW;rw [if_pos h2,if_pos h3];simp [h2])
  intro c1';refine st ?_;refine lu (Val.makeInterface rfl Aw3) ?_;refine lu (Val.makeInterface rfl Ar6) ?_;refine lv (Val.makeInterface rfl Ar6) ?_;refine zn (New.buildSlice (parts:=[(0,.tmp 35),(1,.tmp 38),(2,.tmp 41)]) rfl Aq2 An3 rfl rfl rfl rfl) (fun b42=>?_)
  refine zc (zF rfl As1) (fun w hm=>(Ag2 [Part.s (kindW l.kind),Part.n l.slot,Part.n l.card] [kindW l.kind,Lib.itoa l.slot,Lib.itoa l.card] rfl b42 w (hL.mono hm) (hm.at (.head _)) (by simp) (by intro p hp;simp only [List.mem_cons,List.not_mem_nil,or_false] at hp;rcases hp with rfl | rfl | rfl;exact AP6 _;exact h.slot;exact h.card) (by simp))) ?_;exact Aa4 (.r1 rfl (.tmp rfl)) (by have h2:l.kind=2:=(by simpa using c0');have h3:¬ l.card = -1:=(by simpa using c1');unfold loanS kindW;rw [if_pos h2,if_neg h3];simp [h2])
theorem BN3 (c:CbA) (W:World) (hL:Lw Tryz.prog W) (hC:CbOk W c) (hv:CbV c):Calls Tryz.prog 105 #[c.v] W (Pure (.string (bs (cabS c.pl))) W):=by
  have hl:=hv.loans;have hh:=hv.homes;have hl1:=Cv5 hv;have hl2:=Cv4 hv;have e0:cT c 0=lineS [wCab,Lib.itoa c.slots,Lib.itoa c.wrong]++lineS (wHomes::c.homes.l.map Lib.itoa):=by simp [cT]
  have hlen:=CO3 hv;refine Aa2 Tryz.func105 rfl rfl ?_;refine st ?_;refine Ac3 (New.box rfl) rfl rfl rfl (fun b1=>?_)
  refine vp rfl rfl rfl rfl ?_;refine nnx ?_;refine RunC.seq ?_
  apply Az8 (J:=J2 _ _ _ _ _ _) 14 As5 (.cons .here rfl .nil)
  ·refine zv 0 rfl (Val.makeInterface rfl Aw3) ?_
   refine zw 1 ?_;refine zw 2 ?_;refine zv 3 rfl (Val.makeInterface rfl Ar6) ?_;refine zw 4 ?_;refine zw 5 ?_;refine zv 6 rfl (Val.makeInterface rfl Ar6) ?_;refine zv 9 rfl (Val.makeInterface rfl Aw3) ?_;refine zw 10 ?_;refine zw 11 ?_;refine zv 12 rfl (Val.makeInterface rfl BV2) ?_;refine Ag5 (rs:=[7,13]) (by kernel_rfl) (by simp) (by kernel_rfl) (fun m hm=>?_)
   simp only [List.mem_cons,List.not_mem_nil,or_false] at hm
   rcases hm with rfl | rfl
   ·refine Ae0 rfl (New.buildSlice (parts:=[(0,.tmp 6),(1,.tmp 9),(2,.tmp 12)]) rfl Aq2 An3 rfl rfl rfl rfl) rfl rfl rfl (fun b13=>(Aa5 (.cons .here rfl (.cons .here rfl .nil)) (.cons (.there .here) rfl .nil) rfl ?_))
    refine Ag5 (rs:=[8,13]) (by kernel_rfl) (by simp) (by kernel_rfl) (fun m hm=>?_)
    simp only [List.mem_cons,List.not_mem_nil,or_false] at hm
    rcases hm with rfl | rfl
    ·refine Ac4 rfl (zF rfl As1) rfl rfl rfl (fun w hm=>(Ag2 [Part.s wCab,Part.n c.slots,Part.n c.wrong] [wCab,Lib.itoa c.slots,Lib.itoa c.wrong] rfl b13 w (hL.mono hm) (hm.at (.head _)) (by simp) (by intro p hp;simp only [List.mem_cons,List.not_mem_nil,or_false] at hp;rcases hp with rfl | rfl | rfl;exact (show wCab.length≤40 by decide);exact hv.slots;exact hv.wrong) (by simp))) (Aa5 (.cons .here rfl (.cons .here rfl .nil)) (.cons .here rfl (.cons .here rfl .nil)) rfl ?_)
     refine zA 13 ?_;refine Ae0 rfl (New.buildSlice (parts:=[(0,.tmp 15),(1,.tmp 18)]) rfl Aq2 An3 rfl rfl rfl rfl) rfl rfl rfl (fun b19=>(Aa5 (.cons .here rfl (.cons .here rfl (.cons .here rfl .nil))) (.cons (.there .here) rfl (.cons (.there .here) rfl .nil)) rfl ?_))
     refine zt ?_;refine zq 14 rfl (zF rfl As1) (fun w hm=>(Ag2 [Part.s wHomes,Part.ns c.homes] (wHomes::c.homes.l.map Lib.itoa) (by simp [Part.words]) b19 w (hL.mono hm) (hm.at (.head _)) (by simp) (by intro p hp;simp only [List.mem_cons,List.not_mem_nil,or_false] at hp;rcases hp with rfl | rfl;exact (show wHomes.length≤40 by decide);exact ⟨hC.homes.mono0 (by decide) hm,by omega,hv.hom64⟩) (by simp;omega))) ?_;refine zo 15 rfl (Ak4 rfl rfl (by omega)) ?_;refine zp 16 ?_;refine zd ?_;exact AH3 b13 b19 (Ad8 _) (Pick.refl _)
    refine Ae0 rfl (New.buildSlice (parts:=[(0,.tmp 15),(1,.tmp 18)]) rfl Aq2 An3 rfl rfl rfl rfl) rfl rfl rfl (fun b19=>(Aa5 (.cons .here rfl (.cons .here rfl (.cons .here rfl .nil))) (.cons (.there .here) rfl (.cons (.there .here) rfl .nil)) rfl ?_))
    refine zA 8 ?_;refine Ac4 rfl (zF rfl As1) rfl rfl rfl (fun w hm=>(Ag2 [Part.s wCab,Part.n c.slots,Part.n c.wrong] [wCab,Lib.itoa c.slots,Lib.itoa c.wrong] rfl b13 w (hL.mono hm) (hm.at (.tail _ (.head _))) (by simp) (by intro p hp;simp only [List.mem_cons,List.not_mem_nil,or_false] at hp;rcases hp with rfl | rfl | rfl;exact (show wCab.length≤40 by decide);exact hv.slots;exact hv.wrong) (by simp))) (Aa5 (.cons .here rfl (.cons .here rfl (.cons .here rfl .nil))) (.cons .here rfl (.cons .here rfl (.cons .here rfl .nil))) rfl ?_)
    refine zt ?_;refine zq 14 rfl (zF rfl As1) (fun w hm=>(Ag2 [Part.s wHomes,Part.ns c.homes] (wHomes::c.homes.l.map Lib.itoa) (by simp [Part.words]) b19 w (hL.mono hm) (hm.at (.head _)) (by simp) (by intro p hp;simp only [List.mem_cons,List.not_mem_nil,or_false] at hp;rcases hp with rfl | rfl;exact (show wHomes.length≤40 by decide);exact ⟨hC.homes.mono0 (by decide) hm,by omega,hv.hom64⟩) (by simp;omega))) ?_;refine zo 15 rfl (Ak4 rfl rfl (by omega)) ?_;refine zp 16 ?_;refine zd ?_;exact AH3 b13 b19 (zS 3 rfl (zS 21 rfl (zS 20 rfl (zS 19 rfl (zS 14 rfl (zS 13 rfl (zS 18 rfl (zS 17 rfl (zS 16 rfl (zS 15 rfl (zS 12 rfl (zS 11 rfl (zS 10 rfl (zS 9 rfl (zS 8 rfl (zS 7 rfl (zS 6 rfl (Sub.skip rfl (Sub.skip rfl (Sub.skip rfl (Sub.skip rfl (Sub.skip rfl (Sub.skip rfl (Sub.skip rfl (Sub.skip rfl (Sub.skip rfl (Sub.skip rfl (Sub.skip rfl (Sub.skip rfl (Sub.skip rfl (Sub.skip rfl (Sub.skip rfl (Sub.skip rfl (Sub.skip rfl (Ad8 _))))))))))))))))))))))))))))))))))) (.cons .here rfl (.cons .here rfl (.cons .here rfl .nil)))
   refine Ae0 rfl (New.buildSlice (parts:=[(0,.tmp 15),(1,.tmp 18)]) rfl Aq2 An3 rfl rfl rfl rfl) rfl rfl rfl (fun b19=>(Aa5 (.cons .here rfl (.cons .here rfl .nil)) (.cons (.there .here) rfl .nil) rfl ?_))
   refine zA 7 ?_;refine Ae0 rfl (New.buildSlice (parts:=[(0,.tmp 6),(1,.tmp 9),(2,.tmp 12)]) rfl Aq2 An3 rfl rfl rfl rfl) rfl rfl rfl (fun b13=>(Aa5 (.cons .here rfl (.cons .here rfl (.cons .here rfl .nil))) (.cons (.there .here) rfl (.cons (.there .here) rfl .nil)) rfl ?_))
   refine zA 8 ?_;refine Ac4 rfl (zF rfl As1) rfl rfl rfl (fun w hm=>(Ag2 [Part.s wCab,Part.n c.slots,Part.n c.wrong] [wCab,Lib.itoa c.slots,Lib.itoa c.wrong] rfl b13 w (hL.mono hm) (hm.at (.head _)) (by simp) (by intro p hp;simp only [List.mem_cons,List.not_mem_nil,or_false] at hp;rcases hp with rfl | rfl | rfl;exact (show wCab.length≤40 by decide);exact hv.slots;exact hv.wrong) (by simp))) (Aa5 (.cons .here rfl (.cons .here rfl (.cons .here rfl .nil))) (.cons .here rfl (.cons .here rfl (.cons .here rfl .nil))) rfl ?_)
   refine zt ?_;refine zq 14 rfl (zF rfl As1) (fun w hm=>(Ag2 [Part.s wHomes,Part.ns c.homes] (wHomes::c.homes.l.map Lib.itoa) (by simp [Part.words]) b19 w (hL.mono hm) (hm.at (.tail _ (.head _))) (by simp) (by intro p hp;simp only [List.mem_cons,List.not_mem_nil,or_false] at hp;rcases hp with rfl | rfl;exact (show wHomes.length≤40 by decide);exact ⟨hC.homes.mono0 (by decide) hm,by omega,hv.hom64⟩) (by simp;omega))) ?_;refine zo 15 rfl (Ak4 rfl rfl (by omega)) ?_;refine zp 16 ?_;refine zd ?_;exact AH3 b13 b19 (zS 3 rfl (zS 21 rfl (zS 20 rfl (zS 19 rfl (zS 14 rfl (zS 13 rfl (zS 18 rfl (zS 17 rfl (zS 16 rfl (zS 15 rfl (zS 12 rfl (zS 11 rfl (zS 10 rfl (zS 9 rfl (zS 8 rfl (zS 7 rfl (zS 6 rfl (Sub.skip rfl (Sub.skip rfl (Sub.skip rfl (Sub.skip rfl (Sub.skip rfl (Sub.skip rfl (Sub.skip rfl (Sub.skip rfl (Sub.skip rfl (Sub.skip rfl (Sub.skip rfl (Sub.skip rfl (Sub.skip rfl (Sub.skip rfl (Sub.skip rfl (Sub.skip rfl (Sub.skip rfl (Ad8 _))))))))))))))))))))))))))))))))))) (.cons (.there .here) rfl (.cons .here rfl (.cons .here rfl .nil)))
  refine J2.out (fun b13 b19=>?_)
  refine su ?_;refine Ad6 (c.loans.l.length) (fun k q=>(25,.int .i64 (k:Int))::(3,.string (bs (cT c k)))::q) (fun _=>_) (fun _=>[]) (fun _=>True) trivial rfl (zE 25 rfl rfl (zE 3 rfl (by rw [e0]) (zS 1 rfl (zS 23 rfl (zS 24 rfl (Sub.nil _)))))) (.cons .here rfl (.cons .here rfl (.cons .here rfl .nil))) ?_;intro k kN kI;clear kI;refine st ?_;refine cn rfl ?_ ?_
  ·intro c0'
   have hk:k < c.loans.l.length:=by omega
   obtain ⟨x,hx⟩:∃ x,c.loans.l[k]=x:=⟨_,rfl⟩;refine st ?_;refine lv (Aa6 rfl rfl AT7 (by omega) (by omega) (Sl.ptrM hC.loans hk)) ?_;refine lv (Ab2 rfl (fun w hm=>Sl.loadX hC.loans (by decide) hm (by simp) As9 hk hx)) ?_;refine zn (New.alloc Ba8) (fun b5=>?_)
   refine Ab4 (Sto.store rfl rfl .here As9 rfl rfl) rfl rfl ?_;refine su ?_;refine zc (zF rfl CF5) (fun w hm=>(hx ▸ BL7 c.loans.l[k] (hv.each _ (List.getElem_mem hk)) w (hL.mono hm))) ?_;refine lv (Ak4 rfl rfl (by have:=Bm6 (hv.each _ (List.getElem_mem hk));rw [hx] at this;have:=hlen k;omega)) ?_;refine lv (Val.add rfl rfl (IntWalk.i64_in _ ⟨by omega,by omega⟩)) ?_;exact Ad2 (by omega) trivial rfl (zE 25 rfl rfl (zE 3 rfl (by rw [CT4 hk hx]) (zS 1 rfl (zS 23 rfl (zS 24 rfl (Sub.nil _)))))) (.cons (.there .here) rfl (.cons (.there .here) rfl (.cons (.there .here) rfl .nil)))
  intro c0';obtain rfl:k=c.loans.l.length:=by omega
  refine RunC.exit ?_;refine su ?_;refine Ab0 ?_;refine su ?_;exact Aa4 (.r1 rfl (.tmp rfl)) (by rw [Cq2])
end Go.Proofs.YtmkdbdbenfbkhaaGreatDoor
namespace Go.Proofs.YtmkdbdbenfbkhaaGreatDoor
open Go Go.Eng
theorem Ba9:zeroB Tryz.prog 122=some [.int .i64 0,.int .i64 0,.int .i64 0,.int .i64 0]:=by kernel_rfl
theorem Ch8:zeroB Tryz.prog 160=some [.int .i64 0,.int .i64 0,.int .i64 0]:=by kernel_rfl
end Go.Proofs.YtmkdbdbenfbkhaaGreatDoor
namespace Go.Bk
open Go Go.Eng Go.RowKit
structure RyV (r:RyA):Prop where
  terms:r.terms.l.length≤4
  paid:r.paid.l.length=r.terms.l.length
  prices:r.prices.l.length≤4
  shares:r.shares.l.length=r.prices.l.length
  reports:r.reports.l.length≤20
  tm:∀ t∈r.terms.l,In64 t.first∧In64 t.upto∧In64 t.beyond
  pd:∀ n∈r.paid.l,In64 n
  pr:∀ n∈r.prices.l,In64 n
  sh:∀ x∈r.shares.l,x.l.length≤5∧∀ n∈x.l,In64 n
  rp:∀ x∈r.reports.l,In64 x.agent∧In64 x.kind∧In64 x.first∧In64 x.last
theorem AZ3 {α:Type} {p:α→Bool} {l:List α} (h:l.any p=false) {x:α} (hx:x∈l):p x=false:=by
  rw [List.any_eq_false] at h;simpa using h x hx
theorem CQ4 {r:RyA} (h:royalX r.pl=true):RyV r:=by
  simp only [royalX,Bool.and_eq_true,Bool.not_eq_true',decide_eq_true_eq] at h;obtain ⟨⟨⟨⟨⟨⟨⟨⟨⟨h1,h2⟩,h3⟩,h4⟩,h5⟩,h6⟩,h7⟩,h8⟩,h9⟩,h10⟩:=h;have e:r.pl.shares.length=r.shares.l.length:=by simp [RyA.pl]
  rw [e] at h4;rw [Bv6] at h9;refine ⟨h1,h2,h3,h4,h5,fun t ht=>?_,fun n hn=>?_,fun n hn=>?_,fun x hx=>?_,fun x hx=>?_⟩
  · have h:=AZ3 h6 ht
    simp only [badTm,within,Bool.or_eq_false_iff,Bool.not_eq_false',Bool.and_eq_true,decide_eq_true_eq] at h;refine ⟨?_,?_,?_⟩ <;> unfold In64 <;> omega
  · have h:=AZ3 h7 hn
    simp only [within,Bool.not_eq_false',Bool.and_eq_true,decide_eq_true_eq] at h;unfold In64;omega
  · have h:=AZ3 h8 hn
    simp only [within,Bool.not_eq_false',Bool.and_eq_true,decide_eq_true_eq] at h;unfold In64;omega
  · have h:=AZ3 h9 hx
    simp only [sharingX,within,Bool.not_eq_false',Bool.and_eq_true,decide_eq_true_eq,List.all_eq_true] at h;obtain ⟨⟨ha,hb⟩,hc⟩:=h;refine ⟨by omega,fun n hn=>?_⟩
    have:=ha n hn
    unfold In64;omega
  · have h:=AZ3 h10 hx
    have e1:r.pl.terms.length=r.terms.l.length:=rfl;have e2:r.pl.prices.length=r.prices.l.length:=rfl;rw [badRp,e1,e2] at h;have e3:r.pl.terms.length≤4:=h1;have e4:r.pl.prices.length≤4:=h3;rw [e1] at e3;rw [e2] at e4;simp only [within,Bool.or_eq_false_iff,Bool.not_eq_false',Bool.and_eq_true,decide_eq_true_eq,decide_eq_false_iff_not] at h;refine ⟨?_,?_,?_,?_⟩ <;> unfold In64 <;> omega
theorem l5 {a b c d e:Str} (ha:a.length≤50) (hb:b.length≤50) (hc:c.length≤50) (hd:d.length≤50) (he:e.length≤50):(lineS [a,b,c,d,e]).length≤256:=by
  have:=Ap4 (ws:=[a,b,c,d,e]) (fun x hx=>by
    simp only [List.mem_cons,List.not_mem_nil,or_false] at hx
    rcases hx with rfl | rfl | rfl | rfl | rfl <;> assumption)
  simpa using this
theorem AZ4 {r:RyA} (h:RyV r) {t:Tm} {n:Int} (ht:t∈r.terms.l) (hn:n∈r.paid.l):(agentS t n).length≤256 :=
  l5 (by decide) (Bu1 (h.tm t ht).1) (Bu1 (h.tm t ht).2.1) (Bu1 (h.tm t ht).2.2) (Bu1 (h.pd n hn))
theorem AO6 {r:RyA} (h:RyV r) {x:Rp} (hx:x∈r.reports.l):(reportS x).length≤256 :=
  l5 (by decide) (Bu1 (h.rp x hx).1) (Bu1 (h.rp x hx).2.1) (Bu1 (h.rp x hx).2.2.1) (Bu1 (h.rp x hx).2.2.2)
theorem Bn5 {r:RyA} (h:RyV r) {n:Int} {x:SA Int} (hn:n∈r.prices.l) (hx:x∈r.shares.l):(kindS n x.l).length≤358:=by
  have h1:=Ap4 (ws:=wKind::Lib.itoa n::x.l.map Lib.itoa) (fun y hy=>by
    rcases List.mem_cons.1 hy with rfl | hy
    · decide
    · rcases List.mem_cons.1 hy with rfl | hy
      · exact Bu1 (h.pr n hn)
      · obtain ⟨m,hm,rfl⟩:=List.mem_map.1 hy
        exact Bu1 ((h.sh x hx).2 m hm))
  have h2:=(h.sh x hx).1;unfold kindS;simp only [List.length_cons,List.length_map] at h1;omega
def rT1 (r:RyA) (k:Nat):Str:=lineS [wRoyal]++(((r.terms.l.zip r.paid.l).take k).map fun x=>agentS x.1 x.2).flatten
def rT2 (r:RyA) (k:Nat):Str:=rT1 r r.terms.l.length++(((r.prices.l.zip r.shares.l).take k).map fun x=>kindS x.1 x.2.l).flatten
def rT3 (r:RyA) (k:Nat):Str:=rT2 r r.prices.l.length++((r.reports.l.take k).map reportS).flatten
theorem BC3 {α β γ:Type} {f:α×β→List γ} {l:List α} {m:List β} {k:Nat} (hk:k < l.length) (hm:m.length=l.length) {x:α} {y:β} (hx:l[k]=x) (hy:m[k]=y) :
    (((l.zip m).take (k + 1)).map f).flatten=(((l.zip m).take k).map f).flatten++f (x,y):=by
  have hz:k < (l.zip m).length:=by rw [List.length_zip];omega
  rw [List.take_succ_eq_append_getElem hz,List.map_append,List.flatten_append,List.getElem_zip,hx,hy];simp
theorem CR5 {r:RyA} (hv:RyV r) {k:Nat} (hk:k < r.terms.l.length) {x:Tm} {y:Int} (hx:r.terms.l[k]=x) (hy:r.paid.l[k]'(by rw [hv.paid];exact hk)=y):rT1 r (k + 1)=rT1 r k++agentS x y:=by
  unfold rT1;rw [BC3 hk hv.paid hx hy,List.append_assoc]
theorem CR4 {r:RyA} (hv:RyV r) {k:Nat} (hk:k < r.prices.l.length) {x:Int} {y:SA Int} (hx:r.prices.l[k]=x) (hy:r.shares.l[k]'(by rw [hv.shares];exact hk)=y):rT2 r (k + 1)=rT2 r k++kindS x y.l:=by
  unfold rT2;rw [BC3 hk hv.shares hx hy,List.append_assoc]
theorem CR3 {r:RyA} {k:Nat} (hk:k < r.reports.l.length) {x:Rp} (hx:r.reports.l[k]=x):rT3 r (k + 1)=rT3 r k++reportS x:=by
  unfold rT3;rw [List.take_succ_eq_append_getElem hk,List.map_append,List.flatten_append,hx];simp
theorem Bh9 {α β γ δ:Type} (f:α×γ→δ) (g:β→γ):∀ (l:List α) (m:List β),(l.zip (m.map g)).map f=(l.zip m).map fun x=>f (x.1,g x.2)
  | [],_=>rfl
  | _::_,[]=>rfl
  | a::l,b::m=>by simp [Bh9 f g l m]
theorem Ck3 {r:RyA} (hv:RyV r):royalS r.pl=rT3 r r.reports.l.length:=by
  unfold rT3 rT2 rT1 royalS;have h1:(r.terms.l.zip r.paid.l).length=r.terms.l.length:=by rw [List.length_zip,hv.paid,Nat.min_self]
  have h2:(r.prices.l.zip r.shares.l).length=r.prices.l.length:=by rw [List.length_zip,hv.shares,Nat.min_self]
  rw [List.take_length,← h1,List.take_length,← h2,List.take_length];have e:r.pl.shares=r.shares.l.map (·.l):=rfl;rw [e,Bh9];rfl
theorem BT4 {r:RyA} (hv:RyV r) (k:Nat):(rT1 r k).length≤52 + 4 * 256:=by
  have h0:(lineS [wRoyal]).length≤52:=by decide
  have h1:=Aj8 (f:=fun x:Tm×Int=>agentS x.1 x.2) (l:=(r.terms.l.zip r.paid.l).take k) (m:=256) (fun x hx=>by
    have h2:=List.of_mem_zip (List.mem_of_mem_take hx);exact AZ4 hv h2.1 h2.2)
  have h2:((r.terms.l.zip r.paid.l).take k).length * 256≤4 * 256:=Nat.mul_le_mul_right _ (by have:=hv.terms;rw [List.length_take,List.length_zip];omega);unfold rT1;rw [List.length_append];omega
theorem BT3 {r:RyA} (hv:RyV r) (k:Nat):(rT2 r k).length≤52 + 4 * 256 + 4 * 358:=by
  have h0:=BT4 hv r.terms.l.length
  have h1:=Aj8 (f:=fun x:Int×SA Int=>kindS x.1 x.2.l) (l:=(r.prices.l.zip r.shares.l).take k) (m:=358) (fun x hx=>by
    have h2:=List.of_mem_zip (List.mem_of_mem_take hx);exact Bn5 hv h2.1 h2.2)
  have h2:((r.prices.l.zip r.shares.l).take k).length * 358≤4 * 358:=Nat.mul_le_mul_right _ (by have:=hv.prices;rw [List.length_take,List.length_zip];omega);unfold rT2;rw [List.length_append];omega
theorem Cy0 {r:RyA} (hv:RyV r) (k:Nat):(rT3 r k).length≤52 + 4 * 256 + 4 * 358 + 20 * 256:=by
  have h0:=BT3 hv r.prices.l.length;have h1:=Aj8 (f:=reportS) (l:=r.reports.l.take k) (m:=256) (fun x hx=>AO6 hv (List.mem_of_mem_take hx));have h2:(r.reports.l.take k).length * 256≤20 * 256:=Nat.mul_le_mul_right _ (by have:=hv.reports;rw [List.length_take];omega);unfold rT3;rw [List.length_append];omega
end Go.Bk
namespace Go.Proofs.YtmkdbdbenfbkhaaGreatDoor
open Go Go.Eng Go.Bk Go.RowKit

theorem BJ8 (r:RyA) (W:World) (hL:Lw Tryz.prog W) (hR:RyOk W r) (hv:RyV r):Calls Tryz.prog 118 #[r.v] W (Pure (.string (bs (royalS r.pl))) W):=by
  obtain ⟨v1,v2,v3,v4,v5,_,_,_,_,_⟩:=id hv;have e0:rT1 r 0=lineS [wRoyal]:=by simp [rT1]
  have e1:rT2 r 0=rT1 r r.terms.l.length:=by simp [rT2]
  have e2:rT3 r 0=rT2 r r.prices.l.length:=by simp [rT3]
  have hl1:=BT4 hv;have hl2:=BT3 hv;have hl3:=Cy0 hv;refine Aa2 Tryz.func118 rfl rfl ?_;refine st ?_;refine zn (New.box rfl) (fun b1=>?_)
  refine lv (Val.makeInterface rfl Aw3) ?_;refine zn (New.buildSlice (parts:=[(0,.tmp 10)]) rfl Aq2 An3 rfl rfl rfl rfl) (fun b11=>?_)
  refine zc (zF rfl As1) (fun w hm=>(Ag2 [Part.s wRoyal] [wRoyal] rfl b11 w (hL.mono hm) (hm.at (.head _)) (by simp) (by intro p hp;simp only [List.mem_cons,List.not_mem_nil,or_false] at hp;obtain rfl:=hp;exact (show wRoyal.length≤40 by decide)) (by simp))) ?_;refine Ad6 (r.terms.l.length) (fun k q=>(16,.int .i64 (k:Int))::(3,.string (bs (rT1 r k)))::q) (fun _=>_) (fun _=>[]) (fun _=>True) trivial rfl (zE 16 rfl rfl (zE 3 rfl (by rw [e0]) (zS 1 rfl (zS 14 rfl (zS 15 rfl (Sub.nil _)))))) (.cons .here rfl (.cons .here rfl .nil)) ?_;intro k kN kI;clear kI;refine st ?_;refine cn rfl ?_ ?_
  ·intro c0'
   have hk:k < r.terms.l.length:=by omega
   obtain ⟨x,hx⟩:∃ x,r.terms.l[k]=x:=⟨_,rfl⟩;have hxm:x∈r.terms.l:=hx ▸ List.getElem_mem hk;have hk2:k < r.paid.l.length:=by omega
   obtain ⟨y,hy⟩:∃ y,r.paid.l[k]=y:=⟨_,rfl⟩;have hym:y∈r.paid.l:=hy ▸ List.getElem_mem hk2;refine st ?_;refine lv (Aa6 rfl rfl BS5 (by omega) (by omega) (Sl.ptrM hR.terms hk)) ?_;refine lv (Ab2 rfl (fun w hm=>Sl.loadX hR.terms (by decide) hm (by simp) BD8 hk hx)) ?_;refine zn (New.alloc Ch8) (fun b5=>?_)
   refine Ab4 (Sto.store rfl rfl .here BD8 rfl rfl) rfl rfl ?_;refine st ?_;refine Ae9 19 As5 (.cons .here rfl (.cons .here rfl (.cons .here rfl .nil))) ?_;refine zw 0 ?_;refine zv 1 rfl (Val.makeInterface rfl Aw3) ?_;refine zw 2 ?_;refine zw 3 ?_;refine zv 4 rfl (Val.makeInterface rfl Ar6) ?_;refine zw 5 ?_;refine zw 6 ?_;refine zv 7 rfl (Val.makeInterface rfl Ar6) ?_;refine zw 8 ?_;refine zw 9 ?_;refine zv 10 rfl (Val.makeInterface rfl Ar6) ?_;refine zw 11 ?_;refine zw 12 ?_;refine zw 13 ?_;refine zv 14 rfl (Aa6 rfl rfl Ak6 (by omega) (by omega) (Sl.ptrM hR.paid hk2)) ?_;refine zv 15 rfl (Ab2 rfl (fun w hm=>Sl.loadM1 hR.paid (by decide) hm (by simp) Af4 hk2 (v:=.int .i64 y) (by simp [intC,hy]))) ?_;refine zv 16 rfl (Val.makeInterface rfl Ar6) ?_;refine zA 17 ?_;refine Ae0 rfl (New.buildSlice (parts:=[(0,.tmp 22),(1,.tmp 25),(2,.tmp 28),(3,.tmp 31),(4,.tmp 37)]) rfl Aq2 An3 rfl rfl rfl rfl) rfl rfl rfl (fun b38=>(Aa5 (.cons .here rfl (.cons .here rfl (.cons .here rfl (.cons .here rfl .nil)))) (.cons (.there .here) rfl (.cons (.there .here) rfl (.cons (.there .here) rfl .nil))) rfl ?_))
   refine zA 18 ?_;refine Ac4 rfl (zF rfl As1) rfl rfl rfl (fun w hm=>(Ag2 [Part.s wAgent,Part.n x.first,Part.n x.upto,Part.n x.beyond,Part.n y] [wAgent,Lib.itoa x.first,Lib.itoa x.upto,Lib.itoa x.beyond,Lib.itoa y] rfl b38 w (hL.mono hm) (hm.at (.head _)) (by simp) (by intro p hp;simp only [List.mem_cons,List.not_mem_nil,or_false] at hp;rcases hp with rfl | rfl | rfl | rfl | rfl;exact (show wAgent.length≤40 by decide);exact (hv.tm x hxm).1;exact (hv.tm x hxm).2.1;exact (hv.tm x hxm).2.2;exact hv.pd y hym) (by simp))) (Aa5 (.cons .here rfl (.cons .here rfl (.cons .here rfl (.cons .here rfl .nil)))) (.cons .here rfl (.cons .here rfl (.cons .here rfl (.cons .here rfl .nil)))) rfl ?_)
   refine zt ?_;refine zo 19 rfl (Ak4 rfl rfl (by have:=AZ4 hv hxm hym;unfold agentS at this;have:=hl1 k;omega)) ?_;refine zp 20 ?_;refine zd ?_;refine st ?_;refine lv (Val.add rfl rfl (IntWalk.i64_in _ ⟨by omega,by omega⟩)) ?_;exact Ad2 (by omega) trivial rfl (zE 16 rfl rfl (zE 3 rfl (by rw [CR5 hv hk hx hy];rfl) (zS 1 rfl (zS 14 rfl (zS 15 rfl (Sub.nil _)))))) (.cons (.there (.there .here)) rfl (.cons (.there (.there .here)) rfl .nil))
  intro c0';obtain rfl:k=r.terms.l.length:=by omega
  refine RunC.exit ?_;refine su ?_;refine Ab0 ?_;refine su ?_;refine Ad6 (r.prices.l.length) (fun k q=>(45,.int .i64 (k:Int))::(3,.string (bs (rT2 r k)))::q) (fun _=>_) (fun _=>[]) (fun _=>True) trivial rfl (zE 45 rfl rfl (zE 3 rfl (by rw [e1]) (zS 1 rfl (zS 43 rfl (zS 44 rfl (Sub.nil _)))))) (.cons .here rfl (.cons .here rfl .nil)) ?_;intro k kN kI;clear kI;refine st ?_;refine cn rfl ?_ ?_
  ·intro c1'
   have hk:k < r.prices.l.length:=by omega
   obtain ⟨x,hx⟩:∃ x,r.prices.l[k]=x:=⟨_,rfl⟩;have hxm:x∈r.prices.l:=hx ▸ List.getElem_mem hk;have hk2:k < r.shares.l.length:=by omega
   obtain ⟨y,hy⟩:∃ y,r.shares.l[k]=y:=⟨_,rfl⟩;have hym:y∈r.shares.l:=hy ▸ List.getElem_mem hk2;refine st ?_;refine lv (Aa6 rfl rfl Ak6 (by omega) (by omega) (Sl.ptrM hR.prices hk)) ?_;refine lv (Ab2 rfl (fun w hm=>Sl.loadM1 hR.prices (by decide) hm (by simp) Af4 hk (v:=.int .i64 x) (by simp [intC,hx]))) ?_;refine lv (Val.makeInterface rfl Aw3) ?_;refine lu (Val.makeInterface rfl Ar6) ?_;refine lv (Aa6 rfl rfl BJ7 (by omega) (by omega) (Sl.ptrM hR.shares hk2)) ?_;refine lv (Ab2 rfl (fun w hm=>Sl.loadM1 hR.shares (by decide) hm (by simp) As7 hk2 (v:=y.v) (by simp [SA.cell,hy]))) ?_;refine lv (Val.makeInterface rfl BV2) ?_;refine zn (New.buildSlice (parts:=[(0,.tmp 51),(1,.tmp 53),(2,.tmp 59)]) rfl Aq2 An3 rfl rfl rfl rfl) (fun b60=>?_)
   refine zc (zF rfl As1) (fun w hm=>(Ag2 [Part.s wKind,Part.n x,Part.ns y] (wKind::Lib.itoa x::y.l.map Lib.itoa) (by simp [Part.words]) b60 w (hL.mono hm) (hm.at (.head _)) (by simp) (by intro p hp;simp only [List.mem_cons,List.not_mem_nil,or_false] at hp;rcases hp with rfl | rfl | rfl;exact (show wKind.length≤40 by decide);exact hv.pr x hxm;exact ⟨(hR.rows y hym).mono0 (by decide) hm,by have:=(hv.sh y hym).1;omega,(hv.sh y hym).2⟩) (by have:=(hv.sh y hym).1;simp;omega))) ?_;refine lv (Ak4 rfl rfl (by have:=Bn5 hv hxm hym;unfold kindS at this;have:=hl2 k;omega)) ?_;refine lv (Val.add rfl rfl (IntWalk.i64_in _ ⟨by omega,by omega⟩)) ?_;exact Ad2 (by omega) trivial rfl (zE 45 rfl rfl (zE 3 rfl (by rw [CR4 hv hk hx hy];rfl) (zS 1 rfl (zS 43 rfl (zS 44 rfl (Sub.nil _)))))) (.cons (.there .here) rfl (.cons (.there .here) rfl .nil))
  intro c1';obtain rfl:k=r.prices.l.length:=by omega
  refine RunC.exit ?_;refine su ?_;refine Ab0 ?_;refine su ?_;refine Ad6 (r.reports.l.length) (fun k q=>(67,.int .i64 (k:Int))::(3,.string (bs (rT3 r k)))::q) (fun _=>_) (fun _=>[]) (fun _=>True) trivial rfl (zE 67 rfl rfl (zE 3 rfl (by rw [e2]) (zS 1 rfl (zS 65 rfl (zS 66 rfl (Sub.nil _)))))) (.cons .here rfl (.cons .here rfl .nil)) ?_;intro k kN kI;clear kI;refine st ?_;refine cn rfl ?_ ?_
  ·intro c2'
   have hk:k < r.reports.l.length:=by omega
   obtain ⟨x,hx⟩:∃ x,r.reports.l[k]=x:=⟨_,rfl⟩;have hxm:x∈r.reports.l:=hx ▸ List.getElem_mem hk;refine st ?_;refine lv (Aa6 rfl rfl AT6 (by omega) (by omega) (Sl.ptrM hR.reports hk)) ?_;refine lv (Ab2 rfl (fun w hm=>Sl.loadX hR.reports (by decide) hm (by simp) AA3 hk hx)) ?_;refine zn (New.alloc Ba9) (fun b9=>?_)
   refine Ab4 (Sto.store rfl rfl .here AA3 rfl rfl) rfl rfl ?_;refine st ?_;refine lu (Val.makeInterface rfl Aw3) ?_
   iterate 3 refine lu (Val.makeInterface rfl Ar6) ?_
   refine lv (Val.makeInterface rfl Ar6) ?_;refine zn (New.buildSlice (parts:=[(0,.tmp 72),(1,.tmp 75),(2,.tmp 78),(3,.tmp 81),(4,.tmp 84)]) rfl Aq2 An3 rfl rfl rfl rfl) (fun b85=>?_)
   refine zc (zF rfl As1) (fun w hm=>(Ag2 [Part.s wReport,Part.n x.agent,Part.n x.kind,Part.n x.first,Part.n x.last] [wReport,Lib.itoa x.agent,Lib.itoa x.kind,Lib.itoa x.first,Lib.itoa x.last] rfl b85 w (hL.mono hm) (hm.at (.head _)) (by simp) (by intro p hp;simp only [List.mem_cons,List.not_mem_nil,or_false] at hp;rcases hp with rfl | rfl | rfl | rfl | rfl;exact (show wReport.length≤40 by decide);exact (hv.rp x hxm).1;exact (hv.rp x hxm).2.1;exact (hv.rp x hxm).2.2.1;exact (hv.rp x hxm).2.2.2) (by simp))) ?_;refine lv (Ak4 rfl rfl (by have:=AO6 hv hxm;unfold reportS at this;have:=hl3 k;omega)) ?_;refine lv (Val.add rfl rfl (IntWalk.i64_in _ ⟨by omega,by omega⟩)) ?_;exact Ad2 (by omega) trivial rfl (zE 67 rfl rfl (zE 3 rfl (by rw [CR3 hk hx];rfl) (zS 1 rfl (zS 65 rfl (zS 66 rfl (Sub.nil _)))))) (.cons (.there (.there .here)) rfl (.cons (.there (.there .here)) rfl .nil))
  intro c2';obtain rfl:k=r.reports.l.length:=by omega
  refine RunC.exit ?_;refine su ?_;refine Ab0 ?_;refine su ?_;exact Aa4 (.r1 rfl (.tmp rfl)) (by rw [Ck3 hv])
end Go.Proofs.YtmkdbdbenfbkhaaGreatDoor
namespace Go.Proofs.YtmkdbdbenfbkhaaGreatDoor
open Go Go.Eng
theorem CS5:apB Tryz.prog 52=some (5,1,1):=by kernel_rfl
theorem BZ3:fieldB Tryz.prog 129 0=some 0:=by kernel_rfl
instance:Fld Tryz.prog 129 0 0:=⟨BZ3⟩
theorem Ck0:slB Tryz.prog 52=some (5,1):=by kernel_rfl
instance:Slc Tryz.prog 52 5 1:=⟨Ck0⟩
theorem CS7:tyB Tryz.prog 5=some (false,1):=by kernel_rfl
instance:Tyc Tryz.prog 5 false 1:=⟨CS7⟩
theorem Ci9:Tryz.prog.underlying 3=some (.int .i64):=by kernel_rfl
theorem Ci8:Tryz.prog.underlying 5=some (.int .u8):=by kernel_rfl
theorem Cr1:zeroB Tryz.prog 5=some [.int .u8 0]:=by kernel_rfl
end Go.Proofs.YtmkdbdbenfbkhaaGreatDoor
namespace Go.Bk
open Go Go.Eng Go.RowKit
def byC (c:UInt8):List Value:=[byteV c]
theorem Cq3 (l:Str):byc l=(l.map byC).flatten:=by
  unfold byc byC
  induction l with
  | nil=>rfl
  | cons a l ih=>simp only [List.map_cons,List.flatten_cons,← ih];rfl
def putS (n:Int):Str:=[UInt8.ofNat (n.toNat / 256),UInt8.ofNat (n.toNat % 256)]
def spanB (s:Sp):Str:=putS s.lo++putS (s.hi - s.lo)
def cardB (c:Pt):Str:=spanB c.size++spanB c.wide++putS c.marks
def checkN (l:Str):Nat:=l.foldl (fun n c=>(n * 31 + c.toNat) % 65521) 0
theorem Br7 (l:Str):checkN l < 65521:=by
  unfold checkN
  have key:∀ (l:Str) (n:Nat),n < 65521→l.foldl (fun n c=>(n * 31 + c.toNat) % 65521) n < 65521:=by
    intro l
    induction l with
    | nil=>intro n h;exact h
    | cons a l ih=>intro n _;exact ih _ (Nat.mod_lt _ (by decide))
  exact key l 0 (by decide)
def headB (p:Ps):Str:=[80,UInt8.ofNat p.cards.length]
def psB (p:Ps):Str:=headB p++(p.cards.map cardB).flatten++spanB p.less++spanB p.loss
def psS (p:Ps):Str:=psB p++putS (checkN (psB p):Int)
def In16 (n:Int):Prop:=0≤n∧n < 65536
theorem Cz5 {n:Int} (h:In16 n):IntKind.u8.wrap (n / 2 ^ (8:Int).toNat)=((UInt8.ofNat (n.toNat / 256)).toNat:Int):=by
  obtain ⟨h1,h2⟩:=h;have e1:(8:Int).toNat=8:=rfl;have e2:IntKind.u8.wrap (n / 2 ^ (8:Int).toNat)=(n / 2 ^ (8:Int).toNat) % 256:=rfl;rw [e2,e1];simp only [UInt8.toNat_ofNat'];omega
theorem Cy9 {n:Int} (h:In16 n):IntKind.u8.wrap n=((UInt8.ofNat (n.toNat % 256)).toNat:Int):=by
  obtain ⟨h1,h2⟩:=h;have e2:IntKind.u8.wrap n=n % 256:=rfl;rw [e2];simp only [UInt8.toNat_ofNat'];omega
def numT (l:Str) (ns:List Int) (k:Nat):Str:=l++((ns.take k).map putS).flatten
theorem BF0 {l:Str} {ns:List Int} {k:Nat} (hk:k < ns.length) {x:Int} (hx:ns[k]=x):numT l ns (k + 1)=numT l ns k++putS x:=by
  unfold numT;rw [List.take_succ_eq_append_getElem hk,List.map_append,List.flatten_append,hx];simp
theorem BF1 {l:Str} {ns:List Int}:∀ {k:Nat},k≤ns.length→(numT l ns k).length=l.length + 2 * k
  | 0,_=>by simp [numT]
  | k + 1,h=>by
    rw [BF0 (by omega) rfl,List.length_append,BF1 (by omega)];simp only [putS,List.length_cons,List.length_nil];omega
theorem BN0 {l:Str} {k:Nat} (hk:k < l.length) {c:UInt8} (hc:l[k]=c):checkN (l.take (k + 1))=(checkN (l.take k) * 31 + c.toNat) % 65521:=by
  unfold checkN;rw [List.take_succ_eq_append_getElem hk,List.foldl_append,hc];rfl
end Go.Bk
namespace Go.Proofs.YtmkdbdbenfbkhaaGreatDoor
open Go Go.Eng Go.Bk Go.RowKit

abbrev fiO (y:Eng.Own) (n:Nat):Obj:=.cells [ownV y n].toArray 129 (0,0)
abbrev fiM (f:Nat) (y:Eng.Own) (l:Str) (tl:Blks):Blks:=(f,fiO y l.length)::(ownB 5 y (byc l)++tl)
theorem AY6 (f:Nat) (ns:List Int) (q:Option Addr) (b o c:Nat) (x:Eng.Own) (l:Str) (rest:Blks) (W0 w:World) (hm0:Mem W0 [] (fiM f x l (rest++[])) w) (hx:OwnOk 1 x l.length (byc l)) (hS:∀ w',Mem W0 [] (rest++[]) w'→Sl w' q b o 1 (ns.map intC)) (hn:ns.length≤100) (h16:∀ n∈ns,In16 n) (hb:l.length≤1000000) :
    Calls Tryz.prog 51 #[.pointer (some ⟨f,0,none⟩),.slice q ns.length c] w (Grow W0 [] (fun _:Eng.Own=>.tuple #[]) (fun y=>fiM f y (numT l ns ns.length) (rest++[])) (fun y=>OwnOk 1 y (numT l ns ns.length).length (byc (numT l ns ns.length)))):=by
  have e0:numT l ns 0=l:=by simp [numT]
  have hS0:=hS w (hm0.pick (Pick.cnt fun x=>by simp only [nC];omega));refine Af0 hm0 Tryz.func51 rfl rfl ?_;refine su ?_;refine Aj3 (X:=Eng.Own) (n0:=[]) (ns.length) (fun k y q=>(8,.int .i64 (k:Int))::q) (fun _ _=>_) (fun k y=>[(f,fiO y (numT l ns k).length)]) (fun k y=>ownB 5 y (byc (numT l ns k))++(rest++[])) (fun k y=>OwnOk 1 y (numT l ns k).length (byc (numT l ns k))) x (by rw [e0];exact hx) rfl (zE 8 rfl rfl (zS 0 rfl (zS 6 rfl (zS 7 rfl (Sub.nil _))))) (.cons .here (by rw [e0]) (Pick.same (by rw [e0];rfl))) ?_;intro k y kN kI;refine st ?_;refine cn rfl ?_ ?_
  ·intro c0'
   have hk:k < ns.length:=by omega
   obtain ⟨n,hy⟩:∃ n,ns[k]=n:=⟨_,rfl⟩;have hn16:=h16 n (hy ▸ List.getElem_mem hk);have hlk:=BF1 (l:=l) (ns:=ns) (k:=k) (by omega);refine st ?_;refine lv (Aa6 rfl rfl Ak6 (by omega) (by omega) (Sl.ptrM hS0 hk)) ?_;refine lu (Ab2 rfl (fun w hm=>Sl.loadM1 (hS w (hm.pick (Pick.cnt fun x=>by simp only [nC];omega))) (by decide) (Mem.refl w) (by simp) Af4 hk (v:=.int .i64 n) (by simp [intC,hy]))) ?_;refine lv (Val.shr rfl rfl hn16.1 (by decide) (by decide)) ?_;refine lv (Ax5 rfl Ci9 Ci8 (Cz5 hn16)) ?_;refine lv (Ax5 rfl Ci9 Ci8 (Cy9 hn16)) ?_;refine zn (New.buildSlice (parts:=[(0,.tmp 19),(1,.tmp 21)]) rfl Ck0 Cr1 rfl rfl rfl rfl) (fun b22=>?_)
   refine RunL.append (A:=[(b22,_),(f,_)]) (B:=_) (x:=y) (ys:=byc (putS n)) CS5 rfl rfl rfl kI rfl (fun h=>by cases h) (fun w hm=>Ah3 (hm.at (.head _))) (Ak2 rfl) (by simp only [maxLen];omega) (by omega) rfl (fun z23 hz23=>?_)
   refine su ?_;refine Ab4 (An1 rfl rfl (.there .here) Cj1 rfl rfl) rfl rfl ?_;refine st ?_;refine lv (Val.add rfl rfl (IntWalk.i64_in _ ⟨by omega,by omega⟩)) ?_;exact Ae7 z23 (by omega) (by rw [BF0 hk hy,List.length_append,Bf9];exact hz23) rfl (zE 8 rfl rfl (zS 0 rfl (zS 6 rfl (zS 7 rfl (Sub.nil _))))) (.cons (.there .here) (by rw [BF0 hk hy,List.length_append];rfl) (Pick.skip (Pick.same (by rw [BF0 hk hy,Bf9];rfl))))
  intro c0';obtain rfl:k=ns.length:=by omega
  refine RunC.exit ?_;refine su ?_;refine Ab0 ?_;exact Ax8 y kI (.r0 rfl) rfl (.cons .here rfl (Pick.refl _))
theorem Bq4 (f:Nat) (l:Str) (q:Option Addr) (b o c:Nat) (cs:List Value) (T:TypeId) (W:World) (hf:W.heap[f]? = some (.cells (.slice q l.length c::cs).toArray T (0,0))) (hS:Sl W q b o 1 (l.map byC)) (hl:l.length≤1000000) :
    Calls Tryz.prog 52 #[.pointer (some ⟨f,0,none⟩)] W (Pure (.int .i64 (checkN l:Int)) W):=by
  have hc0:∀ k,checkN (l.take k) < 65521:=fun k=>Br7 _
  refine Aa2 Tryz.func52 rfl rfl ?_;refine su ?_;refine lu (Aa9 rfl hf (by simp) Cj1 rfl) ?_;refine Ad6 (l.length) (fun k q=>(10,.int .i64 (k:Int))::(2,.int .i64 (checkN (l.take k):Int))::q) (fun _=>_) (fun _=>[]) (fun _=>True) trivial rfl (zE 10 rfl rfl (zE 2 rfl rfl (zS 8 rfl (zS 9 rfl (Sub.nil _))))) .nil ?_;intro k kN kI;clear kI;refine st ?_;refine cn rfl ?_ ?_
  ·intro c0'
   have hk:k < l.length:=by omega
   obtain ⟨y,hy⟩:∃ y,l[k]=y:=⟨_,rfl⟩;have hck:=hc0 k;have hy8:=y.toNat_lt;refine st ?_;refine lv (Aa6 rfl rfl Ck0 (by omega) (by omega) (Sl.ptrM hS hk)) ?_;refine lv (Ab2 rfl (fun w hm=>Sl.loadM1 hS (by decide) hm (by simp) CS7 hk (v:=byteV y) (by simp [byC,hy]))) ?_;refine lv (Val.mul rfl rfl (IntWalk.i64_in _ ⟨by omega,by omega⟩)) ?_;refine lv (BB4 rfl Ci8 Ci9 (IntWalk.i64_in _ ⟨by omega,by omega⟩)) ?_;refine lv (Val.add rfl rfl (IntWalk.i64_in _ ⟨by omega,by omega⟩)) ?_;refine lv (Val.rem rfl rfl (by omega) (by omega)) ?_;refine lv (Val.add rfl rfl (IntWalk.i64_in _ ⟨by omega,by omega⟩)) ?_;exact Ad2 (by omega) trivial rfl (zE 10 rfl rfl (zE 2 rfl (by rw [BN0 hk hy];simp) (zS 8 rfl (zS 9 rfl (Sub.nil _))))) .nil
  intro c0';obtain rfl:k=l.length:=by omega
  rw [List.take_length];refine RunC.exit ?_;refine su ?_;refine Ab0 ?_;refine su ?_;exact Aa4 (.r1 rfl (.tmp rfl)) (by first | rfl | simp)
end Go.Proofs.YtmkdbdbenfbkhaaGreatDoor
namespace Go.Proofs.YtmkdbdbenfbkhaaGreatDoor
open Go Go.Eng
theorem Cu3:Enters Tryz.prog 49:=Aa3 Tryz.func49 (by kernel_rfl) rfl
theorem BG8:Enters Tryz.prog 50:=Aa3 Tryz.func50 (by kernel_rfl) rfl
theorem Ca1:Enters Tryz.prog 51:=Aa3 Tryz.func51 (by kernel_rfl) rfl
theorem CM4:Enters Tryz.prog 52:=Aa3 Tryz.func52 (by kernel_rfl) rfl
theorem BK9:placesB Tryz.prog 129=some [(0,1)]:=by kernel_rfl
theorem Bv0:tyB Tryz.prog 39=some (true,5):=by kernel_rfl
instance:Tyc Tryz.prog 39 true 5:=⟨Bv0⟩
theorem Ch9:zeroB Tryz.prog 129=some [.slice none 0 0]:=by kernel_rfl
theorem Bu4:zeroB Tryz.prog 75=some [.int .i64 0,.int .i64 0,.int .i64 0,.int .i64 0,.int .i64 0]:=by kernel_rfl
end Go.Proofs.YtmkdbdbenfbkhaaGreatDoor
namespace Go.Bk
open Go Go.Eng Go.RowKit
theorem BU4 {x:Eng.Own} {l:Str} {e:TypeId} {w:World} (h:OwnOk 1 x l.length (byc l)) (hm:∀ b o,(b,o)∈ownB e x (byc l)→w.heap[b]? = some o):Sl w (ownQ x) (ownK x) 0 1 (l.map byC):=by
  rw [Cq3] at h hm;exact Ah1 (f:=byC) (fun _=>rfl) (by decide) h hm
theorem CR8 (l:Str) (a:Int):numT l [a] [a].length=l++putS a:=by simp [numT]
theorem CR7 (l:Str) (a b:Int):numT l [a,b] [a,b].length=l++(putS a++putS b):=by simp [numT]
def Sp16 (s:Sp):Prop:=0≤s.lo∧s.lo≤s.hi∧s.hi≤16384
theorem CP3 {s:Sp} (h:spanX s 16384=true):Sp16 s:=by
  simp only [spanX,Bool.and_eq_true,decide_eq_true_eq] at h;exact ⟨h.1.1,h.1.2,h.2⟩
structure PsV (p:PsA):Prop where
  cards:p.cards.l.length≤5
  each:∀ c∈p.cards.l,Sp16 c.size∧Sp16 c.wide∧0≤c.marks∧c.marks≤1023
  less:Sp16 p.less
  loss:Sp16 p.loss
theorem Ck9 {p:PsA} (h:printsX p.pl=true):PsV p:=by
  simp only [printsX,Bool.and_eq_true,Bool.not_eq_true',decide_eq_true_eq] at h;obtain ⟨⟨⟨h1,h2⟩,h3⟩,h4⟩:=h;refine ⟨h1,fun c hc=>?_,CP3 h3,CP3 h4⟩
  have h:=AZ3 h2 hc;simp only [badPt,within,Bool.or_eq_false_iff,Bool.not_eq_false',Bool.and_eq_true,decide_eq_true_eq] at h;exact ⟨CP3 h.1.1,CP3 h.1.2,h.2.1,h.2.2⟩
def pT (p:PsA) (k:Nat):Str:=headB p.pl++((p.cards.l.take k).map cardB).flatten
theorem CP4 {p:PsA} {k:Nat} (hk:k < p.cards.l.length) {x:Pt} (hx:p.cards.l[k]=x):pT p (k + 1)=pT p k++spanB x.size++spanB x.wide++putS x.marks:=by
  unfold pT;rw [List.take_succ_eq_append_getElem hk,List.map_append,List.flatten_append,hx];simp [cardB]
theorem Ct3 {p:PsA}:∀ {k:Nat},k≤p.cards.l.length→(pT p k).length=2 + 10 * k
  | 0,_=>by simp [pT,headB]
  | k + 1,h=>by
    rw [CP4 (by omega) rfl];simp only [List.length_append,Ct3 (p:=p) (k:=k) (by omega),spanB,putS,List.length_cons,List.length_nil];omega
theorem CJ4 (p:PsA):psB p.pl=pT p p.cards.l.length++spanB p.less++spanB p.loss:=by
  unfold psB pT;rw [List.take_length];rfl
end Go.Bk
namespace Go.Proofs.YtmkdbdbenfbkhaaGreatDoor
open Go Go.Eng Go.Bk Go.RowKit

theorem By1 (f:Nat) (s:Sp) (x:Eng.Own) (l:Str) (rest:Blks) (W0 w:World) (hm0:Mem W0 [] (fiM f x l (rest++[])) w) (hx:OwnOk 1 x l.length (byc l)) (hs:Sp16 s) (hb:l.length≤1000000) :
    Calls Tryz.prog 50 #[.pointer (some ⟨f,0,none⟩),.agg s.cells.toArray] w (Grow W0 [] (fun _:Eng.Own=>.tuple #[]) (fun y=>fiM f y (l++spanB s) (rest++[])) (fun y=>OwnOk 1 y (l++spanB s).length (byc (l++spanB s)))):=by
  obtain ⟨s1,s2,s3⟩:=hs;refine Af0 hm0 Tryz.func50 rfl rfl ?_;refine st ?_;refine zn (New.box rfl) (fun b3=>?_)
  refine lv (Aj9 rfl rfl (IntWalk.i64_in _ ⟨by omega,by omega⟩)) ?_;refine zn (New.buildSlice (parts:=[(0,.tmp 6),(1,.tmp 11)]) rfl Ak6 Ap0 rfl rfl rfl rfl) (fun b12=>?_)
  refine Ag7 (zF rfl Ca1) rfl rfl rfl (fun w hm=>(by have hm2:Mem W0 [] ((b12,.cells [.int .i64 s.lo,.int .i64 (s.hi - s.lo)].toArray 3 (0,0))::(b3,.cells s.cells.toArray 37 (0,0))::(fiM f x l (rest++[]))) w:=hm;have h:=AY6 f [s.lo,s.hi - s.lo] (some ⟨b12,0,none⟩) b12 0 2 x l ((b12,.cells [.int .i64 s.lo,.int .i64 (s.hi - s.lo)].toArray 3 (0,0))::rest) W0 w (hm2.pick (Pick.cnt fun x=>by simp only [nC];omega)) hx (fun w2 h2=>Sl.rowsR (xs:=[s.lo,s.hi - s.lo].map intC) (t:=[]) (h2.newd _ _ (.head _)).2 (by simp [intC])) (by simp) (by intro n hn;simp only [List.mem_cons,List.not_mem_nil,or_false] at hn;rcases hn with rfl | rfl <;> (unfold In16;omega)) hb;simp only [CR7] at h;exact Ao9 (nw':=fun y=>fiM f y (l++spanB s) (rest++[])) h (fun y=>by simp only [spanB];exact (Pick.cnt fun x=>by simp only [nC];omega)))) (fun z13 hz13=>?_)
  
  refine st ?_;exact Ax8 z13 hz13 (.r0 rfl) rfl (.cons .here rfl (Pick.refl _))
abbrev psO (p:PsA):Obj:=.cells p.cells.toArray 39 (0,0)
abbrev ptO (c:Pt):Obj:=.cells c.cells.toArray 75 (0,0)
theorem At0 (A B:Blks) (f:Nat) (s:Sp) (x:Eng.Own) (l:Str) (W0 w:World) (hm0:Mem W0 [] (A++((f,fiO x l.length)::(B++(ownB 5 x (byc l)++[])))) w) (hx:OwnOk 1 x l.length (byc l)) (hs:Sp16 s) (hb:l.length≤1000000) :
    Calls Tryz.prog 50 #[.pointer (some ⟨f,0,none⟩),.agg s.cells.toArray] w (Grow W0 [] (fun _:Eng.Own=>.tuple #[]) (fun y=>A++((f,fiO y (l++spanB s).length)::(B++(ownB 5 y (byc (l++spanB s))++[])))) (fun y=>OwnOk 1 y (l++spanB s).length (byc (l++spanB s)))) :=
  Ao9 (By1 f s x l (A++B) W0 w (hm0.pick (Pick.cnt fun x=>by simp only [nC];omega)) hx hs hb) (fun y=>(Pick.cnt fun x=>by simp only [nC];omega))
theorem AQ1 (A B:Blks) (f b:Nat) (n:Int) (x:Eng.Own) (l:Str) (W0 w:World) (hm0:Mem W0 [] ((b,.cells [.int .i64 n].toArray 3 (0,0))::(A++((f,fiO x l.length)::(B++(ownB 5 x (byc l)++[]))))) w) (hx:OwnOk 1 x l.length (byc l)) (hs:In16 n) (hb:l.length≤1000000) :
    Calls Tryz.prog 51 #[.pointer (some ⟨f,0,none⟩),.slice (some ⟨b,0,none⟩) 1 1] w (Grow W0 [] (fun _:Eng.Own=>.tuple #[]) (fun y=>A++((f,fiO y (l++putS n).length)::(B++(ownB 5 y (byc (l++putS n))++[])))) (fun y=>OwnOk 1 y (l++putS n).length (byc (l++putS n)))):=by
  have h:=AY6 f [n] (some ⟨b,0,none⟩) b 0 1 x l ((b,.cells [.int .i64 n].toArray 3 (0,0))::(A++B)) W0 w (hm0.pick (Pick.cnt fun x=>by simp only [nC];omega)) hx
    (fun w2 h2=>Sl.rowsR (xs:=[n].map intC) (t:=[]) (h2.newd _ _ (.head _)).2 (by simp [intC])) (by simp) (by intro m hm;simp only [List.mem_cons,List.not_mem_nil,or_false] at hm;subst hm;exact hs) hb
  simp only [CR8] at h;exact Ao9 h (fun y=>(Pick.cnt fun x=>by simp only [nC];omega))
theorem AT2 (p:PsA) (W:World) (hP:p.cards.ok Pt.cells 5 W) (hv0:printsX p.pl=true):Calls Tryz.prog 13 #[p.v] W (Grow W [] (fun y:Eng.Own=>.tuple #[ownV y (psS p.pl).length,.int .i64 0]) (fun y=>ownB 5 y (byc (psS p.pl))++[]) (fun y=>OwnOk 1 y (psS p.pl).length (byc (psS p.pl)))):=by
  have hv:=Ck9 hv0;have hc5:=hv.cards;have hpl:∀ k,k≤p.cards.l.length→(pT p k).length=2 + 10 * k:=fun k hk=>Ct3 hk
  have hpl5:=hpl _ (Nat.le_refl _);have hck:=Br7 (psB p.pl);have hB:=CJ4 p;have hsl:∀ s,(spanB s).length=4:=fun s=>rfl
  refine Aa2 Tryz.func13 rfl rfl ?_;refine st ?_;refine zn (New.box rfl) (fun b1=>?_)
  refine zc (zF rfl Cu3) (fun w hm=>AA8 p (by omega) w (hP.mono0 (by decide) hm)) ?_;refine RunC.cond rfl (fun h=>absurd h (by simp [hv0])) ?_;intro c0;clear c0;refine su ?_;refine lv (Ax5 rfl Ci9 Ci8 (q:=((UInt8.ofNat p.cards.l.length).toNat:Int)) (by have e:IntKind.u8.wrap (p.cards.l.length:Int)=(p.cards.l.length:Int) % 256:=rfl;rw [e];simp)) ?_;refine zn (New.buildSlice (parts:=[(0,.const (.int .u8 80)),(1,.tmp 13)]) rfl Ck0 Cr1 rfl rfl rfl rfl) (fun b14=>?_)
  refine lv (Val.build (parts:=[(0,.tmp 14)]) rfl Ch9 BK9 rfl) ?_;refine zn (New.box rfl) (fun b16=>?_)
  refine Aj3 (X:=Eng.Own) (n0:=[(b1,_)]) (p.cards.l.length) (fun k y q=>(20,.int .i64 (k:Int))::q) (fun _ _=>_) (fun k y=>[(b16,fiO y (pT p k).length)]) (fun k y=>ownB 5 y (byc (pT p k))++[]) (fun k y=>OwnOk 1 y (pT p k).length (byc (pT p k))) (some (b14,2,[])) ⟨rfl,fun h=>(by cases h),fun b c r h=>by cases h;exact ⟨Nat.le_refl _,by decide,rfl⟩⟩ rfl (zE 20 rfl rfl (zS 1 rfl (zS 4 rfl (zS 18 rfl (zS 19 rfl (Sub.nil _)))))) (.cons .here rfl (.cons (.there .here) rfl (Pick.same (by rfl)))) ?_;intro k y kN kI;refine st ?_;refine cn rfl ?_ ?_
  ·intro c1'
   have hk:k < p.cards.l.length:=by omega
   obtain ⟨x,hx⟩:∃ x,p.cards.l[k]=x:=⟨_,rfl⟩;have hxv:=hv.each x (hx ▸ List.getElem_mem hk);have hlk:=hpl k (by omega);refine st ?_;refine lv (Aa6 rfl rfl AK2 (by omega) (by omega) (Sl.ptrM hP hk)) ?_;refine lv (Ab2 rfl (fun w hm=>Sl.loadX hP (by decide) hm (by simp) BI8 hk hx)) ?_;refine zn (New.alloc Bu4) (fun b6=>?_)
   refine Ab4 (Sto.store rfl rfl .here BI8 rfl rfl) rfl rfl ?_;refine su ?_;refine Ag7 (zF rfl BG8) rfl rfl rfl (fun w hm=>(show Calls _ _ _ w (Grow W [] _ (fun z:Eng.Own=>(b6,ptO x)::(b16,fiO z (pT p k++spanB x.size).length)::(b1,psO p)::(ownB 5 z (byc (pT p k++spanB x.size))++[])) _) from At0 [(b6,ptO x)] [(b1,psO p)] b16 x.size y (pT p k) W w hm kI hxv.1 (by omega))) (fun z27 hz27=>?_)
   
   refine su ?_;refine Ag7 (zF rfl BG8) rfl rfl rfl (fun w hm=>(show Calls _ _ _ w (Grow W [] _ (fun z:Eng.Own=>(b6,ptO x)::(b16,fiO z (pT p k++spanB x.size++spanB x.wide).length)::(b1,psO p)::(ownB 5 z (byc (pT p k++spanB x.size++spanB x.wide))++[])) _) from At0 [(b6,ptO x)] [(b1,psO p)] b16 x.wide z27 (pT p k++spanB x.size) W w hm hz27 hxv.2.1 (by rw [List.length_append,hsl];omega))) (fun z31 hz31=>?_)
   
   refine su ?_;refine zn (New.buildSlice (parts:=[(0,.tmp 34)]) rfl Ak6 Ap0 rfl rfl rfl rfl) (fun b35=>?_)
   refine Ag7 (zF rfl Ca1) rfl rfl rfl (fun w hm=>(show Calls _ _ _ w (Grow W [] _ (fun z:Eng.Own=>(b6,ptO x)::(b16,fiO z (pT p k++spanB x.size++spanB x.wide++putS x.marks).length)::(b1,psO p)::(ownB 5 z (byc (pT p k++spanB x.size++spanB x.wide++putS x.marks))++[])) _) from AQ1 [(b6,ptO x)] [(b1,psO p)] b16 b35 x.marks z31 (pT p k++spanB x.size++spanB x.wide) W w hm hz31 (by unfold In16;omega) (by rw [List.length_append,List.length_append,hsl,hsl];omega))) (fun z36 hz36=>?_)
   
   refine st ?_;refine lv (Val.add rfl rfl (IntWalk.i64_in _ ⟨by omega,by omega⟩)) ?_;exact Ae7 z36 (by omega) (by rw [CP4 hk hx];exact hz36) rfl (zE 20 rfl rfl (zS 1 rfl (zS 4 rfl (zS 18 rfl (zS 19 rfl (Sub.nil _)))))) (.cons (.there .here) (by rw [CP4 hk hx]) (.cons (.there .here) rfl (Pick.skip (Pick.same (by rw [CP4 hk hx];rfl)))))
  intro c1';obtain rfl:k=p.cards.l.length:=by omega
  refine RunC.exit ?_;refine su ?_;refine Ab0 ?_;refine su ?_;refine Ag7 (zF rfl BG8) rfl rfl rfl (fun w hm=>(show Calls _ _ _ w (Grow W [] _ (fun z:Eng.Own=>(b16,fiO z (pT p p.cards.l.length++spanB p.less).length)::(b1,psO p)::(ownB 5 z (byc (pT p p.cards.l.length++spanB p.less))++[])) _) from At0 [] [(b1,psO p)] b16 p.less y (pT p p.cards.l.length) W w hm kI hv.less (by omega))) (fun z41 hz41=>?_)
  
  refine su ?_;refine Ag7 (zF rfl BG8) rfl rfl rfl (fun w hm=>(show Calls _ _ _ w (Grow W [] _ (fun z:Eng.Own=>(b16,fiO z (psB p.pl).length)::(b1,psO p)::(ownB 5 z (byc (psB p.pl))++[])) (fun z=>OwnOk 1 z (psB p.pl).length (byc (psB p.pl)))) from hB ▸ At0 [] [(b1,psO p)] b16 p.loss z41 (pT p p.cards.l.length++spanB p.less) W w hm hz41 hv.loss (by rw [List.length_append,hsl];omega))) (fun z45 hz45=>?_)
  
  refine st ?_;refine zc (zF rfl CM4) (fun w hm=>(Bq4 b16 (psB p.pl) (ownQ z45) (ownK z45) 0 (ownC z45) [] 129 w (by rw [← Ad5 hz45];exact hm.at (.head _)) (BU4 hz45 (fun b o h=>hm.at (.tail _ (.tail _ ((by first | exact List.mem_append_left _ h | exact List.mem_append_right _ (List.mem_append_left _ h))))))) (by rw [hB];simp only [List.length_append,hsl];omega))) ?_;refine zn (New.buildSlice (parts:=[(0,.tmp 48)]) rfl Ak6 Ap0 rfl rfl rfl rfl) (fun b49=>?_)
  refine Ag7 (zF rfl Ca1) rfl rfl rfl (fun w hm=>(show Calls _ _ _ w (Grow W [] _ (fun z:Eng.Own=>(b16,fiO z (psS p.pl).length)::(b1,psO p)::(ownB 5 z (byc (psS p.pl))++[])) (fun z=>OwnOk 1 z (psS p.pl).length (byc (psS p.pl)))) from AQ1 [] [(b1,psO p)] b16 b49 (checkN (psB p.pl):Int) z45 (psB p.pl) W w hm hz45 (by unfold In16;omega) (by rw [hB];simp only [List.length_append,hsl];omega))) (fun z50 hz50=>?_)
  
  refine su ?_;exact Au5 z50 hz50 (.r2 rfl (.tmp rfl) (.tmp rfl)) rfl (Pick.skip (Pick.skip (Pick.refl _)))
theorem AT3 (p:PsA) (hl:p.cards.l.length≤10000) (W:World) (hP:p.cards.ok Pt.cells 5 W) (hv0:printsX p.pl=false):Calls Tryz.prog 13 #[p.v] W (Pure (.tuple #[.slice none 0 0,.int .i64 1]) W):=by
  refine Aa2 Tryz.func13 rfl rfl ?_;refine st ?_;refine zn (New.box rfl) (fun b1=>?_)
  refine zc (zF rfl Cu3) (fun w hm=>AA8 p hl w (hP.mono0 (by decide) hm)) ?_;refine RunC.cond rfl ?_ (fun h=>absurd h (by simp [hv0]))
  intro c0;clear c0;refine su ?_;exact Aa4 (.r2 rfl (.tmp rfl) (.tmp rfl)) (by first | rfl | simp)
end Go.Proofs.YtmkdbdbenfbkhaaGreatDoor
namespace Go.Proofs.YtmkdbdbenfbkhaaGreatDoor
open Go Go.Eng
theorem CF6:Enters Tryz.prog 105:=Aa3 Tryz.func105 (by kernel_rfl) rfl
theorem CF4:Enters Tryz.prog 112:=Aa3 Tryz.func112 (by kernel_rfl) rfl
theorem CF2:Enters Tryz.prog 118:=Aa3 Tryz.func118 (by kernel_rfl) rfl
theorem CF1:Enters Tryz.prog 123:=Aa3 Tryz.func123 (by kernel_rfl) rfl
theorem Cu9:Enters Tryz.prog 28:=Aa3 Tryz.func28 (by kernel_rfl) rfl
theorem Cu8:Enters Tryz.prog 29:=Aa3 Tryz.func29 (by kernel_rfl) rfl
theorem CN1:Enters Tryz.prog 36:=Aa3 Tryz.func36 (by kernel_rfl) rfl
theorem CN0:Enters Tryz.prog 37:=Aa3 Tryz.func37 (by kernel_rfl) rfl
theorem CM7:Enters Tryz.prog 42:=Aa3 Tryz.func42 (by kernel_rfl) rfl
theorem CM6:Enters Tryz.prog 43:=Aa3 Tryz.func43 (by kernel_rfl) rfl
theorem CL5:Enters Tryz.prog 84:=Aa3 Tryz.func84 (by kernel_rfl) rfl
theorem CK6:Enters Tryz.prog 97:=Aa3 Tryz.func97 (by kernel_rfl) rfl
theorem BZ7:fieldB Tryz.prog 114 0=some 0:=by kernel_rfl
instance:Fld Tryz.prog 114 0 0:=⟨BZ7⟩
theorem BZ5:fieldB Tryz.prog 114 2=some 2:=by kernel_rfl
instance:Fld Tryz.prog 114 2 2:=⟨BZ5⟩
theorem Co5:fieldB Tryz.prog 81 0=some 0:=by kernel_rfl
instance:Fld Tryz.prog 81 0 0:=⟨Co5⟩
theorem Co3:fieldB Tryz.prog 81 2=some 2:=by kernel_rfl
instance:Fld Tryz.prog 81 2 2:=⟨Co3⟩
theorem Co2:fieldB Tryz.prog 99 0=some 0:=by kernel_rfl
instance:Fld Tryz.prog 99 0 0:=⟨Co2⟩
theorem Co1:fieldB Tryz.prog 99 1=some 1:=by kernel_rfl
instance:Fld Tryz.prog 99 1 1:=⟨Co1⟩
theorem Co0:fieldB Tryz.prog 99 2=some 2:=by kernel_rfl
instance:Fld Tryz.prog 99 2 2:=⟨Co0⟩
theorem BV8:mapSB Tryz.prog 111=some 227:=by kernel_rfl
theorem BF9:mapSB Tryz.prog 78=some 185:=by kernel_rfl
theorem Bc9:mapSB Tryz.prog 97=some 206:=by kernel_rfl
theorem BL1:placesB Tryz.prog 114=some [(0,1),(1,1),(2,1)]:=by kernel_rfl
theorem BT8:placesB Tryz.prog 81=some [(0,1),(1,1),(2,1)]:=by kernel_rfl
theorem BT7:placesB Tryz.prog 99=some [(0,1),(1,1),(2,1)]:=by kernel_rfl
theorem CI8:tyB Tryz.prog 110=some (false,1):=by kernel_rfl
instance:Tyc Tryz.prog 110 false 1:=⟨CI8⟩
theorem CI6:tyB Tryz.prog 112=some (false,1):=by kernel_rfl
instance:Tyc Tryz.prog 112 false 1:=⟨CI6⟩
theorem BQ6:tyB Tryz.prog 114=some (true,3):=by kernel_rfl
instance:Tyc Tryz.prog 114 true 3:=⟨BQ6⟩
theorem At4:tyB Tryz.prog 25=some (true,5):=by kernel_rfl
instance:Tyc Tryz.prog 25 true 5:=⟨At4⟩
theorem BP7:tyB Tryz.prog 34=some (true,5):=by kernel_rfl
instance:Tyc Tryz.prog 34 true 5:=⟨BP7⟩
theorem CQ3:tyB Tryz.prog 56=some (false,1):=by kernel_rfl
instance:Tyc Tryz.prog 56 false 1:=⟨CQ3⟩
theorem CQ2:tyB Tryz.prog 77=some (false,1):=by kernel_rfl
instance:Tyc Tryz.prog 77 false 1:=⟨CQ2⟩
theorem CQ0:tyB Tryz.prog 79=some (false,1):=by kernel_rfl
instance:Tyc Tryz.prog 79 false 1:=⟨CQ0⟩
theorem Cw8:tyB Tryz.prog 81=some (true,3):=by kernel_rfl
instance:Tyc Tryz.prog 81 true 3:=⟨Cw8⟩
theorem CP9:tyB Tryz.prog 96=some (false,1):=by kernel_rfl
instance:Tyc Tryz.prog 96 false 1:=⟨CP9⟩
theorem CP8:tyB Tryz.prog 97=some (false,1):=by kernel_rfl
instance:Tyc Tryz.prog 97 false 1:=⟨CP8⟩
theorem Cj0:tyB Tryz.prog 99=some (true,3):=by kernel_rfl
instance:Tyc Tryz.prog 99 true 3:=⟨Cj0⟩
theorem BD2:zeroB Tryz.prog 114=some [.nilFunc,.map none,.nilFunc]:=by kernel_rfl
theorem BO8:zeroB Tryz.prog 81=some [.nilFunc,.map none,.nilFunc]:=by kernel_rfl
theorem Bu3:zeroB Tryz.prog 99=some [.nilFunc,.map none,.nilFunc]:=by kernel_rfl
end Go.Proofs.YtmkdbdbenfbkhaaGreatDoor
namespace Go.Bk
open Go Go.Eng Go.RowKit
abbrev fnV (f:FuncId):Value:=.func (.func f) #[] #[]
abbrev writeV (b:Bool) (s:Str):Value:=.tuple #[.string (bs (if b then s else [])),.int .i64 (if b then 0 else 1)]
abbrev kindV (ft fi:FuncId) (b:Nat):Value:=.agg #[fnV ft,.map (some b),fnV fi]
end Go.Bk
namespace Go.Proofs.YtmkdbdbenfbkhaaGreatDoor
open Go Go.Eng Go.Bk Go.RowKit

def toursL:List (Str×Value):=[(wTour,fnV 89),(wFrom,fnV 91),(wWays,fnV 94),(wStay,fnV 95),(wLight,fnV 96)]
theorem AN5 (W:World):Calls Tryz.prog 29 #[] W (News (fun b:Nat=>kindV 84 97 b) (fun b=>[(b,mapS toursL)]) W):=by
  refine Aa2 Tryz.func29 rfl rfl ?_;refine st ?_;refine zn (New.alloc BO8) (fun b0=>?_)
  refine zn Ay1 (fun b1=>?_)
  iterate 5 refine Ab4 (Bh6 rfl rfl rfl .here BF9 (by decide)) rfl rfl ?_
  refine st ?_;refine lv (Val.build (parts:=[(0,.func 84),(1,.tmp 2),(2,.func 97)]) rfl BO8 BT8 rfl) ?_;refine Ab4 (Sto.store rfl rfl (.there .here) Cw8 rfl rfl) rfl rfl ?_;refine su ?_;exact RunE.ret (chg:=[]) (.r1 rfl (.agg rfl (.tail _ (.head _)) Cw8 rfl)) (fun _ hm=>⟨b1,rfl,hm.pick (.cons .here rfl .nil)⟩)
def royaltiesL:List (Str×Value):=[(wRoyal,fnV 119),(wAgent,fnV 120),(wKind,fnV 121),(wReport,fnV 122)]
theorem AO3 (W:World):Calls Tryz.prog 43 #[] W (News (fun b:Nat=>kindV 118 123 b) (fun b=>[(b,mapS royaltiesL)]) W):=by
  refine Aa2 Tryz.func43 rfl rfl ?_;refine st ?_;refine zn (New.alloc BD2) (fun b0=>?_)
  refine zn Ay1 (fun b1=>?_)
  iterate 4 refine Ab4 (Bh6 rfl rfl rfl .here BV8 (by decide)) rfl rfl ?_
  refine st ?_;refine lv (Val.build (parts:=[(0,.func 118),(1,.tmp 2),(2,.func 123)]) rfl BD2 BL1 rfl) ?_;refine Ab4 (Sto.store rfl rfl (.there .here) BQ6 rfl rfl) rfl rfl ?_;refine su ?_;exact RunE.ret (chg:=[]) (.r1 rfl (.agg rfl (.tail _ (.head _)) BQ6 rfl)) (fun _ hm=>⟨b1,rfl,hm.pick (.cons .here rfl .nil)⟩)
def pV (b:Nat):Value:=.pointer (some ⟨b,0,none⟩)
def cabinetsL (n0 n1:Nat):List (Str×Value):=[(wCab,fnV 107),(wHomes,fnV 108),(wLook,fnV 110),(wTake,.func (.func 114) #[] #[pV n0]),(wBack,.func (.func 114) #[] #[pV n1])]
theorem AU6 (W:World):Calls Tryz.prog 37 #[] W (News (fun z:Nat×Nat×Nat=>kindV 105 112 z.1) (fun z=>[(z.1,mapS (cabinetsL z.2.1 z.2.2)),(z.2.1,.cells [.int .i64 0].toArray 3 (0,0)),(z.2.2,.cells [.int .i64 1].toArray 3 (0,0))]) W):=by
  refine Aa2 Tryz.func37 rfl rfl ?_;refine st ?_;refine zn (New.alloc Bu3) (fun b0=>?_)
  refine zn Ay1 (fun b4=>?_)
  iterate 3 refine Ab4 (Bh6 rfl rfl rfl .here Bc9 (by decide)) rfl rfl ?_
  refine st ?_;refine lv (Val.build (parts:=[(0,.func 105),(1,.tmp 5),(2,.func 112)]) rfl Bu3 BT7 rfl) ?_;refine zn (New.alloc Bu3) (fun b1=>?_)
  refine Ab4 (Sto.store rfl rfl .here Cj0 rfl rfl) rfl rfl ?_;refine st ?_;refine zc (zF rfl Ce0) (fun w hm=>AP3 w) ?_;refine BC0 3 ?_;refine st ?_;refine RunC.cond rfl ?_ (fun h=>absurd h (by decide))
  intro c0;clear c0;refine st ?_;refine lv (Az3 rfl rfl AL9 (by decide) (by decide) rfl) ?_;refine zn (New.alloc Ap0) (fun b2u0=>?_)
  refine Ab4 (Sto.store rfl rfl .here Af4 rfl rfl) rfl rfl ?_;refine su ?_;refine RunC.cond rfl ?_ (fun h=>absurd h (by decide))
  intro c1;clear c1;refine su ?_;refine Ab4 (AS2 rfl rfl rfl (.there (.there .here)) Bc9 (by rfl)) rfl rfl ?_;refine st ?_;refine Aa0 (Val.add rfl rfl (IntWalk.i64_in _ ⟨by decide,by decide⟩)) rfl rfl rfl ?_;refine vp rfl rfl rfl rfl ?_;refine RunL.nil ?_;refine AC3 ?_;refine st ?_;refine RunC.cond rfl ?_ (fun h=>absurd h (by decide))
  intro c0;clear c0;refine st ?_;refine lv (Az3 rfl rfl AL9 (by decide) (by decide) rfl) ?_;refine zn (New.alloc Ap0) (fun b2u1=>?_)
  refine Ab4 (Sto.store rfl rfl .here Af4 rfl rfl) rfl rfl ?_;refine su ?_;refine RunC.cond rfl ?_ (fun h=>absurd h (by decide))
  intro c1;clear c1;refine su ?_;refine Ab4 (AS2 rfl rfl rfl (.there (.there (.there .here))) Bc9 (by rfl)) rfl rfl ?_;refine st ?_;refine Aa0 (Val.add rfl rfl (IntWalk.i64_in _ ⟨by decide,by decide⟩)) rfl rfl rfl ?_;refine vp rfl rfl rfl rfl ?_;refine RunL.nil ?_;refine AC3 ?_;refine st ?_;refine RunC.cond rfl ?_ (fun h=>absurd h (by decide))
  intro c0;clear c0;refine st ?_;refine lv (Az3 rfl rfl AL9 (by decide) (by decide) rfl) ?_;refine zn (New.alloc Ap0) (fun b2u2=>?_)
  refine Ab4 (Sto.store rfl rfl .here Af4 rfl rfl) rfl rfl ?_;refine su ?_;refine RunC.cond rfl (fun h=>absurd h (by decide)) ?_;intro c1;clear c1;refine st ?_;refine Aa0 (Val.add rfl rfl (IntWalk.i64_in _ ⟨by decide,by decide⟩)) rfl rfl rfl ?_;refine vp rfl rfl rfl rfl ?_;refine RunL.nil ?_;refine AC3 ?_;refine st ?_;refine RunC.cond rfl (fun h=>absurd h (by decide)) ?_;intro c0;clear c0;refine RunC.exit ?_;refine su ?_;refine Ab0 ?_;refine su ?_;refine Ab4 (Sto.store rfl rfl (.there (.there (.there (.there (.there .here))))) Cj0 rfl rfl) rfl rfl ?_;refine su ?_;exact RunE.ret (chg:=[]) (.r1 rfl (.agg rfl (.tail _ (.tail _ (.tail _ (.tail _ (.tail _ (.head _)))))) Cj0 rfl)) (fun _ hm=>⟨(b4,b2u0,b2u1),rfl,hm.pick (.cons (.there (.there (.there (.there .here)))) rfl (.cons (.there (.there .here)) rfl (.cons (.there .here) rfl .nil)))⟩)
theorem BX3 {P:Program} {f:FuncId} {args:Array Value} {W:World} {v:Value} (h:Calls P f args W (Grow W [] (fun _:Unit=>v) (fun _=>[]) (fun _=>True))):Calls P f args W (Pure v W) :=
  Af8 h (by rintro e w' ⟨_,_,h1,h2⟩;exact ⟨h1,h2⟩)
theorem AH5 (t:TrA) (hs:TrSm t) (m:Nat) (W:World) (hL:Lw Tryz.prog W) (hT:TrOk W t):Calls Tryz.prog 28 #[t.v,kindV 84 97 m] W (Pure (writeV (tourX t.pl) (tourS t.pl)) W):=by
  refine Aa2 Tryz.func28 rfl rfl ?_;refine st ?_;refine zn (New.box rfl) (fun b2=>?_)
  refine zn (New.box rfl) (fun b3=>?_)
  refine Ab1 (Ac1 rfl rfl CK6) rfl rfl rfl (fun w hm=>Bn8 t hs w (hT.mono0 hm)) ?_;refine st ?_;refine cn rfl ?_ ?_
  ·intro c0'
   have hx:tourX t.pl=false:=by simpa using c0'
   refine su ?_;exact Aa4 (.r2 rfl (.tmp rfl) (.tmp rfl)) (by rw [hx];rfl)
  intro c0';have hx:tourX t.pl=true:=by simpa using c0'
  refine su ?_;refine Ab1 (Ac1 rfl rfl CL5) rfl rfl rfl (fun w hm=>(BX3 (Bv2 t w (hL.mono hm) (hT.mono0 hm) (Cs5 hx)))) ?_;refine su ?_;exact Aa4 (.r2 rfl (.tmp rfl) (.tmp rfl)) (by rw [hx];rfl)
theorem Bi2 (c:CbA) (hs:CbS c) (m:Nat) (W:World) (hL:Lw Tryz.prog W) (hT:CbOk W c):Calls Tryz.prog 36 #[c.v,kindV 105 112 m] W (Pure (writeV (cabX c.pl) (cabS c.pl)) W):=by
  refine Aa2 Tryz.func36 rfl rfl ?_;refine st ?_;refine zn (New.box rfl) (fun b2=>?_)
  refine zn (New.box rfl) (fun b3=>?_)
  refine Ab1 (Ac1 rfl rfl CF4) rfl rfl rfl (fun w hm=>AP7 c hs w (hT.mono0 hm)) ?_;refine st ?_;refine cn rfl ?_ ?_
  ·intro c0'
   have hx:cabX c.pl=false:=by simpa using c0'
   refine su ?_;exact Aa4 (.r2 rfl (.tmp rfl) (.tmp rfl)) (by rw [hx];rfl)
  intro c0';have hx:cabX c.pl=true:=by simpa using c0'
  refine su ?_;refine Ab1 (Ac1 rfl rfl CF6) rfl rfl rfl (fun w hm=>(BN3 c w (hL.mono hm) (hT.mono0 hm) (CG3 hx))) ?_;refine su ?_;exact Aa4 (.r2 rfl (.tmp rfl) (.tmp rfl)) (by rw [hx];rfl)
theorem Bi1 (r:RyA) (hs:RySm r) (m:Nat) (W:World) (hL:Lw Tryz.prog W) (hT:RyOk W r):Calls Tryz.prog 42 #[r.v,kindV 118 123 m] W (Pure (writeV (royalX r.pl) (royalS r.pl)) W):=by
  refine Aa2 Tryz.func42 rfl rfl ?_;refine st ?_;refine zn (New.box rfl) (fun b2=>?_)
  refine zn (New.box rfl) (fun b3=>?_)
  refine Ab1 (Ac1 rfl rfl CF1) rfl rfl rfl (fun w hm=>Bd3 r hs w (hT.mono0 hm)) ?_;refine st ?_;refine cn rfl ?_ ?_
  ·intro c0'
   have hx:royalX r.pl=false:=by simpa using c0'
   refine su ?_;exact Aa4 (.r2 rfl (.tmp rfl) (.tmp rfl)) (by rw [hx];rfl)
  intro c0';have hx:royalX r.pl=true:=by simpa using c0'
  refine su ?_;refine Ab1 (Ac1 rfl rfl CF2) rfl rfl rfl (fun w hm=>(BJ8 r w (hL.mono hm) (hT.mono0 hm) (CQ4 hx))) ?_;refine su ?_;exact Aa4 (.r2 rfl (.tmp rfl) (.tmp rfl)) (by rw [hx];rfl)
theorem Ax3 (t:TrA) (hs:TrSm t) (W:World) (hL:Lw Tryz.prog W) (hT:TrOk W t):Calls Tryz.prog 7 #[t.v] W (Pure (writeV (tourX t.pl) (tourS t.pl)) W):=by
  refine Aa2 Tryz.func7 rfl rfl ?_;refine st ?_;refine zn (New.box rfl) (fun b1=>?_)
  refine Ae9 5 As5 (.cons .here rfl .nil) ?_;refine zw 0 ?_;refine zA 1 ?_;refine Ao7 rfl (zF rfl Cu8) rfl rfl rfl (fun w hm=>AN5 w) (fun b5=>(Aa5 (.cons .here rfl (.cons .here rfl .nil)) (.cons (.there .here) rfl .nil) rfl ?_))
  refine zA 2 ?_;refine Ac4 rfl (zF rfl Cu9) rfl rfl rfl (fun w hm=>AH5 t hs b5 w (hL.mono hm) (hT.mono0 hm)) (Aa5 (.cons .here rfl (.cons .here rfl .nil)) (.cons .here rfl (.cons .here rfl .nil)) rfl ?_)
  refine zw 3 ?_;refine zw 4 ?_;refine zt ?_;refine zp 5 ?_;refine zp 6 ?_;refine zd ?_;refine su ?_;exact Aa4 (.r2 rfl (.tmp rfl) (.tmp rfl)) (by first | rfl | simp)
theorem AF4 (c:CbA) (hs:CbS c) (W:World) (hL:Lw Tryz.prog W) (hT:CbOk W c):Calls Tryz.prog 9 #[c.v] W (Pure (writeV (cabX c.pl) (cabS c.pl)) W):=by
  refine Aa2 Tryz.func9 rfl rfl ?_;refine st ?_;refine zn (New.box rfl) (fun b1=>?_)
  refine Ae9 5 As5 (.cons .here rfl .nil) ?_;refine zw 0 ?_;refine zA 1 ?_;refine Ao7 rfl (zF rfl CN0) rfl rfl rfl (fun w hm=>AU6 w) (fun b5=>(Aa5 (.cons .here rfl (.cons .here rfl (.cons .here rfl (.cons .here rfl .nil)))) (.cons (.there (.there (.there .here))) rfl .nil) rfl ?_))
  refine zA 2 ?_;refine Ac4 rfl (zF rfl CN1) rfl rfl rfl (fun w hm=>Bi2 c hs b5.1 w (hL.mono hm) (hT.mono0 hm)) (Aa5 (.cons .here rfl (.cons .here rfl (.cons .here rfl (.cons .here rfl .nil)))) (.cons .here rfl (.cons .here rfl (.cons .here rfl (.cons .here rfl .nil)))) rfl ?_)
  refine zw 3 ?_;refine zw 4 ?_;refine zt ?_;refine zp 5 ?_;refine zp 6 ?_;refine zd ?_;refine su ?_;exact Aa4 (.r2 rfl (.tmp rfl) (.tmp rfl)) (by first | rfl | simp)
theorem AK8 (r:RyA) (hs:RySm r) (W:World) (hL:Lw Tryz.prog W) (hT:RyOk W r):Calls Tryz.prog 11 #[r.v] W (Pure (writeV (royalX r.pl) (royalS r.pl)) W):=by
  refine Aa2 Tryz.func11 rfl rfl ?_;refine st ?_;refine zn (New.box rfl) (fun b1=>?_)
  refine Ae9 5 As5 (.cons .here rfl .nil) ?_;refine zw 0 ?_;refine zA 1 ?_;refine Ao7 rfl (zF rfl CM6) rfl rfl rfl (fun w hm=>AO3 w) (fun b5=>(Aa5 (.cons .here rfl (.cons .here rfl .nil)) (.cons (.there .here) rfl .nil) rfl ?_))
  refine zA 2 ?_;refine Ac4 rfl (zF rfl CM7) rfl rfl rfl (fun w hm=>Bi1 r hs b5 w (hL.mono hm) (hT.mono0 hm)) (Aa5 (.cons .here rfl (.cons .here rfl .nil)) (.cons .here rfl (.cons .here rfl .nil)) rfl ?_)
  refine zw 3 ?_;refine zw 4 ?_;refine zt ?_;refine zp 5 ?_;refine zp 6 ?_;refine zd ?_;refine su ?_;exact Aa4 (.r2 rfl (.tmp rfl) (.tmp rfl)) (by first | rfl | simp)
end Go.Proofs.YtmkdbdbenfbkhaaGreatDoor
namespace Go.Proofs.YtmkdbdbenfbkhaaGreatDoor
open Go Go.Eng
theorem By9:Enters Tryz.prog 140:=Aa3 Tryz.func140 (by kernel_rfl) rfl
theorem By8:Enters Tryz.prog 157:=Aa3 Tryz.func157 (by kernel_rfl) rfl
theorem CE3:Enters Tryz.prog 158:=Aa3 Tryz.func158 (by kernel_rfl) rfl
theorem BX7:fieldB Tryz.prog 277 0=some 0:=by kernel_rfl
instance:Fld Tryz.prog 277 0 0:=⟨BX7⟩
theorem AD6:placesB Tryz.prog 37=some [(0,1),(1,1)]:=by kernel_rfl
theorem Cr4:tyB Tryz.prog 271=some (false,1):=by kernel_rfl
instance:Tyc Tryz.prog 271 false 1:=⟨Cr4⟩
theorem Cw7:tyB Tryz.prog 9=some (false,1):=by kernel_rfl
instance:Tyc Tryz.prog 9 false 1:=⟨Cw7⟩
end Go.Proofs.YtmkdbdbenfbkhaaGreatDoor
namespace Go.Bk
open Go Go.Eng Go.RowKit
def numP (s:Str):Option Int:=match Lib.atoiAll s with
  | .ok v=>some v
  | _=>none
def spanP (s:Str):Option Sp:=if (Lib.cut s [46,46]).2.2 then
    match numP (Lib.cut s [46,46]).1,numP (Lib.cut s [46,46]).2.1 with
    | some a,some b=>some ⟨a,b⟩
    | _,_=>none
  else none
def wdV (sb n j:Nat):Value:=.slice (some ⟨sb,min j (n - 1),none⟩) (n - j) (n - j)
theorem CP6 {sb n j:Nat} (h:j < n):Value.slice (some ⟨sb,if n - j=1 then min j (n - 1) else min j (n - 1) + 1,none⟩) (n - j - 1) (n - j - 1)=wdV sb n (j + 1):=by
  unfold wdV;have e1:n - j - 1=n - (j + 1):=by omega
  have e2:(if n - j=1 then min j (n - 1) else min j (n - 1) + 1)=min (j + 1) (n - 1):=by
    split <;> omega
  rw [e1,e2]
structure WdOk (all:List Str) (j:Nat):Prop where
  le:j≤all.length
  few:all.length≤10000
  short:∀ s∈all,s.length≤100000
theorem WdOk.next {all:List Str} {j:Nat} (h:WdOk all j) (hj:j < all.length):WdOk all (j + 1):=⟨hj,h.few,h.short⟩
theorem WdOk.get {all:List Str} {j:Nat} (h:WdOk all j):(all.getD j []).length≤100000:=by
  rw [List.getD_eq_getElem?_getD]
  rcases Nat.lt_or_ge j all.length with hj | hj
  · rw [List.getElem?_eq_getElem hj];exact h.short _ (List.getElem_mem hj)
  · rw [List.getElem?_eq_none hj];exact Nat.zero_le _
end Go.Bk
namespace Go.Proofs.YtmkdbdbenfbkhaaGreatDoor
open Go Go.Eng Go.Bk Go.RowKit

theorem By3 {s:Str} {v:Value} (h:figX s = .ok v):∃ n,numP s=some n∧v = .int .i64 n:=by
  unfold figX at h;unfold numP
  cases hr:Lib.atoiAll s with
  | ok n=>rw [hr] at h;cases h;exact ⟨n,rfl,rfl⟩
  | _=>rw [hr] at h;cases h
theorem Be3 {s:Str} {k:Int} (h:figX s = .error k):numP s=none∧k=8:=by
  unfold figX at h;unfold numP
  cases hr:Lib.atoiAll s with
  | ok n=>rw [hr] at h;cases h
  | _=>rw [hr] at h;cases h;exact ⟨rfl,rfl⟩
abbrev wdO (sb n j:Nat):Obj:=.cells [wdV sb n j].toArray 277 (0,0)
abbrev stO (all:List Str):Obj:=.cells (all.map fun s=>.string (bs s)).toArray 9 (0,0)
abbrev wdM (wb sb:Nat) (all:List Str) (j:Nat) (rest:Blks):Blks:=(wb,wdO sb all.length j)::(sb,stO all)::(rest++[])
theorem Ao1 {β γ:Type} {P:Program} {f:FuncId} {args:Array Value} {W0 w:World} {chg:Blks} {v:β→Value} {nw nw':β→Blks} {I:β→Prop} {mis:Int→Value} {kk:γ→Int} {np np':γ→Blks} {J:γ→Prop} (h:Calls P f args w (GrowT W0 chg v nw I mis kk np J)) (hp:∀ b,Pick (nw' b) (nw b)) (hq:∀ b,Pick (np' b) (np b)):Calls P f args w (GrowT W0 chg v nw' I mis kk np' J) :=
  Af8 h (by
    rintro e w' (⟨b,h1,h2,h3⟩ | ⟨b,h1,h2,h3⟩)
    · exact .inl ⟨b,h1,h2,h3.pick (hp b)⟩
    · exact .inr ⟨b,h1,h2,h3.pick (hq b)⟩)
theorem Cf1 {β γ:Type} {P:Program} {f:FuncId} {args:Array Value} {W0 w:World} {v:β→Value} {I:β→Prop} {mis:Int→Value} {kk:γ→Int} {J:γ→Prop} {wb sb:Nat} {all:List Str} {jj:β→Nat} {pj:γ→Nat} {A rest:Blks}
    (h:Calls P f args w (GrowT W0 [] v (fun b=>wdM wb sb all (jj b) (A++rest)) I mis kk (fun b=>wdM wb sb all (pj b) (A++rest)) J)) :
    Calls P f args w (GrowT W0 [] v (fun b=>A++wdM wb sb all (jj b) rest) I mis kk (fun b=>A++wdM wb sb all (pj b) rest) J) :=
  Ao1 h (fun b=>Pick.cnt fun x=>by simp only [nC];omega) (fun b=>Pick.cnt fun x=>by simp only [nC];omega)
theorem AG0 (wb sb:Nat) (all:List Str) (j:Nat) (rest:Blks) (W0 w:World) (hm0:Mem W0 [] (wdM wb sb all j rest) w) (hj:WdOk all j) :
    Calls Tryz.prog 140 #[.pointer (some ⟨wb,0,none⟩)] w (GrowT W0 [] (fun _:Unit=>.string (bs (all.getD j []))) (fun _=>wdM wb sb all (j + 1) rest) (fun _=>j < all.length) misf (fun _:Unit=>8) (fun _=>wdM wb sb all j rest) (fun _=>all.length≤j)):=by
  obtain ⟨h1,h2,h3⟩:=hj;refine Af0 hm0 Tryz.func140 rfl rfl ?_;refine su ?_;refine Af5 (zF rfl AE9) rfl rfl rfl (fun w hm=>Al6 _ _ w) (fun e10 he10=>?_) (fun v10 hv10=>?_)
  ·obtain ⟨er10,rfl⟩:=Ai6 he10
   have hge:all.length≤j:=by have:=of_decide_eq_false er10;omega
   refine Aa7 ?_;exact Ai0 () hge rfl (.cons .here rfl (.cons .here rfl (Pick.refl _)))
  obtain ⟨ok10,rfl⟩:=Am0 hv10;have hlt:j < all.length:=by have:=of_decide_eq_true ok10;omega
  refine su ?_;refine lv (Ag8 rfl rfl AO0 (by omega) (by omega)) ?_;refine lu (Ab2 rfl (fun w hm=>(Ah4 Cw7 (by rw [Ae6 (hm.at (.tail _ (.head _)))];have e:min j (all.length - 1) + (0:Int).toNat * 1=j:=(by simp;omega);rw [e,List.getElem?_map,List.getElem?_eq_getElem hlt];simp [List.getD_eq_getElem?_getD,List.getElem?_eq_getElem hlt]):(loadVar 9 ⟨sb,min j (all.length - 1) + (0:Int).toNat * 1,none⟩).run Tryz.prog w = .ok (.string (bs (all.getD j []))) w))) ?_;refine lu (Bs8 (n:=all.length - j) rfl AO0 (by omega) (v:=wdV sb all.length (j + 1)) (CP6 hlt)) ?_;refine Ab4 (Sto.store rfl rfl .here Cr4 rfl rfl) rfl rfl ?_;refine su ?_;exact Az5 () hlt (.r1 rfl (.tmp rfl)) rfl (.cons .here rfl (.cons .here rfl (Pick.refl _)))
theorem Bm0 (wb sb:Nat) (all:List Str) (j:Nat) (rest:Blks) (W0 w:World) (hL:Lw Tryz.prog W0) (hm0:Mem W0 [] (wdM wb sb all j rest) w) (hj:WdOk all j) :
    Calls Tryz.prog 90 #[.pointer (some ⟨wb,0,none⟩)] w (GrowT W0 [] (fun n:Int=>.int .i64 n) (fun _=>wdM wb sb all (j + 1) rest) (fun n=>j < all.length∧numP (all.getD j [])=some n) misf (fun _:Nat=>8) (fun j'=>wdM wb sb all j' rest) (fun _=>all.length≤j∨numP (all.getD j [])=none)):=by
  have hg:=hj.get;refine Af0 hm0 Tryz.func90 rfl rfl ?_;refine st ?_;refine Al4 (zF rfl By9) rfl rfl rfl (fun w hm=>(AG0 wb sb all j rest W0 w hm hj)) (fun p4 hp4=>?_) (fun z4 hz4=>?_)
  ·refine Aa7 ?_
   exact Ai0 j (.inl hp4) rfl (.cons .here rfl (.cons .here rfl (Pick.refl _)))
  refine Af5 (zF rfl By8) rfl rfl rfl (fun w hm=>(Ax0 (all.getD j []) (by omega) w (hL.mono hm))) (fun e5 he5=>?_) (fun v5 hv5=>?_)
  ·obtain ⟨hn,rfl⟩:=Be3 he5
   refine Aa7 ?_;exact Ai0 (j + 1) (.inr hn) rfl (.cons .here rfl (.cons .here rfl (Pick.refl _)))
  obtain ⟨n,hn,rfl⟩:=By3 hv5;refine su ?_;exact Az5 n ⟨hz4,hn⟩ (.r1 rfl (.tmp rfl)) rfl (.cons .here rfl (.cons .here rfl (Pick.refl _)))
theorem BJ5 (wb sb:Nat) (all:List Str) (j:Nat) (rest:Blks) (W0 w:World) (hL:Lw Tryz.prog W0) (hm0:Mem W0 [] (wdM wb sb all j rest) w) (hj:WdOk all j) :
    Calls Tryz.prog 93 #[.pointer (some ⟨wb,0,none⟩)] w (GrowT W0 [] (fun n:Sp=>.agg n.cells.toArray) (fun _=>wdM wb sb all (j + 1) rest) (fun n=>j < all.length∧spanP (all.getD j [])=some n) misf (fun _:Nat=>8) (fun j'=>wdM wb sb all j' rest) (fun _=>all.length≤j∨spanP (all.getD j [])=none)):=by
  have hg:=hj.get
  have hcl:(Lib.cut (all.getD j []) [46,46]).1.length≤(all.getD j []).length∧(Lib.cut (all.getD j []) [46,46]).2.1.length≤(all.getD j []).length:=by
    unfold Lib.cut
    split
    · simp only [List.length_take,List.length_drop];omega
    · simp
  refine Af0 hm0 Tryz.func93 rfl rfl ?_;refine st ?_;refine zn (New.alloc Ag0) (fun b2=>?_)
  refine Al4 (zF rfl By9) rfl rfl rfl (fun w hm=>(Cf1 (A:=[(b2,.cells [.int .i64 0,.int .i64 0].toArray 37 (0,0))]) (AG0 wb sb all j ((b2,.cells [.int .i64 0,.int .i64 0].toArray 37 (0,0))::rest) W0 w (hm.pick (Pick.cnt fun x=>by simp only [nC];omega)) hj))) (fun p8 hp8=>?_) (fun z8 hz8=>?_)
  ·refine Aa7 ?_
   exact Ai0 j (.inl hp8) rfl (.cons (.there .here) rfl (.cons (.there .here) rfl (Pick.skip (Pick.refl _))))
  refine zc (zF rfl CE3) (fun w hm=>(Ce6 (all.getD j []) [46,46] (by omega) w (hL.mono hm))) ?_;refine Af5 (zF rfl AE9) rfl rfl rfl (fun w hm=>Al6 _ _ w) (fun e14 he14=>?_) (fun v14 hv14=>?_)
  ·obtain ⟨er14,rfl⟩:=Ai6 he14
   refine Aa7 ?_;exact Ai0 (j + 1) (.inr (by unfold spanP;rw [er14];rfl)) rfl (.cons (.there .here) rfl (.cons (.there .here) rfl (Pick.skip (Pick.refl _))))
  obtain ⟨ok14,rfl⟩:=Am0 hv14;refine st ?_;refine Af5 (zF rfl By8) rfl rfl rfl (fun w hm=>(Ax0 (Lib.cut (all.getD j []) [46,46]).1 (by omega) w (hL.mono hm))) (fun e16 he16=>?_) (fun v16 hv16=>?_)
  ·obtain ⟨hn,rfl⟩:=Be3 he16
   refine Aa7 ?_;exact Ai0 (j + 1) (.inr (by unfold spanP;rw [ok14,hn];rfl)) rfl (.cons (.there .here) rfl (.cons (.there .here) rfl (Pick.skip (Pick.refl _))))
  obtain ⟨n,hn,rfl⟩:=By3 hv16;refine st ?_;refine Af5 (zF rfl By8) rfl rfl rfl (fun w hm=>(Ax0 (Lib.cut (all.getD j []) [46,46]).2.1 (by omega) w (hL.mono hm))) (fun e18 he18=>?_) (fun v18 hv18=>?_)
  ·obtain ⟨hn2,rfl⟩:=Be3 he18
   refine Aa7 ?_;exact Ai0 (j + 1) (.inr (by unfold spanP;rw [ok14,hn,hn2];rfl)) rfl (.cons (.there .here) rfl (.cons (.there .here) rfl (Pick.skip (Pick.refl _))))
  obtain ⟨n2,hn2,rfl⟩:=By3 hv18;refine lv (Val.build (parts:=[(0,.tmp 16),(1,.tmp 18)]) rfl Ag0 AD6 rfl) ?_;refine Ab4 (Sto.store rfl rfl .here Ah0 rfl rfl) rfl rfl ?_;refine su ?_;exact Az5 ⟨n,n2⟩ ⟨hz8,by unfold spanP;rw [ok14,hn,hn2];rfl⟩ (.r1 rfl (.agg rfl (.head _) Ah0 rfl)) rfl (.cons (.there .here) rfl (.cons (.there .here) rfl (Pick.skip (Pick.refl _))))
end Go.Proofs.YtmkdbdbenfbkhaaGreatDoor
namespace Go.Proofs.YtmkdbdbenfbkhaaGreatDoor
open Go Go.Eng
theorem CS6:apB Tryz.prog 22=some (37,2,16):=by kernel_rfl
theorem CG7:apB Tryz.prog 26=some (3,1,8):=by kernel_rfl
theorem CL2:Enters Tryz.prog 90:=Aa3 Tryz.func90 (by kernel_rfl) rfl
theorem CL0:Enters Tryz.prog 93:=Aa3 Tryz.func93 (by kernel_rfl) rfl
end Go.Proofs.YtmkdbdbenfbkhaaGreatDoor
namespace Go.Bk
open Go Go.Eng Go.RowKit
def allP {α:Type} (f:Str→Option α):List Str→Option (List α)
  | []=>some []
  | w::ws=>match f w,allP f ws with
    | some a,some l=>some (a::l)
    | _,_=>none
theorem Bh0 {α:Type} {f:Str→Option α}:∀ {a b:List Str},allP f (a++b)=match allP f a,allP f b with
    | some x,some y=>some (x++y)
    | _,_=>none
  | [],b=>by
    simp only [List.nil_append,allP]
    cases allP f b <;> rfl
  | w::a,b=>by
    simp only [List.cons_append,allP,Bh0 (a:=a) (b:=b)]
    cases f w <;> cases allP f a <;> cases allP f b <;> rfl
theorem CP0 {α:Type} {f:Str→Option α} {l:List Str} {k:Nat} (hk:k < l.length) {r:List α} (h:allP f (l.take k)=some r) {y:α} (hy:f (l.getD k [])=some y):allP f (l.take (k + 1))=some (r++[y]):=by
  rw [List.getD_eq_getElem?_getD,List.getElem?_eq_getElem hk,Option.getD_some] at hy;rw [List.take_succ_eq_append_getElem hk,Bh0,h];simp only [allP,hy]
theorem CG9 {α:Type} {f:Str→Option α} {l:List Str} {k:Nat} (hk:k < l.length) (hy:f (l.getD k [])=none):allP f l=none:=by
  rw [List.getD_eq_getElem?_getD,List.getElem?_eq_getElem hk,Option.getD_some] at hy;have e:l=l.take k++(l[k]::l.drop (k + 1)):=by rw [← List.drop_eq_getElem_cons hk,List.take_append_drop]
  rw [e,Bh0];simp only [allP,hy]
  cases allP f (l.take k) <;> rfl
theorem Bq7 {l:List Str} {j k:Nat}:(l.drop j).getD k []=l.getD (j + k) []:=by
  simp [List.getD_eq_getElem?_getD,List.getElem?_drop]
theorem AF2 {α:Type} {f:Str→Option α}:∀ {l:List Str} {r:List α},allP f l=some r→r.length=l.length
  | [],r,h=>by cases h;rfl
  | w::ws,r,h=>by
    simp only [allP] at h
    split at h
    · rename_i a l h1 h2
      cases h
      simp [AF2 h2]
    · cases h
end Go.Bk
namespace Go.Proofs.YtmkdbdbenfbkhaaGreatDoor
open Go Go.Eng Go.Bk Go.RowKit

theorem Aw0 (wb sb:Nat) (all:List Str) (j:Nat) (rest:Blks) (W0 w:World) (hL:Lw Tryz.prog W0) (hm0:Mem W0 [] (wdM wb sb all j rest) w) (hj:WdOk all j) :
    Calls Tryz.prog 92 #[.pointer (some ⟨wb,0,none⟩),.func (.func 93) #[.pointer (some ⟨wb,0,none⟩)] #[]] w (GrowT W0 [] (fun z:Eng.Own×List (Sp)=>ownV z.1 z.2.length) (fun z=>ownB 37 z.1 (z.2.map Sp.cells).flatten++(rest++[])) (fun z=>OwnOk 2 z.1 z.2.length (z.2.map Sp.cells).flatten∧allP spanP (all.drop j)=some z.2) misf (fun _:Unit=>8) (fun _=>rest++[]) (fun _=>allP spanP (all.drop j)=none)):=by
  have h1:=hj.le;have h2:=hj.few;have hdl:(all.drop j).length=all.length - j:=List.length_drop;refine Af0 hm0 Tryz.func92 rfl rfl ?_;refine st ?_;refine RunC.scope ?_;refine st ?_;refine RunC.label ?_;refine st ?_;refine Aj3 (X:=Eng.Own×List (Sp)) (n0:=[(sb,_)]) (all.length - j) (fun k x q=>(4,ownV x.1 x.2.length)::q) (fun _ _=>_) (fun k x=>[(wb,wdO sb all.length (j + k))]) (fun k x=>ownB 37 x.1 (x.2.map Sp.cells).flatten++(rest++[])) (fun k x=>OwnOk 2 x.1 x.2.length (x.2.map Sp.cells).flatten∧x.2.length=k∧allP spanP ((all.drop j).take k)=some x.2) (none,[]) ⟨OwnOk.start,rfl,rfl⟩ rfl (zE 4 rfl rfl (zS 0 rfl (zS 1 rfl (Sub.nil _)))) (.cons .here rfl (.cons .here rfl (Pick.same (by rfl)))) ?_;intro k x kN kI;obtain ⟨x1,xl⟩:=x;obtain ⟨kI1,kI2,kI3⟩:=kI;dsimp only at kI1 kI2 kI3 ⊢;have hjk:WdOk all (j + k):=⟨by omega,hj.few,hj.short⟩;refine su ?_;refine cn rfl ?_ ?_
  ·intro c0'
   have hk:k=all.length - j:=by omega
   refine RunC.exit ?_;refine Ac7 ?_;refine AK9 rfl ?_;refine Ac7 ?_;refine Ab0 ?_;refine su ?_;refine Am3 ?_;exact Az5 (x1,xl) ⟨kI1,by rw [← kI3,hk,← hdl,List.take_length]⟩ (.r1 rfl (.tmp rfl)) rfl (Pick.skip (Pick.skip (Pick.refl _)))
  intro c0';have hk:j + k < all.length:=by omega
  refine st ?_;refine Al4 (Ac1 rfl rfl CL0) rfl rfl rfl (fun w hm=>(Ao1 (nw':=fun _=>(wb,wdO sb all.length (j + k + 1))::(sb,stO all)::(ownB 37 x1 (xl.map Sp.cells).flatten++(rest++[]))) (np':=fun j2=>(wb,wdO sb all.length j2)::(sb,stO all)::(rest++[])) (BJ5 wb sb all (j + k) (ownB 37 x1 (xl.map Sp.cells).flatten++rest) W0 w hL (hm.pick (Pick.cnt fun x=>by simp only [nC];omega)) hjk) (fun _=>(Pick.cnt fun x=>by simp only [nC];omega)) (fun _=>(Pick.cnt fun x=>by simp only [nC];omega)))) (fun p13 hp13=>?_) (fun z13 hz13=>?_)
  ·have hbad:allP spanP (all.drop j)=none:=CG9 (k:=k) (by omega) (by rw [Bq7];rcases hp13 with h | h;exact absurd h (by omega);exact h)
   refine Ad1 ?_;refine Aa7 ?_;refine Ad1 ?_;refine Aa7 ?_;refine Aw4 ?_;exact Ai0 () hbad rfl (Pick.skip (Pick.skip (Pick.refl _)))
  refine zn (New.buildSlice (parts:=[(0,.tmp 13)]) rfl Av4 Ag0 rfl rfl rfl rfl) (fun b14=>?_)
  refine RunL.append (A:=[(b14,_),(wb,_),(sb,_)]) (B:=_) (x:=x1) (ys:=Sp.cells z13) CS6 rfl rfl rfl kI1 rfl (fun h=>by cases h) (fun w hm=>Ah3 (hm.at (.head _))) (Ak2 rfl) (by simp only [maxLen];omega) (by omega) rfl (fun z15 hz15=>?_)
  refine st ?_;exact Ae7 (z15,xl++[z13]) (by omega) ⟨by have h:=hz15;simp only [List.map_append,List.flatten_append,List.length_append,List.length_singleton];simpa using h,by simp [kI2],CP0 (by omega) kI3 (by rw [Bq7];exact hz13.2)⟩ rfl (zE 4 rfl (by simp) (zS 0 rfl (zS 1 rfl (Sub.nil _)))) (.cons (.there .here) rfl (.cons (.there .here) rfl (Pick.skip (Pick.same (by simp [List.map_append])))))
end Go.Proofs.YtmkdbdbenfbkhaaGreatDoor
namespace Go.Proofs.YtmkdbdbenfbkhaaGreatDoor
open Go Go.Eng
theorem BG6:Enters Tryz.prog 92:=Aa3 Tryz.func92 (by kernel_rfl) rfl
end Go.Proofs.YtmkdbdbenfbkhaaGreatDoor
namespace Go.Bk
open Go Go.Eng Go.RowKit
def numAt (all:List Str) (j:Nat):Option Int:=if j < all.length then numP (all.getD j []) else none
theorem Cm2 {all:List Str} {j:Nat} {n:Int} (h:j < all.length∧numP (all.getD j [])=some n):numAt all j=some n:=by unfold numAt;rw [if_pos h.1,h.2]
theorem Cm3 {all:List Str} {j:Nat} (h:all.length≤j∨numP (all.getD j [])=none):numAt all j=none:=by
  unfold numAt
  split
  · rename_i hlt
    rcases h with h | h
    · omega
    · exact h
  · rfl
abbrev OL (α:Type):=Eng.Own×List α
abbrev OL.v {α:Type} (z:OL α):Value:=ownV z.1 z.2.length
abbrev OL.ok {α:Type} (z:OL α) (f:α→List Value) (sz:Nat):Prop:=OwnOk sz z.1 z.2.length (z.2.map f).flatten
def rowC {α:Type} (r:OL α):List Value:=[ownV r.1 r.2.length]
theorem Cl6 (z:Eng.Own) (k:Nat):(ownV z k).oneCell'=true:=by cases z <;> rfl
theorem AP1 {α:Type} {f:α→List Value} {sz:Nat} {z z':Eng.Own} {l:List α} {a:α} (h:OwnOk sz z' (l.length + 1) ((l.map f).flatten++f a)):OL.ok (z',l++[a]) f sz:=by
  show OwnOk sz z' (l++[a]).length (((l++[a]).map f).flatten)
  simp only [List.map_append,List.flatten_append,List.length_append,List.length_singleton];simpa using h
theorem Bl9 {α:Type} {f:α→List Value} {sz:Nat}:OL.ok (α:=α) (none,[]) f sz:=OwnOk.start
structure TrX where
  dawn:Int
  fr:OL Sp
  ways:OL (OL Sp)
  stay:OL Sp
  light:OL Sp
def TrX.cells (x:TrX):List Value:=[.int .i64 x.dawn,ownV x.fr.1 x.fr.2.length,ownV x.ways.1 x.ways.2.length,ownV x.stay.1 x.stay.2.length,ownV x.light.1 x.light.2.length]
def TrX.pl (x:TrX):Tr:=⟨x.dawn,x.fr.2,x.ways.2.map (·.2),x.stay.2,x.light.2⟩
structure TrXOk (n:Nat) (x:TrX):Prop where
  fr:x.fr.ok Sp.cells 2
  ways:x.ways.ok rowC 1
  rows:∀ r∈x.ways.2,OL.ok r Sp.cells 2
  stay:x.stay.ok Sp.cells 2
  light:x.light.ok Sp.cells 2
  few:x.ways.2.length≤n
  s1:x.fr.2.length≤10000
  s2:x.stay.2.length≤10000
  s3:x.light.2.length≤10000
  s4:∀ r∈x.ways.2,r.2.length≤10000
theorem TrXOk.more {n:Nat} {x:TrX} (h:TrXOk n x):TrXOk (n + 1) x:=⟨h.fr,h.ways,h.rows,h.stay,h.light,Nat.le_succ_of_le h.few,h.s1,h.s2,h.s3,h.s4⟩
def tourStep (x:Tr) (all:List Str):Option Tr :=
  if all.getD 0 []=wTour then (numAt all 1).map fun n=>{ x with dawn:=n }
  else if all.getD 0 []=wFrom then (allP spanP (all.drop 1)).map fun l=>{ x with fr:=l }
  else if all.getD 0 []=wWays then (allP spanP (all.drop 1)).map fun l=>{ x with ways:=x.ways++[l] }
  else if all.getD 0 []=wStay then (allP spanP (all.drop 1)).map fun l=>{ x with stay:=l }
  else if all.getD 0 []=wLight then (allP spanP (all.drop 1)).map fun l=>{ x with light:=l }
  else none
end Go.Bk
namespace Go.Proofs.YtmkdbdbenfbkhaaGreatDoor
open Go Go.Eng Go.Bk Go.RowKit

abbrev spB (z:OL Sp):Blks:=ownB 37 z.1 (z.2.map Sp.cells).flatten
def spRows (l:List (OL Sp)):Blks:=(l.map fun r=>spB r).flatten
theorem Bv4 (l:List (OL Sp)) (r:OL Sp):spRows (l++[r])=spRows l++spB r:=by simp [spRows]
abbrev waB (z:OL (OL Sp)):Blks:=ownB 22 z.1 (z.2.map rowC).flatten
abbrev trXO (x:TrX):Obj:=.cells x.cells.toArray 25 (0,0)
abbrev trM (xb:Nat) (x:TrX) (tl:Blks):Blks:=(xb,trXO x)::(spB x.fr++(waB x.ways++(spRows x.ways.2++(spB x.stay++(spB x.light++tl)))))
abbrev LineT (W0:World) (xb:Nat) (n:Nat) (p:Option Tr) (rest:Blks):Ending→World→Prop :=
  GrowT W0 [] (fun _:TrX=>.tuple #[]) (fun z=>trM xb z (rest++[])) (fun z=>TrXOk (n + 1) z∧p=some z.pl) misf (fun _:TrX=>8) (fun z=>trM xb z (rest++[])) (fun z=>TrXOk (n + 1) z∧p=none)
section
variable (wb sb:Nat) (all:List Str) (xb:Nat) (x:TrX) (n:Nat) (rest:Blks) (W0 w:World) (hL:Lw Tryz.prog W0) (hm0:Mem W0 [] ((wb,wdO sb all.length 1)::(sb,stO all)::trM xb x (rest++[])) w) (hj:WdOk all 1) (hx:TrXOk n x) (hn:n≤10000)
include hL hm0 hj hx hn
theorem Bx7:Calls Tryz.prog 89 #[pV xb,pV wb] w (LineT W0 xb n ((numAt all 1).map fun n=>{ x.pl with dawn:=n }) rest):=by
  have _hn:=hn;refine Af0 hm0 Tryz.func89 rfl rfl ?_;refine st ?_;refine Al4 (zF rfl CL2) rfl rfl rfl (fun w hm=>(Ao1 (nw':=fun _=>trM xb x (rest++[])) (np':=fun _=>trM xb x (rest++[])) (Bm0 wb sb all 1 (trM xb x rest) W0 w hL (hm.pick (Pick.cnt fun x=>by simp only [nC,spB,waB];omega)) hj) (fun _=>(Pick.cnt fun x=>by simp only [nC,spB,waB];omega)) (fun _=>(Pick.cnt fun x=>by simp only [nC,spB,waB];omega)))) (fun p6 hp6=>?_) (fun z6 hz6=>?_)
  ·exact Ai0 x ⟨hx.more,by rw [Cm3 hp6];rfl⟩ rfl (.cons .here rfl (Pick.refl _))
  refine su ?_;refine Ab4 (Sto.store rfl rfl .here Af4 rfl rfl) rfl rfl ?_;refine st ?_;exact Av0 { x with dawn:=z6 } ⟨⟨hx.fr,hx.ways,hx.rows,hx.stay,hx.light,Nat.le_succ_of_le hx.few,hx.s1,hx.s2,hx.s3,hx.s4⟩,by rw [Cm2 hz6];rfl⟩ (.r0 rfl) rfl (.cons .here rfl (Pick.refl _))
theorem Bx9:Calls Tryz.prog 91 #[pV xb,pV wb] w (LineT W0 xb n ((allP spanP (all.drop 1)).map fun l=>{ x.pl with fr:=l }) rest):=by
  have _hn:=hn;have hdl:(all.drop 1).length≤10000:=by rw [List.length_drop];have:=hj.few;omega
  refine Af0 hm0 Tryz.func91 rfl rfl ?_;refine st ?_;refine Al4 (zF rfl BG6) rfl rfl rfl (fun w hm=>(Ao1 (nw':=fun z=>(xb,trXO x)::(spB z++(waB x.ways++(spRows x.ways.2++(spB x.stay++(spB x.light++(rest++[]))))))) (np':=fun _=>trM xb x (rest++[])) (Aw0 wb sb all 1 (trM xb x rest) W0 w hL (hm.pick (Pick.cnt fun x=>by simp only [nC,spB,waB];omega)) hj) (fun _=>(Pick.cnt fun x=>by simp only [nC,spB,waB];omega)) (fun _=>(Pick.cnt fun x=>by simp only [nC,spB,waB];omega)))) (fun p8 hp8=>?_) (fun z8 hz8=>?_)
  ·exact Ai0 x ⟨hx.more,by rw [hp8];rfl⟩ rfl (.cons .here rfl (Pick.refl _))
  refine su ?_;refine Ab4 (An1 rfl rfl .here Az9 rfl rfl) rfl rfl ?_;refine st ?_;exact Av0 { x with fr:=z8 } ⟨⟨hz8.1,hx.ways,hx.rows,hx.stay,hx.light,Nat.le_succ_of_le hx.few,by rw [AF2 hz8.2];exact hdl,hx.s2,hx.s3,hx.s4⟩,by rw [hz8.2];rfl⟩ (.r0 rfl) rfl (.cons .here rfl (Pick.refl _))
theorem Bx8:Calls Tryz.prog 95 #[pV xb,pV wb] w (LineT W0 xb n ((allP spanP (all.drop 1)).map fun l=>{ x.pl with stay:=l }) rest):=by
  have _hn:=hn;have hdl:(all.drop 1).length≤10000:=by rw [List.length_drop];have:=hj.few;omega
  refine Af0 hm0 Tryz.func95 rfl rfl ?_;refine st ?_;refine Al4 (zF rfl BG6) rfl rfl rfl (fun w hm=>(Ao1 (nw':=fun z=>(xb,trXO x)::(spB z++(spB x.fr++(waB x.ways++(spRows x.ways.2++(spB x.light++(rest++[]))))))) (np':=fun _=>trM xb x (rest++[])) (Aw0 wb sb all 1 (trM xb x rest) W0 w hL (hm.pick (Pick.cnt fun x=>by simp only [nC,spB,waB];omega)) hj) (fun _=>(Pick.cnt fun x=>by simp only [nC,spB,waB];omega)) (fun _=>(Pick.cnt fun x=>by simp only [nC,spB,waB];omega)))) (fun p8 hp8=>?_) (fun z8 hz8=>?_)
  ·exact Ai0 x ⟨hx.more,by rw [hp8];rfl⟩ rfl (.cons .here rfl (Pick.refl _))
  refine su ?_;refine Ab4 (An1 rfl rfl .here Az9 rfl rfl) rfl rfl ?_;refine st ?_;exact Av0 { x with stay:=z8 } ⟨⟨hx.fr,hx.ways,hx.rows,hz8.1,hx.light,Nat.le_succ_of_le hx.few,hx.s1,by rw [AF2 hz8.2];exact hdl,hx.s3,hx.s4⟩,by rw [hz8.2];rfl⟩ (.r0 rfl) rfl (.cons .here rfl (Pick.cnt fun x=>by simp only [nC,spB,waB];omega))
theorem Bp2:Calls Tryz.prog 96 #[pV xb,pV wb] w (LineT W0 xb n ((allP spanP (all.drop 1)).map fun l=>{ x.pl with light:=l }) rest):=by
  have _hn:=hn;have hdl:(all.drop 1).length≤10000:=by rw [List.length_drop];have:=hj.few;omega
  refine Af0 hm0 Tryz.func96 rfl rfl ?_;refine st ?_;refine Al4 (zF rfl BG6) rfl rfl rfl (fun w hm=>(Ao1 (nw':=fun z=>(xb,trXO x)::(spB z++(spB x.fr++(waB x.ways++(spRows x.ways.2++(spB x.stay++(rest++[]))))))) (np':=fun _=>trM xb x (rest++[])) (Aw0 wb sb all 1 (trM xb x rest) W0 w hL (hm.pick (Pick.cnt fun x=>by simp only [nC,spB,waB];omega)) hj) (fun _=>(Pick.cnt fun x=>by simp only [nC,spB,waB];omega)) (fun _=>(Pick.cnt fun x=>by simp only [nC,spB,waB];omega)))) (fun p8 hp8=>?_) (fun z8 hz8=>?_)
  ·exact Ai0 x ⟨hx.more,by rw [hp8];rfl⟩ rfl (.cons .here rfl (Pick.refl _))
  refine su ?_;refine Ab4 (An1 rfl rfl .here Az9 rfl rfl) rfl rfl ?_;refine st ?_;exact Av0 { x with light:=z8 } ⟨⟨hx.fr,hx.ways,hx.rows,hx.stay,hz8.1,Nat.le_succ_of_le hx.few,hx.s1,hx.s2,by rw [AF2 hz8.2];exact hdl,hx.s4⟩,by rw [hz8.2];rfl⟩ (.r0 rfl) rfl (.cons .here rfl (Pick.cnt fun x=>by simp only [nC,spB,waB];omega))
theorem Bx6:Calls Tryz.prog 94 #[pV xb,pV wb] w (LineT W0 xb n ((allP spanP (all.drop 1)).map fun l=>{ x.pl with ways:=x.pl.ways++[l] }) rest):=by
  have hdl:(all.drop 1).length≤10000:=by rw [List.length_drop];have:=hj.few;omega
  have hw:=hx.ways;have hfew:=hx.few;refine Af0 hm0 Tryz.func94 rfl rfl ?_;refine Ae9 11 As5 (.cons (.there (.there .here)) rfl .nil) ?_;refine zw 0 ?_;refine zw 1 ?_;refine zw 2 ?_;refine zw 3 ?_;refine zw 4 ?_;refine zw 5 ?_;refine zw 6 ?_;refine zw 7 ?_;refine zA 8 ?_;refine AS4 rfl (zF rfl BG6) rfl rfl rfl (fun w hm=>(Ao1 (nw':=fun z=>(xb,trXO x)::(waB x.ways++(spB z++(spB x.fr++(spRows x.ways.2++(spB x.stay++(spB x.light++(rest++[])))))))) (np':=fun _=>trM xb x (rest++[])) (Aw0 wb sb all 1 (trM xb x rest) W0 w hL (hm.pick (Pick.cnt fun x=>by simp only [nC,spB,waB];omega)) hj) (fun _=>(Pick.cnt fun x=>by simp only [nC,spB,waB];omega)) (fun _=>(Pick.cnt fun x=>by simp only [nC,spB,waB];omega)))) (fun p12 hp12=>?_) (fun z12 hz12=>(Aa5 (.cons .here rfl .nil) (.cons .here rfl .nil) rfl ?_))
  ·exact Ai0 x ⟨hx.more,by rw [hp12];rfl⟩ rfl (.cons .here rfl (Pick.refl _))
  refine zA 9 ?_;refine Ae0 rfl (AH4 (x:=.tmp 12) rfl Aq3 Ak5) rfl rfl rfl (fun b13=>(Aa5 (.cons .here rfl (.cons .here rfl .nil)) (.cons (.there .here) rfl .nil) rfl ?_))
  refine zA 10 ?_;refine RunI.append (A:=[(b13,_),(xb,_)]) (B:=_) (x:=x.ways.1) (ys:=rowC z12) rfl Aw5 rfl rfl rfl hw rfl (fun h=>by cases h) (fun w hm=>Ah3 (hm.at (.head _))) (fun u hu=>by simp only [rowC,List.mem_singleton] at hu;subst hu;exact Cl6 _ _) (by simp only [maxLen];omega) (by omega) rfl (fun z14 hz14=>(Aa5 (.cons .here rfl (.cons .here rfl .nil)) (.cons .here rfl (.cons .here rfl .nil)) rfl ?_))
  refine zt ?_;refine zp 11 ?_;refine zp 12 ?_;refine zB 13 ?_;refine Ag9 rfl (An1 rfl rfl (.there .here) Cx0 rfl rfl) rfl rfl (Ab5 ?_)
  refine zd ?_;exact Av0 { x with ways:=(z14,x.ways.2++[z12]) } ⟨⟨hx.fr,AP1 (z:=x.ways.1) hz14,fun r hr=>(by rcases List.mem_append.1 hr with h | h;exact hx.rows r h;simp only [List.mem_singleton] at h;subst h;exact hz12.1),hx.stay,hx.light,by simp;omega,hx.s1,hx.s2,hx.s3,fun r hr=>(by rcases List.mem_append.1 hr with h | h;exact hx.s4 r h;simp only [List.mem_singleton] at h;subst h;rw [AF2 hz12.2];exact hdl)⟩,by rw [hz12.2];simp [TrX.pl]⟩ (.r0 rfl) rfl (by simp only [trM,trXO,waB,spB,Bv4,TrX.cells,List.length_append,List.length_singleton,List.map_append,List.flatten_append,List.map_cons,List.map_nil,List.flatten_cons,List.flatten_nil,List.append_nil];exact (.cons (.there .here) rfl (Pick.cnt fun x=>by simp only [nC,spB,waB];omega)))
end
end Go.Proofs.YtmkdbdbenfbkhaaGreatDoor
namespace Go.Proofs.YtmkdbdbenfbkhaaGreatDoor
open Go Go.Eng
theorem CA2:Enters Tryz.prog 241:=Aa3 Tryz.func241 (by kernel_rfl) rfl
end Go.Proofs.YtmkdbdbenfbkhaaGreatDoor
namespace Go.Bk
open Go Go.Eng Go.RowKit
def linesL:Str→List Str
  | []=>[]
  | c::s=>if c=10 then [10]::linesL s else
    match linesL s with
    | []=>[[c]]
    | l::ls=>(c::l)::ls
theorem Ao5 (c:UInt8) (s:Str):linesL (c::s)=if c=10 then [10]::linesL s else match linesL s with
    | []=>[[c]]
    | l::ls=>(c::l)::ls:=by rw [linesL]
theorem Az0:∀ {s:Str} {i:Nat},Lib.indexByte s 10=(i:Int)→i < s.length∧linesL s=s.take (i + 1)::linesL (s.drop (i + 1))
  | [],i,h=>by unfold Lib.indexByte at h;omega
  | c::s,i,h=>by
    unfold Lib.indexByte at h;rw [Ao5]
    by_cases hc:c=10
    · subst hc
      simp at h
      have:i=0:=by omega
      subst this;rw [if_pos rfl];exact ⟨by simp,rfl⟩
    · have hb:(c == 10)=false:=by simpa using hc
      rw [hb] at h;simp only [Bool.false_eq_true,if_false] at h
      split at h
      · omega
      · rename_i h1
        have hge:=Lib.indexByte_ge s 10;have h2:Lib.indexByte s 10 ≠ -1:=by simpa using h1
        obtain ⟨j,hj⟩:∃ j:Nat,Lib.indexByte s 10=j:=⟨(Lib.indexByte s 10).toNat,by omega⟩;obtain ⟨h3,h4⟩:=Az0 hj
        have:i=j + 1:=by omega
        subst this;rw [if_neg hc,h4];simp only [List.length_cons,List.take_succ_cons,List.drop_succ_cons];exact ⟨by omega,by first | trivial | rfl⟩
theorem AB8:∀ {s:Str},Lib.indexByte s 10 < 0→s ≠ []→linesL s=[s]
  | [],_,h=>absurd rfl h
  | c::s,h,_=>by
    unfold Lib.indexByte at h;rw [Ao5]
    by_cases hc:c=10
    · subst hc
      simp at h
    · have hb:(c == 10)=false:=by simpa using hc
      rw [hb] at h;simp only [Bool.false_eq_true,if_false] at h;rw [if_neg hc]
      split at h
      · rename_i h1
        cases s with
        | nil=>rfl
        | cons d s => rw [AB8 (s := d :: s) (by have : Lib.indexByte (d :: s) 10 = -1 := by simpa using h1
                                                omega) (by simp)]
      · have hge:=Lib.indexByte_ge s 10
        rename_i h1;have h2:Lib.indexByte s 10 ≠ -1:=by simpa using h1
        omega
end Go.Bk
namespace Go.Proofs.YtmkdbdbenfbkhaaGreatDoor
open Go Go.Eng Go.Bk Go.RowKit

abbrev strO (s:Str):Obj:=.cells [.string (bs s)].toArray 9 (0,0)
theorem Cz0 (s:Str) (hs:s.length≤100000) (lb:Nat) (W0:World):SeqQ Tryz.prog 240 #[pV lb] (fun x:Str=>[.string (bs x)]) (fun _=>[]) [(lb,strO s)] misf (fun xs=>xs=linesL s) (fun xs=>xs <+: linesL s) (fun _ _=>False) (s.length + 1) W0:=by
  intro X l U I Ix Ip rest w0 x0 hy i0 hm0;refine Al2 (vs:=[.func (.yield l) #[] #[],pV lb]) (W:=W0) (chg:=[]) (news:=(lb,strO s)::(U x0++(rest++[]))) (hm0.pick (Pick.cnt fun x=>by simp only [List.nil_append,List.cons_append,List.count_append,List.count_cons,List.count_nil];omega)) Tryz.func240 rfl rfl ?_ 8
  refine RunCR.block ?_;refine AS7 (X:=X×List Str×Str) (n0:=[]) (s.length) (fun k y q=>q) (fun _ _=>_) (fun k y=>[(lb,strO y.2.2)]) (fun k y=>U y.1++(rest++[])) (fun k y=>I y.2.1 y.1∧y.2.1++linesL y.2.2=linesL s∧y.2.1.length=k∧k + y.2.2.length≤s.length) (x0,[],s) ⟨i0,rfl,rfl,by simp⟩ rfl (zS 0 rfl (zS 1 rfl (Sub.nil _))) (.cons .here rfl (Pick.same (by rfl))) ?_;intro k y kN kI;obtain ⟨xu,pre,r⟩:=y;obtain ⟨hI,hpre,hlen,hrl⟩:=kI;dsimp only at hI hpre hlen hrl ⊢;refine RunCR.seq ?_;refine RunCR.seq ?_;refine RunCR.region ?_;refine Ad0 (Aa1 rfl (.head _) Cw7 rfl) rfl rfl rfl ?_;refine Ad0 (AM2 rfl Bi6) rfl rfl rfl ?_;refine Ad0 (Aa8 rfl) rfl rfl rfl ?_;refine RunLR.nil ?_;refine RunER.next ?_;refine RunCR.cond rfl ?_ ?_
  ·intro c0
   have c0':=c0;clear c0;try simp only [nH] at c0'
   have hk:0 < r.length:=by omega
   refine RunCR.skip ?_;refine RunER.next ?_;refine RunCR.block ?_;refine RunCR.seq ?_;refine RunCR.region ?_;refine Ad0 (Aa8 rfl) rfl rfl rfl ?_;refine RunLR.nil ?_;refine RunER.next ?_;refine RunCR.seq ?_;refine RunCR.seq ?_;refine RunCR.region ?_;refine Ad0 (Aa1 rfl (.head _) Cw7 rfl) rfl rfl rfl ?_;refine AS3 (zF rfl CA2) rfl rfl rfl (fun w hm=>(AP8 r 10 w)) ?_;refine Ad0 (Aa8 rfl) rfl rfl rfl ?_;refine RunLR.nil ?_;refine RunER.next ?_;refine RunCR.seq ?_;refine RunCR.region ?_;refine Ad0 (Aa8 rfl) rfl rfl rfl ?_;refine Ad0 (Aa8 rfl) rfl rfl rfl ?_;refine RunLR.nil ?_;refine RunER.next ?_;refine RunCR.cond rfl ?_ ?_
   ·intro c1
    have c1':=c1;clear c1;try simp only [nH] at c1'
    obtain ⟨i,hi⟩:∃ i:Nat,Lib.indexByte r 10=i:=⟨(Lib.indexByte r 10).toNat,(Int.toNat_of_nonneg c1').symm⟩;have hil:=(Az0 hi).1;rw [show Lib.indexByte r (10:Int).toNat.toUInt8=(i:Int) from hi];refine AF7 ?_;refine Ae9 9 As5 (.cons .here rfl .nil) ?_;refine zw 0 ?_;refine zw 1 ?_;refine zv 2 rfl (Val.add rfl rfl (IntWalk.i64_in _ ⟨by omega,by omega⟩)) ?_;refine zv 3 rfl (Bs7 rfl rfl Bi6 (b:=i + 1) (by omega)) ?_;refine zw 4 ?_;refine zw 5 ?_;refine zv 6 rfl (Val.add rfl rfl (IntWalk.i64_in _ ⟨by omega,by omega⟩)) ?_;refine zv 7 rfl (BB1 rfl rfl Bi6 (a:=i + 1) (by omega)) ?_;refine zw 8 ?_;refine zt ?_;refine zB 9 ?_;refine Ag9 rfl (Sto.store rfl rfl .here Cw7 rfl rfl) rfl rfl (Ab5 ?_)
    refine zd ?_;refine RunER.next ?_;refine RunCR.seq ?_;refine RunCR.region ?_;refine Ad0 (Aa8 rfl) rfl rfl rfl ?_;refine Ad0 (Aa8 rfl) rfl rfl rfl ?_;refine Ap6 (Ae2 rfl rfl) rfl rfl rfl (fun w hm=>(Ah6 (α:=Str) (encs:=fun x=>[.string (bs x)]) (eb:=fun _=>[]) (U:=U) (I:=I) (Ix:=Ix) (Ip:=Ip) (pre:=pre) (v:=(r.take (i + 1))) (N':=fun x=>(lb,strO (r.drop (i + 1)))::(U x++(rest++[]))) (tl:=(lb,strO (r.drop (i + 1)))::rest) (fun x=>(Pick.cnt fun x=>by simp only [nC];omega)) (hy pre (r.take (i + 1)) xu ((lb,strO (r.drop (i + 1)))::rest) w hI ⟨linesL (r.drop (i + 1)),by rw [← hpre,(Az0 hi).2,List.append_assoc];rfl⟩ (by omega) ((show Mem W0 [] ((lb,strO (r.drop (i + 1)))::(U xu++(rest++[]))) w from hm).pick (Pick.cnt fun x=>by simp only [nC];omega))))) (fun p23 hp23=>?_) (fun z23 hz23=>?_)
    ·refine Aa7 ?_
     refine Ad1 ?_;refine Aa7 ?_;refine Ad1 ?_;exact fun _ w s=>⟨s.defers,p23.2,s.mem.pick (Pick.cnt fun x=>by simp only [nC];omega),.inr (.inl ⟨p23.1,rfl,hp23⟩)⟩
    refine Ad0 (Aa8 rfl) rfl rfl rfl ?_;refine RunLR.nil ?_;refine RunER.next ?_;refine RunCR.cond rfl ?_ ?_
    ·intro c2
     have c2':=c2;clear c2;try simp only [nH] at c2'
     have hno:Ix z23.2:=hz23.elim (fun h=>absurd (h.1.symm.trans c2') (by decide)) (fun h=>h.2);refine RunCR.ret ?_;refine su ?_;exact RunE.ret (chg:=[]) (.r0 rfl) (fun _ hm=>⟨z23.2,hm.pick (Pick.cnt fun x=>by simp only [nC];omega),.inl ⟨_,rfl,.inr hno⟩⟩)
    intro c2;have c2':=c2;clear c2;try simp only [nH] at c2'
    have hyes:=hz23.resolve_right (fun h=>absurd (h.1.symm.trans c2') (by decide));refine RunCR.skip ?_;refine st ?_;exact Ae7 (z23.2,pre++[r.take (i + 1)],r.drop (i + 1)) (by omega) ⟨hyes.2,by (rw [List.append_assoc,← hpre,(Az0 hi).2];rfl),by simp [hlen],by (simp only [List.length_drop];omega)⟩ rfl (zS 0 rfl (zS 1 rfl (Sub.nil _))) (.cons .here rfl (Pick.refl _))
   intro c1;have c1':=c1;clear c1;try simp only [nH] at c1'
   have hi:Lib.indexByte r 10 < 0:=c1';refine RunCR.region ?_;refine Ad0 (Aa1 rfl (.head _) Cw7 rfl) rfl rfl rfl ?_;refine Ad0 (Aa8 rfl) rfl rfl rfl ?_;refine AF6 (Sto.store rfl rfl .here Cw7 rfl rfl) rfl rfl ?_;refine RunLR.nil ?_;refine RunER.next ?_;refine RunCR.seq ?_;refine RunCR.region ?_;refine Ad0 (Aa8 rfl) rfl rfl rfl ?_;refine Ad0 (Aa8 rfl) rfl rfl rfl ?_;refine Ap6 (Ae2 rfl rfl) rfl rfl rfl (fun w hm=>(Ah6 (α:=Str) (encs:=fun x=>[.string (bs x)]) (eb:=fun _=>[]) (U:=U) (I:=I) (Ix:=Ix) (Ip:=Ip) (pre:=pre) (v:=r) (N':=fun x=>(lb,strO [])::(U x++(rest++[]))) (tl:=(lb,strO [])::rest) (fun x=>(Pick.cnt fun x=>by simp only [nC];omega)) (hy pre r xu ((lb,strO [])::rest) w hI ⟨[],by rw [← hpre,AB8 hi (by (intro h;rw [h] at hk;simp at hk)),List.append_nil]⟩ (by omega) ((show Mem W0 [] ((lb,strO [])::(U xu++(rest++[]))) w from hm).pick (Pick.cnt fun x=>by simp only [nC];omega))))) (fun p23 hp23=>?_) (fun z23 hz23=>?_)
   ·refine Aa7 ?_
    refine Ad1 ?_;refine Aa7 ?_;refine Ad1 ?_;exact fun _ w s=>⟨s.defers,p23.2,s.mem.pick (Pick.cnt fun x=>by simp only [nC];omega),.inr (.inl ⟨p23.1,rfl,hp23⟩)⟩
   refine Ad0 (Aa8 rfl) rfl rfl rfl ?_;refine RunLR.nil ?_;refine RunER.next ?_;refine RunCR.cond rfl ?_ ?_
   ·intro c2
    have c2':=c2;clear c2;try simp only [nH] at c2'
    have hno:Ix z23.2:=hz23.elim (fun h=>absurd (h.1.symm.trans c2') (by decide)) (fun h=>h.2);refine RunCR.ret ?_;refine su ?_;exact RunE.ret (chg:=[]) (.r0 rfl) (fun _ hm=>⟨z23.2,hm.pick (Pick.cnt fun x=>by simp only [nC];omega),.inl ⟨_,rfl,.inr hno⟩⟩)
   intro c2;have c2':=c2;clear c2;try simp only [nH] at c2'
   have hyes:=hz23.resolve_right (fun h=>absurd (h.1.symm.trans c2') (by decide));refine RunCR.skip ?_;refine st ?_;exact Ae7 (z23.2,pre++[r],[]) (by omega) ⟨hyes.2,by (rw [List.append_assoc,← hpre,AB8 hi (by (intro h;rw [h] at hk;simp at hk))];rfl),by simp [hlen],by (simp only [List.length_nil];omega)⟩ rfl (zS 0 rfl (zS 1 rfl (Sub.nil _))) (.cons .here rfl (Pick.refl _))
  intro c0;have c0':=c0;clear c0;try simp only [nH] at c0'
  have hk:r=[]:=List.eq_nil_of_length_eq_zero (by omega);subst hk;rw [show linesL []=[] from rfl,List.append_nil] at hpre;refine RunCR.exit ?_;refine su ?_;refine Ab0 ?_;exact Ah7 (chg:=[]) (.r0 rfl) (fun _ hm=>⟨xu,hm.pick (Pick.cnt fun x=>by simp only [nC];omega),.inl ⟨_,rfl,.inl ⟨pre,hpre,hI⟩⟩⟩)
end Go.Proofs.YtmkdbdbenfbkhaaGreatDoor
namespace Go.Proofs.YtmkdbdbenfbkhaaGreatDoor
open Go Go.Eng
theorem CB6:Enters Tryz.prog 208:=Aa3 Tryz.func208 (by kernel_rfl) rfl
theorem CB5:Enters Tryz.prog 209:=Aa3 Tryz.func209 (by kernel_rfl) rfl
theorem Be7:Enters Tryz.prog 210:=Aa3 Tryz.func210 (by kernel_rfl) rfl
theorem By5:Enters Tryz.prog 211:=Aa3 Tryz.func211 (by kernel_rfl) rfl
theorem CA3:Enters Tryz.prog 240:=Aa3 Tryz.func240 (by kernel_rfl) rfl
theorem Au1:placesB Tryz.prog 277=some [(0,1)]:=by kernel_rfl
theorem AN4:tyB Tryz.prog 304=some (false,1):=by kernel_rfl
instance:Tyc Tryz.prog 304 false 1:=⟨AN4⟩
theorem AC5:zeroB Tryz.prog 277=some [.slice none 0 0]:=by kernel_rfl
end Go.Proofs.YtmkdbdbenfbkhaaGreatDoor
namespace Go.Bk
open Go Go.Eng Go.RowKit
structure LW where
  ws:List Str
  wb:Nat
  sb:Nat
def splitL (s:Str):List Str:=(Lib.splitB (bs [32]) 0 (Lib.countB (bs s) (bs [32])) (bs s)).map (·.data.toList)
def lineW (l:Str):List Str:=splitL (Lib.trimSuffix l [10])
theorem CP7 (sb n:Nat):wdV sb n 0 = .slice (some ⟨sb,0,none⟩) n n:=by unfold wdV;simp
theorem AD0 (l:Str):(Lib.trimSuffix l [10]).length≤l.length:=by
  unfold Lib.trimSuffix
  split <;> simp
theorem AX6:∀ (s:Str),(linesL s).length≤s.length
  | []=>Nat.le_refl _
  | c::s=>by
    have ih:=AX6 s;rw [Ao5]
    split
    · simpa using ih
    · split
      · simp
      · rename_i h;rw [h] at ih;simp only [List.length_cons] at ih ⊢;omega
theorem Aw6:∀ (s:Str),∀ l∈linesL s,l.length≤s.length
  | [],l,h=>by cases h
  | c::s,l,h=>by
    have ih:=Aw6 s;rw [Ao5] at h
    split at h
    · rcases List.mem_cons.1 h with rfl | h
      · simp
      · have:=ih l h;simp;omega
    · split at h
      · simp only [List.mem_singleton] at h;subst h;simp
      · rename_i h1
        rcases List.mem_cons.1 h with rfl | h
        · have:=ih _ (by rw [h1];exact List.mem_cons_self ..)
          simpa using this
        · have:=ih l (by rw [h1];exact List.mem_cons_of_mem _ h)
          simp;omega
end Go.Bk
namespace Go.Proofs.YtmkdbdbenfbkhaaGreatDoor
open Go Go.Eng Go.Bk Go.RowKit

theorem Av3 (s:Str) (hs:s.length < 4294967281) (W:World) (hL:Lw Tryz.prog W):Calls Tryz.prog 210 #[.string (bs s),.string (bs [32])] W (News (fun sb:Nat=>wdV sb (splitL s).length 0) (fun sb=>[(sb,stO (splitL s))]) W):=by
  obtain ⟨m,hm⟩:=hL.mx;refine Af8 (Tryz.strings_Split (bs s) (bs [32]) m W hs hm (by decide)) ?_
  rintro e w' ⟨rfl,rfl⟩
  have hlen:=Lib.splitB_all (bs [32]) (by decide) 0 _ (bs s) rfl;have hl2:(splitL s).length=Lib.countB (bs s) (bs [32]) + 1:=by unfold splitL;rw [List.length_map,hlen]
  refine ⟨W.heap.size,?_,?_⟩
  · show Ending.returned _=Ending.returned (wdV W.heap.size (splitL s).length 0)
    rw [CP7,hl2]
  · have h1:=(Mem.refl W).alloc (.cells ((Lib.splitB (bs [32]) 0 (Lib.countB (bs s) (bs [32])) (bs s)).map Value.string).toArray 9)
    have e:(splitL s).map (fun s=>Value.string (bs s))=(Lib.splitB (bs [32]) 0 (Lib.countB (bs s) (bs [32])) (bs s)).map Value.string:=by
      unfold splitL;rw [List.map_map];rfl
    show Mem W [] [(W.heap.size,stO (splitL s))] _
    unfold stO;rw [e];exact h1
theorem BC1 (s:Str) (W:World):Calls Tryz.prog 209 #[.string (bs s)] W (News (fun b:Nat=>.func (.func 240) #[] #[pV b]) (fun b=>[(b,strO s)]) W):=by
  refine Aa2 Tryz.func209 rfl rfl ?_;refine st ?_;refine zn (New.box rfl) (fun b1=>?_)
  exact RunE.ret (chg:=[]) (.r1 rfl (.tmp rfl)) (fun _ hm=>⟨b1,rfl,hm.pick (.cons .here rfl .nil)⟩)
theorem Bw8 (s:Str) (W:World):Calls Tryz.prog 139 #[.string (bs s)] W (News (fun b:Nat=>.func (.func 207) #[] #[pV b]) (fun b=>[(b,strO s)]) W):=by
  refine Aa2 Tryz.func139 rfl rfl ?_;refine st ?_;refine zn (New.box rfl) (fun b1=>?_)
  exact RunE.ret (chg:=[]) (.r1 rfl (.tmp rfl)) (fun _ hm=>⟨b1,rfl,hm.pick (.cons .here rfl .nil)⟩)
abbrev lwB (v:LW):Blks:=[(v.wb,wdO v.sb v.ws.length 0),(v.sb,stO v.ws)]
abbrev yO (l:Nat):Obj:=.cells [.func (.yield l) #[] #[]].toArray 304 (0,0)
theorem Cw1 (s:Str) (hs:s.length≤100000) (lb:Nat) (W0:World) (hL:Lw Tryz.prog W0):SeqQ Tryz.prog 207 #[pV lb] (fun x:LW=>[pV x.wb]) lwB [(lb,strO s)] misf (fun xs=>Lib.hasSuffix s [10]=true∧xs.map (·.ws)=(linesL s).map lineW) (fun xs=>Lib.hasSuffix s [10]=true∧xs.map (·.ws) <+: (linesL s).map lineW) (fun k xs=>k=8∧xs=[]∧Lib.hasSuffix s [10]=false) (s.length + 1) W0:=by
  intro X l0 U I Ix Ip rest w0 x0 hy i0 hm0;have hm1:Mem W0 [] ((lb,strO s)::(U x0++(rest++[]))) w0:=hm0.pick (Pick.cnt fun x=>by simp only [List.nil_append,List.cons_append,List.count_append,List.count_cons,List.count_nil];omega);refine Bf7 (f:=207) (args:=[Value.func (.yield l0) #[] #[],pV lb].toArray) ?_;refine AF1 hm1 Tryz.func207 rfl rfl ?_;refine RunCF.seq ?_;refine Ak7 ?_;refine st ?_;refine zn (New.box rfl) (fun b2=>?_)
  refine RunEF.next ?_;refine RunCF.seq ?_;refine Ak7 ?_;refine su ?_;refine zc (zF rfl CB6) (fun w hm=>(AP9 s [10] (by omega) w)) ?_;refine Af5 (zF rfl AE9) rfl rfl rfl (fun w hm=>Al6 _ _ w) (fun e6 he6=>?_) (fun v6 hv6=>?_)
  ·obtain ⟨er6,rfl⟩:=Ai6 he6
   refine Aa7 ?_;exact Ba0 [] (Pick.refl _) (fun w hm=>⟨x0,hm.pick (Pick.cnt fun x=>by simp only [nC,List.map_cons,List.map_nil,markB,dfrO];omega),.inr (.inr ⟨8,[],rfl,⟨rfl,rfl,er6⟩,i0⟩)⟩)
  obtain ⟨ok6,rfl⟩:=Am0 hv6;refine st ?_;refine RunEF.next ?_;refine RunCF.seq ?_;refine Ak7 ?_;refine su ?_;refine Ai2 (zF rfl CB5) rfl rfl rfl (fun w hm=>(BC1 s w)) (fun b8=>?_)
  refine st ?_;refine RunEF.next ?_;refine RunCF.block ?_;refine RunCF.range Tryz.func207 (α:=Str) (X:=X) (enc:=fun x=>.string (bs x)) (eb:=fun _=>[]) (itb:=[(b8,strO s)]) (mis:=misf) (S:=fun xs=>xs=linesL s) (Sp:=fun xs=>xs <+: linesL s) (Sq:=fun _ _=>False) (N:=s.length + 1) (fun x=>(b2,yO l0)::U x) (fun pre x=>∃ pv:List LW,pv.map (·.ws)=pre.map lineW∧I pv x) (fun c x=>c = .ret∧Ix x) (Ip) x0 ⟨[],rfl,i0⟩ ((lb,strO s)::rest) (.cons (.there .here) rfl (Pick.cnt fun x=>by simp only [nC,List.map_cons,List.map_nil,markB,dfrO];omega)) rfl CA3 (Cz0 s hs b8 W0) rfl rfl (fun _=>rfl) rfl rfl rfl ?_ ?_ ?_ ?_ ?_
  ·intro l D ob pre v x tl hI hsp hlen
   obtain ⟨pv,hpv,hIv⟩:=hI;have hvl:v.length≤s.length:=Aw6 s v (hsp.subset (by simp));have hpl:pv.length=pre.length:=by (have:=congrArg List.length hpv;simpa using this)
   refine Ar2 (Ad8 _) (news':=(l,ob)::(D,dfrO)::(b2,yO l0)::(U x++(tl++[]))) (Pick.cnt fun x=>by simp only [nC,List.map_cons,List.map_nil,markB,dfrO];omega) ?_;refine RunCR.block ?_;refine RunCR.seq ?_;refine AS9 As5 ?_;refine RunAF.all (rs:=[0,1]) (by kernel_rfl) (by simp) (fun m hm=>?_)
   simp only [List.mem_cons,List.not_mem_nil,or_false] at hm
   rcases hm with rfl | rfl
   ·refine RunIF.of rfl ?_
    refine Ac2 rfl (Aa1 rfl (.tail _ (.tail _ (.head _))) AN4 rfl) rfl rfl rfl (Ab9 ?_)
    refine RunAF.one (i:=1) (by kernel_rfl) ?_;refine RunIF.of rfl ?_;refine Ac2 rfl (Aa8 rfl) rfl rfl rfl (Ab9 ?_)
    refine RunAF.one (i:=2) (by kernel_rfl) ?_;refine RunIF.of rfl ?_;refine Ac4 rfl (zF rfl By5) rfl rfl rfl (fun w hm=>(Aq0 v [10] (by omega) w)) (Ab9 ?_)
    refine RunAF.one (i:=3) (by kernel_rfl) ?_;refine RunIF.of rfl ?_;refine Ao7 rfl (zF rfl Be7) rfl rfl rfl (fun w hm=>(Av3 (Lib.trimSuffix v [10]) (by have:=AD0 v;omega) w (hL.mono hm))) (fun b13=>(Ab9 ?_))
    refine RunAF.one (i:=4) (by kernel_rfl) ?_;refine RunIF.of rfl ?_;refine Ac2 rfl (Val.build (parts:=[(0,.tmp 13)]) rfl AC5 Au1 rfl) rfl rfl rfl (Ab9 ?_)
    refine RunAF.one (i:=5) (by kernel_rfl) ?_;refine RunIF.of rfl ?_;refine Ae0 rfl (New.box rfl) rfl rfl rfl (fun b15=>(Ab9 ?_))
    refine RunAF.one (i:=6) (by kernel_rfl) ?_;refine RunIF.yieldQ rfl (Ae2 rfl rfl) rfl rfl rfl (fun w hm=>(Ah6 (α:=LW) (encs:=fun x=>[pV x.wb]) (eb:=lwB) (U:=U) (I:=I) (Ix:=Ix) (Ip:=Ip) (pre:=pv) (v:=⟨lineW v,b15,b13⟩) (N':=fun x=>(l,ob)::(D,dfrO)::(b2,yO l0)::(U x++(tl++[]))) (tl:=(l,ob)::(D,dfrO)::(b2,yO l0)::tl) (fun x=>(Pick.cnt fun x=>by simp only [nC,List.map_cons,List.map_nil,markB,dfrO];omega)) (hy pv ⟨lineW v,b15,b13⟩ x ((l,ob)::(D,dfrO)::(b2,yO l0)::tl) w hIv ⟨ok6,by (rw [List.map_append,hpv];have h:=hsp.map lineW;rw [List.map_append] at h;exact h)⟩ (by omega) ((show Mem W0 [] ((b15,wdO b13 (lineW v).length 0)::(b13,stO (lineW v))::(l,ob)::(D,dfrO)::(b2,yO l0)::(U x++(tl++[]))) w from hm).pick (Pick.cnt fun x=>by simp only [nC,List.map_cons,List.map_nil,markB,dfrO];omega))))) (fun p16 hp16=>?_) (fun z16 hz16=>(Ab9 ?_))
    ·refine Aa7 ?_
     refine Ad1 ?_;exact Ag1 p16.2 hp16 (Pick.cnt fun x=>by simp only [nC,List.map_cons,List.map_nil,markB,dfrO];omega)
    refine RunAF.one (i:=7) (by kernel_rfl) ?_;refine RunIF.of rfl ?_;refine Ac2 rfl (Aa8 rfl) rfl rfl rfl (Ab9 ?_)
    refine RunAF.done (by kernel_rfl) ?_;refine RunER.next ?_;refine RunCR.cond rfl ?_ ?_
    ·intro c0
     have c0':=c0;clear c0;try simp only [nH] at c0'
     have hno:Ix z16.2:=hz16.elim (fun h=>absurd (h.1.symm.trans c0') (by decide)) (fun h=>h.2);refine RunCR.ret ?_;refine Ac5 ?_;exact Ah8 z16.2 ⟨rfl,hno⟩ (Pick.cnt fun x=>by simp only [nC,List.map_cons,List.map_nil,markB,dfrO];omega)
    intro c0;have c0':=c0;clear c0;try simp only [nH] at c0'
    have hyes:=hz16.resolve_right (fun h=>absurd (h.1.symm.trans c0') (by decide));refine RunCR.skip ?_;refine st ?_;exact Af9 z16.2 ⟨pv++[⟨lineW v,b15,b13⟩],by simp [hpv],hyes.2⟩ (Pick.cnt fun x=>by simp only [nC,List.map_cons,List.map_nil,markB,dfrO];omega)
   refine RunIF.of rfl ?_;refine Ac2 rfl (Aa8 rfl) rfl rfl rfl (Ab9 ?_)
   refine RunAF.all (rs:=[0,2]) (by kernel_rfl) (by simp) (fun m hm=>?_)
   simp only [List.mem_cons,List.not_mem_nil,or_false] at hm
   rcases hm with rfl | rfl
   ·refine RunIF.of rfl ?_
    refine Ac2 rfl (Aa1 rfl (.tail _ (.tail _ (.head _))) AN4 rfl) rfl rfl rfl (Ab9 ?_)
    refine RunAF.one (i:=2) (by kernel_rfl) ?_;refine RunIF.of rfl ?_;refine Ac4 rfl (zF rfl By5) rfl rfl rfl (fun w hm=>(Aq0 v [10] (by omega) w)) (Ab9 ?_)
    refine RunAF.one (i:=3) (by kernel_rfl) ?_;refine RunIF.of rfl ?_;refine Ao7 rfl (zF rfl Be7) rfl rfl rfl (fun w hm=>(Av3 (Lib.trimSuffix v [10]) (by have:=AD0 v;omega) w (hL.mono hm))) (fun b13=>(Ab9 ?_))
    refine RunAF.one (i:=4) (by kernel_rfl) ?_;refine RunIF.of rfl ?_;refine Ac2 rfl (Val.build (parts:=[(0,.tmp 13)]) rfl AC5 Au1 rfl) rfl rfl rfl (Ab9 ?_)
    refine RunAF.one (i:=5) (by kernel_rfl) ?_;refine RunIF.of rfl ?_;refine Ae0 rfl (New.box rfl) rfl rfl rfl (fun b15=>(Ab9 ?_))
    refine RunAF.one (i:=6) (by kernel_rfl) ?_;refine RunIF.yieldQ rfl (Ae2 rfl rfl) rfl rfl rfl (fun w hm=>(Ah6 (α:=LW) (encs:=fun x=>[pV x.wb]) (eb:=lwB) (U:=U) (I:=I) (Ix:=Ix) (Ip:=Ip) (pre:=pv) (v:=⟨lineW v,b15,b13⟩) (N':=fun x=>(l,ob)::(D,dfrO)::(b2,yO l0)::(U x++(tl++[]))) (tl:=(l,ob)::(D,dfrO)::(b2,yO l0)::tl) (fun x=>(Pick.cnt fun x=>by simp only [nC,List.map_cons,List.map_nil,markB,dfrO];omega)) (hy pv ⟨lineW v,b15,b13⟩ x ((l,ob)::(D,dfrO)::(b2,yO l0)::tl) w hIv ⟨ok6,by (rw [List.map_append,hpv];have h:=hsp.map lineW;rw [List.map_append] at h;exact h)⟩ (by omega) ((show Mem W0 [] ((b15,wdO b13 (lineW v).length 0)::(b13,stO (lineW v))::(l,ob)::(D,dfrO)::(b2,yO l0)::(U x++(tl++[]))) w from hm).pick (Pick.cnt fun x=>by simp only [nC,List.map_cons,List.map_nil,markB,dfrO];omega))))) (fun p16 hp16=>?_) (fun z16 hz16=>(Ab9 ?_))
    ·refine Aa7 ?_
     refine Ad1 ?_;exact Ag1 p16.2 hp16 (Pick.cnt fun x=>by simp only [nC,List.map_cons,List.map_nil,markB,dfrO];omega)
    refine RunAF.one (i:=7) (by kernel_rfl) ?_;refine RunIF.of rfl ?_;refine Ac2 rfl (Aa8 rfl) rfl rfl rfl (Ab9 ?_)
    refine RunAF.done (by kernel_rfl) ?_;refine RunER.next ?_;refine RunCR.cond rfl ?_ ?_
    ·intro c0
     have c0':=c0;clear c0;try simp only [nH] at c0'
     have hno:Ix z16.2:=hz16.elim (fun h=>absurd (h.1.symm.trans c0') (by decide)) (fun h=>h.2);refine RunCR.ret ?_;refine Ac5 ?_;exact Ah8 z16.2 ⟨rfl,hno⟩ (Pick.cnt fun x=>by simp only [nC,List.map_cons,List.map_nil,markB,dfrO];omega)
    intro c0;have c0':=c0;clear c0;try simp only [nH] at c0'
    have hyes:=hz16.resolve_right (fun h=>absurd (h.1.symm.trans c0') (by decide));refine RunCR.skip ?_;refine st ?_;exact Af9 z16.2 ⟨pv++[⟨lineW v,b15,b13⟩],by simp [hpv],hyes.2⟩ (Pick.cnt fun x=>by simp only [nC,List.map_cons,List.map_nil,markB,dfrO];omega)
   refine RunIF.of rfl ?_;refine Ac4 rfl (zF rfl By5) rfl rfl rfl (fun w hm=>(Aq0 v [10] (by omega) w)) (Ab9 ?_)
   refine RunAF.all (rs:=[0,3]) (by kernel_rfl) (by simp) (fun m hm=>?_)
   simp only [List.mem_cons,List.not_mem_nil,or_false] at hm
   rcases hm with rfl | rfl
   ·refine RunIF.of rfl ?_
    refine Ac2 rfl (Aa1 rfl (.tail _ (.tail _ (.head _))) AN4 rfl) rfl rfl rfl (Ab9 ?_)
    refine RunAF.one (i:=3) (by kernel_rfl) ?_;refine RunIF.of rfl ?_;refine Ao7 rfl (zF rfl Be7) rfl rfl rfl (fun w hm=>(Av3 (Lib.trimSuffix v [10]) (by have:=AD0 v;omega) w (hL.mono hm))) (fun b13=>(Ab9 ?_))
    refine RunAF.one (i:=4) (by kernel_rfl) ?_;refine RunIF.of rfl ?_;refine Ac2 rfl (Val.build (parts:=[(0,.tmp 13)]) rfl AC5 Au1 rfl) rfl rfl rfl (Ab9 ?_)
    refine RunAF.one (i:=5) (by kernel_rfl) ?_;refine RunIF.of rfl ?_;refine Ae0 rfl (New.box rfl) rfl rfl rfl (fun b15=>(Ab9 ?_))
    refine RunAF.one (i:=6) (by kernel_rfl) ?_;refine RunIF.yieldQ rfl (Ae2 rfl rfl) rfl rfl rfl (fun w hm=>(Ah6 (α:=LW) (encs:=fun x=>[pV x.wb]) (eb:=lwB) (U:=U) (I:=I) (Ix:=Ix) (Ip:=Ip) (pre:=pv) (v:=⟨lineW v,b15,b13⟩) (N':=fun x=>(l,ob)::(D,dfrO)::(b2,yO l0)::(U x++(tl++[]))) (tl:=(l,ob)::(D,dfrO)::(b2,yO l0)::tl) (fun x=>(Pick.cnt fun x=>by simp only [nC,List.map_cons,List.map_nil,markB,dfrO];omega)) (hy pv ⟨lineW v,b15,b13⟩ x ((l,ob)::(D,dfrO)::(b2,yO l0)::tl) w hIv ⟨ok6,by (rw [List.map_append,hpv];have h:=hsp.map lineW;rw [List.map_append] at h;exact h)⟩ (by omega) ((show Mem W0 [] ((b15,wdO b13 (lineW v).length 0)::(b13,stO (lineW v))::(l,ob)::(D,dfrO)::(b2,yO l0)::(U x++(tl++[]))) w from hm).pick (Pick.cnt fun x=>by simp only [nC,List.map_cons,List.map_nil,markB,dfrO];omega))))) (fun p16 hp16=>?_) (fun z16 hz16=>(Ab9 ?_))
    ·refine Aa7 ?_
     refine Ad1 ?_;exact Ag1 p16.2 hp16 (Pick.cnt fun x=>by simp only [nC,List.map_cons,List.map_nil,markB,dfrO];omega)
    refine RunAF.one (i:=7) (by kernel_rfl) ?_;refine RunIF.of rfl ?_;refine Ac2 rfl (Aa8 rfl) rfl rfl rfl (Ab9 ?_)
    refine RunAF.done (by kernel_rfl) ?_;refine RunER.next ?_;refine RunCR.cond rfl ?_ ?_
    ·intro c0
     have c0':=c0;clear c0;try simp only [nH] at c0'
     have hno:Ix z16.2:=hz16.elim (fun h=>absurd (h.1.symm.trans c0') (by decide)) (fun h=>h.2);refine RunCR.ret ?_;refine Ac5 ?_;exact Ah8 z16.2 ⟨rfl,hno⟩ (Pick.cnt fun x=>by simp only [nC,List.map_cons,List.map_nil,markB,dfrO];omega)
    intro c0;have c0':=c0;clear c0;try simp only [nH] at c0'
    have hyes:=hz16.resolve_right (fun h=>absurd (h.1.symm.trans c0') (by decide));refine RunCR.skip ?_;refine st ?_;exact Af9 z16.2 ⟨pv++[⟨lineW v,b15,b13⟩],by simp [hpv],hyes.2⟩ (Pick.cnt fun x=>by simp only [nC,List.map_cons,List.map_nil,markB,dfrO];omega)
   refine RunIF.of rfl ?_;refine Ao7 rfl (zF rfl Be7) rfl rfl rfl (fun w hm=>(Av3 (Lib.trimSuffix v [10]) (by have:=AD0 v;omega) w (hL.mono hm))) (fun b13=>(Ab9 ?_))
   refine RunAF.all (rs:=[0,4]) (by kernel_rfl) (by simp) (fun m hm=>?_)
   simp only [List.mem_cons,List.not_mem_nil,or_false] at hm
   rcases hm with rfl | rfl
   ·refine RunIF.of rfl ?_
    refine Ac2 rfl (Aa1 rfl (.tail _ (.tail _ (.tail _ (.head _)))) AN4 rfl) rfl rfl rfl (Ab9 ?_)
    refine RunAF.one (i:=4) (by kernel_rfl) ?_;refine RunIF.of rfl ?_;refine Ac2 rfl (Val.build (parts:=[(0,.tmp 13)]) rfl AC5 Au1 rfl) rfl rfl rfl (Ab9 ?_)
    refine RunAF.one (i:=5) (by kernel_rfl) ?_;refine RunIF.of rfl ?_;refine Ae0 rfl (New.box rfl) rfl rfl rfl (fun b15=>(Ab9 ?_))
    refine RunAF.one (i:=6) (by kernel_rfl) ?_;refine RunIF.yieldQ rfl (Ae2 rfl rfl) rfl rfl rfl (fun w hm=>(Ah6 (α:=LW) (encs:=fun x=>[pV x.wb]) (eb:=lwB) (U:=U) (I:=I) (Ix:=Ix) (Ip:=Ip) (pre:=pv) (v:=⟨lineW v,b15,b13⟩) (N':=fun x=>(l,ob)::(D,dfrO)::(b2,yO l0)::(U x++(tl++[]))) (tl:=(l,ob)::(D,dfrO)::(b2,yO l0)::tl) (fun x=>(Pick.cnt fun x=>by simp only [nC,List.map_cons,List.map_nil,markB,dfrO];omega)) (hy pv ⟨lineW v,b15,b13⟩ x ((l,ob)::(D,dfrO)::(b2,yO l0)::tl) w hIv ⟨ok6,by (rw [List.map_append,hpv];have h:=hsp.map lineW;rw [List.map_append] at h;exact h)⟩ (by omega) ((show Mem W0 [] ((b15,wdO b13 (lineW v).length 0)::(b13,stO (lineW v))::(l,ob)::(D,dfrO)::(b2,yO l0)::(U x++(tl++[]))) w from hm).pick (Pick.cnt fun x=>by simp only [nC,List.map_cons,List.map_nil,markB,dfrO];omega))))) (fun p16 hp16=>?_) (fun z16 hz16=>(Ab9 ?_))
    ·refine Aa7 ?_
     refine Ad1 ?_;exact Ag1 p16.2 hp16 (Pick.cnt fun x=>by simp only [nC,List.map_cons,List.map_nil,markB,dfrO];omega)
    refine RunAF.one (i:=7) (by kernel_rfl) ?_;refine RunIF.of rfl ?_;refine Ac2 rfl (Aa8 rfl) rfl rfl rfl (Ab9 ?_)
    refine RunAF.done (by kernel_rfl) ?_;refine RunER.next ?_;refine RunCR.cond rfl ?_ ?_
    ·intro c0
     have c0':=c0;clear c0;try simp only [nH] at c0'
     have hno:Ix z16.2:=hz16.elim (fun h=>absurd (h.1.symm.trans c0') (by decide)) (fun h=>h.2);refine RunCR.ret ?_;refine Ac5 ?_;exact Ah8 z16.2 ⟨rfl,hno⟩ (Pick.cnt fun x=>by simp only [nC,List.map_cons,List.map_nil,markB,dfrO];omega)
    intro c0;have c0':=c0;clear c0;try simp only [nH] at c0'
    have hyes:=hz16.resolve_right (fun h=>absurd (h.1.symm.trans c0') (by decide));refine RunCR.skip ?_;refine st ?_;exact Af9 z16.2 ⟨pv++[⟨lineW v,b15,b13⟩],by simp [hpv],hyes.2⟩ (Pick.cnt fun x=>by simp only [nC,List.map_cons,List.map_nil,markB,dfrO];omega)
   refine RunIF.of rfl ?_;refine Ac2 rfl (Val.build (parts:=[(0,.tmp 13)]) rfl AC5 Au1 rfl) rfl rfl rfl (Ab9 ?_)
   refine RunAF.all (rs:=[0,5]) (by kernel_rfl) (by simp) (fun m hm=>?_)
   simp only [List.mem_cons,List.not_mem_nil,or_false] at hm
   rcases hm with rfl | rfl
   ·refine RunIF.of rfl ?_
    refine Ac2 rfl (Aa1 rfl (.tail _ (.tail _ (.tail _ (.head _)))) AN4 rfl) rfl rfl rfl (Ab9 ?_)
    refine RunAF.one (i:=5) (by kernel_rfl) ?_;refine RunIF.of rfl ?_;refine Ae0 rfl (New.box rfl) rfl rfl rfl (fun b15=>(Ab9 ?_))
    refine RunAF.one (i:=6) (by kernel_rfl) ?_;refine RunIF.yieldQ rfl (Ae2 rfl rfl) rfl rfl rfl (fun w hm=>(Ah6 (α:=LW) (encs:=fun x=>[pV x.wb]) (eb:=lwB) (U:=U) (I:=I) (Ix:=Ix) (Ip:=Ip) (pre:=pv) (v:=⟨lineW v,b15,b13⟩) (N':=fun x=>(l,ob)::(D,dfrO)::(b2,yO l0)::(U x++(tl++[]))) (tl:=(l,ob)::(D,dfrO)::(b2,yO l0)::tl) (fun x=>(Pick.cnt fun x=>by simp only [nC,List.map_cons,List.map_nil,markB,dfrO];omega)) (hy pv ⟨lineW v,b15,b13⟩ x ((l,ob)::(D,dfrO)::(b2,yO l0)::tl) w hIv ⟨ok6,by (rw [List.map_append,hpv];have h:=hsp.map lineW;rw [List.map_append] at h;exact h)⟩ (by omega) ((show Mem W0 [] ((b15,wdO b13 (lineW v).length 0)::(b13,stO (lineW v))::(l,ob)::(D,dfrO)::(b2,yO l0)::(U x++(tl++[]))) w from hm).pick (Pick.cnt fun x=>by simp only [nC,List.map_cons,List.map_nil,markB,dfrO];omega))))) (fun p16 hp16=>?_) (fun z16 hz16=>(Ab9 ?_))
    ·refine Aa7 ?_
     refine Ad1 ?_;exact Ag1 p16.2 hp16 (Pick.cnt fun x=>by simp only [nC,List.map_cons,List.map_nil,markB,dfrO];omega)
    refine RunAF.one (i:=7) (by kernel_rfl) ?_;refine RunIF.of rfl ?_;refine Ac2 rfl (Aa8 rfl) rfl rfl rfl (Ab9 ?_)
    refine RunAF.done (by kernel_rfl) ?_;refine RunER.next ?_;refine RunCR.cond rfl ?_ ?_
    ·intro c0
     have c0':=c0;clear c0;try simp only [nH] at c0'
     have hno:Ix z16.2:=hz16.elim (fun h=>absurd (h.1.symm.trans c0') (by decide)) (fun h=>h.2);refine RunCR.ret ?_;refine Ac5 ?_;exact Ah8 z16.2 ⟨rfl,hno⟩ (Pick.cnt fun x=>by simp only [nC,List.map_cons,List.map_nil,markB,dfrO];omega)
    intro c0;have c0':=c0;clear c0;try simp only [nH] at c0'
    have hyes:=hz16.resolve_right (fun h=>absurd (h.1.symm.trans c0') (by decide));refine RunCR.skip ?_;refine st ?_;exact Af9 z16.2 ⟨pv++[⟨lineW v,b15,b13⟩],by simp [hpv],hyes.2⟩ (Pick.cnt fun x=>by simp only [nC,List.map_cons,List.map_nil,markB,dfrO];omega)
   refine RunIF.of rfl ?_;refine Ae0 rfl (New.box rfl) rfl rfl rfl (fun b15=>(Ab9 ?_))
   refine RunAF.one (i:=0) (by kernel_rfl) ?_;refine RunIF.of rfl ?_;refine Ac2 rfl (Aa1 rfl (.tail _ (.tail _ (.tail _ (.tail _ (.head _))))) AN4 rfl) rfl rfl rfl (Ab9 ?_)
   refine RunAF.one (i:=6) (by kernel_rfl) ?_;refine RunIF.yieldQ rfl (Ae2 rfl rfl) rfl rfl rfl (fun w hm=>(Ah6 (α:=LW) (encs:=fun x=>[pV x.wb]) (eb:=lwB) (U:=U) (I:=I) (Ix:=Ix) (Ip:=Ip) (pre:=pv) (v:=⟨lineW v,b15,b13⟩) (N':=fun x=>(l,ob)::(D,dfrO)::(b2,yO l0)::(U x++(tl++[]))) (tl:=(l,ob)::(D,dfrO)::(b2,yO l0)::tl) (fun x=>(Pick.cnt fun x=>by simp only [nC,List.map_cons,List.map_nil,markB,dfrO];omega)) (hy pv ⟨lineW v,b15,b13⟩ x ((l,ob)::(D,dfrO)::(b2,yO l0)::tl) w hIv ⟨ok6,by (rw [List.map_append,hpv];have h:=hsp.map lineW;rw [List.map_append] at h;exact h)⟩ (by omega) ((show Mem W0 [] ((b15,wdO b13 (lineW v).length 0)::(b13,stO (lineW v))::(l,ob)::(D,dfrO)::(b2,yO l0)::(U x++(tl++[]))) w from hm).pick (Pick.cnt fun x=>by simp only [nC,List.map_cons,List.map_nil,markB,dfrO];omega))))) (fun p16 hp16=>?_) (fun z16 hz16=>(Ab9 ?_))
   ·refine Aa7 ?_
    refine Ad1 ?_;exact Ag1 p16.2 hp16 (Pick.cnt fun x=>by simp only [nC,List.map_cons,List.map_nil,markB,dfrO];omega)
   refine RunAF.one (i:=7) (by kernel_rfl) ?_;refine RunIF.of rfl ?_;refine Ac2 rfl (Aa8 rfl) rfl rfl rfl (Ab9 ?_)
   refine RunAF.done (by kernel_rfl) ?_;refine RunER.next ?_;refine RunCR.cond rfl ?_ ?_
   ·intro c0
    have c0':=c0;clear c0;try simp only [nH] at c0'
    have hno:Ix z16.2:=hz16.elim (fun h=>absurd (h.1.symm.trans c0') (by decide)) (fun h=>h.2);refine RunCR.ret ?_;refine Ac5 ?_;exact Ah8 z16.2 ⟨rfl,hno⟩ (Pick.cnt fun x=>by simp only [nC,List.map_cons,List.map_nil,markB,dfrO];omega)
   intro c0;have c0':=c0;clear c0;try simp only [nH] at c0'
   have hyes:=hz16.resolve_right (fun h=>absurd (h.1.symm.trans c0') (by decide));refine RunCR.skip ?_;refine st ?_;exact Af9 z16.2 ⟨pv++[⟨lineW v,b15,b13⟩],by simp [hpv],hyes.2⟩ (Pick.cnt fun x=>by simp only [nC,List.map_cons,List.map_nil,markB,dfrO];omega)
  ·intro D xs x hS hI
   obtain ⟨pv,hpv,hIv⟩:=hI;subst hS;refine st ?_;exact Bh7 (news2:=U x++(rest++[])) [D] (Pick.cnt fun x=>by simp only [nC,List.map_cons,List.map_nil,markB,dfrO];omega) (.r0 rfl) (fun w hm=>⟨x,hm.pick (Pick.cnt fun x=>by simp only [nC,List.map_cons,List.map_nil,markB,dfrO];omega),.inl ⟨_,rfl,.inl ⟨pv,⟨ok6,hpv⟩,hIv⟩⟩⟩)
  ·intro D c x hst
   obtain ⟨rfl,hix⟩:=hst;refine Ak7 ?_;refine su ?_;exact Au8 (news2:=U x++(rest++[])) [D] (Pick.cnt fun x=>by simp only [nC,List.map_cons,List.map_nil,markB,dfrO];omega) (.r0 rfl) (fun w hm=>⟨x,hm.pick (Pick.cnt fun x=>by simp only [nC,List.map_cons,List.map_nil,markB,dfrO];omega),.inl ⟨_,rfl,.inr hix⟩⟩)
  ·intro D c x hp
   refine Ad1 ?_;exact Ba0 (news2:=U x++(rest++[])) [D] (Pick.cnt fun x=>by simp only [nC,List.map_cons,List.map_nil,markB,dfrO];omega) (fun w hm=>⟨x,hm.pick (Pick.cnt fun x=>by simp only [nC,List.map_cons,List.map_nil,markB,dfrO];omega),.inr (.inl ⟨c,rfl,hp⟩)⟩)
  intro D k xs x hq hI;exact hq.elim
end Go.Proofs.YtmkdbdbenfbkhaaGreatDoor
namespace Go.Proofs.YtmkdbdbenfbkhaaGreatDoor
open Go Go.Eng
theorem BX8:fieldB Tryz.prog 267 0=some 0:=by kernel_rfl
instance:Fld Tryz.prog 267 0 0:=⟨BX8⟩
theorem BU0:placesB Tryz.prog 39=some [(0,1),(1,2),(3,2)]:=by kernel_rfl
theorem Cr5:tyB Tryz.prog 267=some (true,1):=by kernel_rfl
instance:Tyc Tryz.prog 267 true 1:=⟨Cr5⟩
theorem Ak8:tyB Tryz.prog 42=some (false,1):=by kernel_rfl
instance:Tyc Tryz.prog 42 false 1:=⟨Ak8⟩
theorem Aw2:Tryz.prog.underlying 20=some (.interface #[]):=by kernel_rfl
theorem AF9:zeroB Tryz.prog 25=some [.int .i64 0,.slice none 0 0,.slice none 0 0,.slice none 0 0,.slice none 0 0]:=by kernel_rfl
theorem BO9:zeroB Tryz.prog 39=some [.slice none 0 0,.int .i64 0,.int .i64 0,.int .i64 0,.int .i64 0]:=by kernel_rfl
end Go.Proofs.YtmkdbdbenfbkhaaGreatDoor
namespace Go.Eng
open Go Go.RowKit
section
variable {P:Program} {n:Nat} {r:Regs} {W:World} {news:Blks}
theorem Mem.also {w w':World} {be bx:Nat} {o ox:Obj} (h:Mem w [(be,o)] [] w') (hx:w.heap[bx]? = some ox) (hne:be ≠ bx):Mem w [(be,o),(bx,ox)] [] w' :=
  ⟨h.os,h.tape,h.output,h.size,fun k hk hc=>h.old k hk (fun o2 ho=>hc o2 (by simp only [List.mem_cons,List.not_mem_nil,or_false] at ho ⊢;exact .inl ho)),fun b o2 hb=>by
    simp only [List.mem_cons,List.not_mem_nil,or_false,Prod.mk.injEq] at hb
    rcases hb with ⟨rfl,rfl⟩ | ⟨rfl,rfl⟩
    · exact h.chgd _ _ (by simp)
    · have hlt:b < w.heap.size:=by
        rcases Nat.lt_or_ge b w.heap.size with h2 | h2
        · exact h2
        · rw [Array.getElem?_eq_none h2] at hx;cases hx
      exact ⟨hlt,by rw [h.old b hlt (fun o2 ho=>by simp at ho;exact hne ho.1.symm)];exact hx⟩,fun _ _ h=>(by cases h),by simp [hne]⟩
theorem AV3 {P:Program} {Q:Exit→Act→World→Prop} {n:Nat} {c:Code} {r:Regs} {ds:List Deferred} {W:World} {chg news:Blks} {a:Act} {w:World} (h:RunC P Q n c r ds W chg news) (s:St n r ds W chg news a w):c.wp P Q a w:=h a w s
theorem Cv7 (a b:Value) (arr:Array Value) (ds:List Deferred):Agree { tmps:=#[a,b]++arr,defers:=ds } [(0,a),(1,b)]:=fun t v h=>by
  rcases t with _ | _ | t
  · have h2:some a=some v:=h
    cases h2
    show (#[a,b]++arr)[0]? = some a
    rw [Array.getElem?_append_left (by simp)];rfl
  · have h2:some b=some v:=h
    cases h2
    show (#[a,b]++arr)[1]? = some b
    rw [Array.getElem?_append_left (by simp)];rfl
  · have h2:none=some v:=h
    cases h2
structure Catches2 (P:Program) (f:FuncId) (Te Tx:TypeId) (zs:List Value) (mis:Int→Value):Prop where
  calm:∀ (be bx:Nat) (w:World),w.heap[be]? = some (.cells [.int .i64 0].toArray Te (0,0))→CallsDIn Fence.wide 8 P f #[.pointer (some ⟨be,0,none⟩),.pointer (some ⟨bx,0,none⟩)] .returning w fun e u w'=>(∃ v,e = .returned v)∧u = .returning∧Mem w [] [] w'
  wild:∀ (be bx:Nat) (k:Int) (cs:List Value) (w:World),k ≠ 0→w.heap[be]? = some (.cells [.int .i64 0].toArray Te (0,0))→w.heap[bx]? = some (.cells cs.toArray Tx (0,0))→be ≠ bx→cs.length=zs.length→CallsDIn Fence.wide 8 P f #[.pointer (some ⟨be,0,none⟩),.pointer (some ⟨bx,0,none⟩)] (.panicking [{ v:=mis k,recovered:=false }]) w fun e u w' =>
    (∃ v,e = .returned v)∧u = .panicking [{ v:=mis k,recovered:=true }]∧Mem w [(be,.cells [.int .i64 k].toArray Te (0,0)),(bx,.cells zs.toArray Tx (0,0))] [] w'
variable {fn:Func} {f:FuncId} {Te Tx:TypeId} {zs:List Value} {mis:Int→Value} {R:Ending→World→Prop} {v:Value} {be bx:Nat}
theorem Bn1 {news2:Blks} {a:Act} (hc:Catches2 P f Te Tx zs mis) (he:Enters P f) (hb:(be,.cells [.int .i64 0].toArray Te (0,0))∈news2) (hag:Agree a r) (hv:ResVs P r ([]++news2) fn v) (hR:∀ w,Mem W [] news2 w→R (.returned v) w) :
    ∀ w,Mem W [] news2 w→LeavesInM Fence.wide 9 P fn a.tmps R [{ target:=.fn (.func f) #[.pointer (some ⟨be,0,none⟩),.pointer (some ⟨bx,0,none⟩)],args:=#[] }] .returning w:=fun w hm=>by
  refine ⟨by simp,.inr ⟨fun h=>(by cases h),_,_,f,#[.pointer (some ⟨be,0,none⟩),.pointer (some ⟨bx,0,none⟩)],rfl,by simp [invoke];exact he _ _,fun _ _=>trivial,(hc.calm be bx w (hm.newd _ _ hb).2).mono ?_⟩⟩
  rintro e u w' ⟨⟨x,rfl⟩,rfl,hm'⟩
  have hm2:=hm.pass hm';exact ⟨v,hv.run hag (fun _ _ h=>hm2.at h),hR _ hm2⟩
theorem BO1 {news2:Blks} (Ds:List Nat) (hc:Catches2 P f Te Tx zs mis) (he:Enters P f) (hp:Pick (Ds.map markB++news2) news) (hb:(be,.cells [.int .i64 0].toArray Te (0,0))∈news2) (hv:ResVs P r ([]++news2) fn v) (hR:∀ w,Mem W [] news2 w→R (.returned v) w) :
    RunE (bodyPostM Fence.wide 9 P fn R) n .ret r (Ds.map markD++[{ target:=.fn (.func f) #[.pointer (some ⟨be,0,none⟩),.pointer (some ⟨bx,0,none⟩)],args:=#[] }]) W [] news:=fun a w s=>by
  show LeavesInM _ _ _ _ _ _ a.defers _ w
  rw [s.defers];exact Ao8 (by simp) (Bn1 hc he hb s.agree hv hR) Ds w (s.mem.pick hp)
theorem Au7 {k:Int} {cs:List Value} {rest:Blks} (Ds:List Nat) (hc:Catches2 P f Te Tx zs mis) (he:Enters P f) (hk:k ≠ 0) (hl:cs.length=zs.length) (hp:Pick (Ds.map markB++((be,.cells [.int .i64 0].toArray Te (0,0))::(bx,.cells cs.toArray Tx (0,0))::rest)) news)
    (hv:ResVs P r ([]++((be,.cells [.int .i64 k].toArray Te (0,0))::(bx,.cells zs.toArray Tx (0,0))::rest)) fn v) (hR:∀ w,Mem W [] ((be,.cells [.int .i64 k].toArray Te (0,0))::(bx,.cells zs.toArray Tx (0,0))::rest) w→R (.returned v) w) :
    RunE (bodyPostM Fence.wide 9 P fn R) n (.panic [{ v:=mis k,recovered:=false }]) r (Ds.map markD++[{ target:=.fn (.func f) #[.pointer (some ⟨be,0,none⟩),.pointer (some ⟨bx,0,none⟩)],args:=#[] }]) W [] news:=fun a w s=>by
  show LeavesInM _ _ _ _ _ _ a.defers _ w
  rw [s.defers];refine Ao8 (news2:=(be,.cells [.int .i64 0].toArray Te (0,0))::(bx,.cells cs.toArray Tx (0,0))::rest) (by simp) (fun w hm=>?_) Ds w (s.mem.pick hp)
  have hbe:=hm.newd be _ (List.mem_cons_self ..);have hbx:=hm.newd bx _ (List.mem_cons_of_mem _ (List.mem_cons_self ..))
  have hne:be ≠ bx:=fun e=>by
    have h1:=hm.once;subst e;simp at h1
  refine ⟨by simp,.inr ⟨fun h=>(by cases h),_,_,f,#[.pointer (some ⟨be,0,none⟩),.pointer (some ⟨bx,0,none⟩)],rfl,by simp [invoke];exact he _ _,fun _ _=>trivial,(hc.wild be bx k cs w hk hbe.2 hbx.2 hne hl).mono ?_⟩⟩
  rintro e u w' ⟨⟨y,rfl⟩,rfl,hm'⟩
  have hm2:Mem W [] ((be,.cells [.int .i64 k].toArray Te (0,0))::(bx,.cells zs.toArray Tx (0,0))::rest) w' :=
    Mem.round (V:=[(be,.cells [.int .i64 0].toArray Te (0,0)),(bx,.cells cs.toArray Tx (0,0))]) (V':=[(be,.cells [.int .i64 k].toArray Te (0,0)),(bx,.cells zs.toArray Tx (0,0))]) hm hm' rfl
  exact ⟨v,hv.run s.agree (fun _ _ h=>hm2.at h),hR _ hm2⟩
end
end Go.Eng
namespace Go.Proofs.YtmkdbdbenfbkhaaGreatDoor
open Go Go.Eng Go.Bk Go.RowKit

theorem BN1 (b:Nat) (W:World):Calls Tryz.prog 74 #[.nilIface,.pointer (some ⟨b,0,none⟩)] W (Pure (.tuple #[]) W):=by
  refine Aa2 Tryz.func74 rfl rfl ?_;refine st ?_;refine lv (Aj2 rfl Aw2) ?_;refine RunC.cond rfl ?_ (fun h=>absurd h (by simp))
  intro c0;clear c0;refine su ?_;exact Aa4 (.r0 rfl) (by first | rfl | simp)
theorem BN2 (b:Nat) (k:Int) (x:Value) (W:World) (hb:W.heap[b]? = some (.cells #[x] 42 (0,0))):Calls Tryz.prog 74 #[misf k,.pointer (some ⟨b,0,none⟩)] W (Turns b (.cells #[.int .i64 k] 42 (0,0)) (.tuple #[]) W):=by
  refine Aj0 hb Tryz.func74 rfl rfl ?_;refine st ?_;refine lv (Ah9 rfl Aw2) ?_;refine RunC.cond rfl (fun h=>absurd h (by simp)) ?_;intro c0;clear c0;refine st ?_;refine lv (Al7 rfl BF3) ?_;refine zn (New.alloc BC6) (fun b4=>?_)
  refine Ab4 (Sto.store rfl rfl .here Cr5 rfl rfl) rfl rfl ?_;refine st ?_;refine RunC.cond rfl (fun h=>absurd h (by simp)) ?_;intro c1;clear c1;refine su ?_;refine Ab4 (Al8 rfl rfl .here Ak8 rfl rfl) rfl rfl ?_;refine st ?_;exact Ah7 (chg:=[(b,_)]) (.r0 rfl) (fun _ hm=>⟨rfl,hm.drop⟩)
def zsrdT:List Value:=[.int .i64 0,.slice none 0 0,.slice none 0 0,.slice none 0 0,.slice none 0 0]
theorem Ck7 (be bx:Nat) (w:World) (hbe:w.heap[be]? = some (.cells [.int .i64 0].toArray 42 (0,0))):CallsDIn Fence.wide 8 Tryz.prog 138 #[.pointer (some ⟨be,0,none⟩),.pointer (some ⟨bx,0,none⟩)] .returning w fun e u w'=>(∃ v,e = .returned v)∧u = .returning∧Mem w [] [] w':=by
  refine Ag6 Tryz.func138 rfl fun c₀ cs hu=>?_
  refine wpS_seq (wpS_region ?_)
  simp only [List.range,List.range.loop,Array.size,List.size_toArray,List.length_cons,List.length_nil];simp [wpOpsS,go_sem,recoverD,hu,Tryz.ntmps138,Exit.thenS]
  refine (BN1 be w).mono ?_
  rintro e w' ⟨rfl,hm⟩
  refine wpS_of_wp ?_;refine AV3 (n:=Tryz.f138.ntmps) (r:=[(0,pV be),(1,pV bx)]) (ds:=[]) (W:=w) (chg:=[]) (news:=[]) ?_ ⟨rfl,Cv7 _ _ _ _,rfl,hm⟩
  refine st ?_;refine lv (Aa9 rfl hbe (by simp) Ak8 rfl) ?_;refine RunC.cond rfl (fun h=>absurd h (by simp)) ?_;intro c0;clear c0;refine st ?_;exact fun _ _ s=>⟨s.defers,.returning,by rw [← hu],_,results_none rfl _ _ _,⟨_,rfl⟩,rfl,s.mem.drop⟩
theorem Ck6 (be bx:Nat) (k:Int) (xs:List Value) (w:World) (hk:k ≠ 0) (hbe:w.heap[be]? = some (.cells [.int .i64 0].toArray 42 (0,0))) (hbx:w.heap[bx]? = some (.cells xs.toArray 25 (0,0))) (hne:be ≠ bx) (hl:xs.length=zsrdT.length):CallsDIn Fence.wide 8 Tryz.prog 138 #[.pointer (some ⟨be,0,none⟩),.pointer (some ⟨bx,0,none⟩)] (.panicking [{ v:=misf k,recovered:=false }]) w fun e u w' =>
    (∃ v,e = .returned v)∧u = .panicking [{ v:=misf k,recovered:=true }]∧Mem w [(be,.cells [.int .i64 k].toArray 42 (0,0)),(bx,.cells zsrdT.toArray 25 (0,0))] [] w':=by
  refine Ag6 Tryz.func138 rfl fun c₀ cs hu=>?_
  refine wpS_seq (wpS_region ?_)
  simp only [List.range,List.range.loop,Array.size,List.size_toArray,List.length_cons,List.length_nil];simp [wpOpsS,go_sem,recoverD,hu,Tryz.ntmps138,Exit.thenS]
  refine (BN2 be k _ w hbe).mono ?_
  rintro e w' ⟨rfl,hm⟩
  refine wpS_of_wp ?_;refine AV3 (n:=Tryz.f138.ntmps) (r:=[(0,pV be),(1,pV bx)]) (ds:=[]) (W:=w) (chg:=[(be,.cells [.int .i64 k].toArray 42 (0,0)),(bx,.cells xs.toArray 25 (0,0))]) (news:=[]) ?_ ⟨rfl,Cv7 _ _ _ _,rfl,hm.also hbx hne⟩
  obtain ⟨x0,x1,x2,x3,x4,rfl⟩:∃ x0 x1 x2 x3 x4,xs=[x0,x1,x2,x3,x4]:=by
    match xs,hl with
    | [x0,x1,x2,x3,x4],_=>exact ⟨x0,x1,x2,x3,x4,rfl⟩
  refine su ?_;refine RunC.cond rfl ?_ (fun h=>absurd h (by simpa using hk))
  intro c0;clear c0;refine st ?_;refine zn (New.alloc AF9) (fun b2=>?_)
  refine Ab4 (Al8 rfl rfl (.there .here) At4 rfl rfl) rfl rfl ?_;refine st ?_;exact fun _ _ s=>⟨s.defers,.panicking [{ v:=misf k,recovered:=true }],rfl,_,results_none rfl _ _ _,⟨_,rfl⟩,rfl,s.mem.drop⟩
theorem Ao4:Catches2 Tryz.prog 138 42 25 zsrdT misf:=⟨Ck7,Ck6⟩
end Go.Proofs.YtmkdbdbenfbkhaaGreatDoor
namespace Go.Proofs.YtmkdbdbenfbkhaaGreatDoor
open Go Go.Eng
theorem CL3:Enters Tryz.prog 89:=Aa3 Tryz.func89 (by kernel_rfl) rfl
theorem CL1:Enters Tryz.prog 91:=Aa3 Tryz.func91 (by kernel_rfl) rfl
theorem CK9:Enters Tryz.prog 94:=Aa3 Tryz.func94 (by kernel_rfl) rfl
theorem CK8:Enters Tryz.prog 95:=Aa3 Tryz.func95 (by kernel_rfl) rfl
theorem CK7:Enters Tryz.prog 96:=Aa3 Tryz.func96 (by kernel_rfl) rfl
end Go.Proofs.YtmkdbdbenfbkhaaGreatDoor
namespace Go.Bk
open Go Go.Eng Go.RowKit
theorem AN9 (l:Str):splitL l=Lib.split l [32]:=by
  unfold splitL Lib.split;rw [Lib.splitB_data];rfl
theorem AV8 {l:Str} {i:Nat} (h:Lib.indexByte l 32=(i:Int)):splitL l=l.take i::splitL (l.drop (i + 1)):=by
  have h1:Lib.index l [32]=(i:Int):=by rw [Lib.index_one];exact h
  have hc:=Lib.count_hit (s:=l) (sub:=[32]) (by simp) h1;rw [AN9,AN9];unfold Lib.split;rw [hc,Nat.add_comm,Lib.splitK];have hm:¬ (Lib.index l [32] == -1)=true:=fun e=>by have:=beq_iff_eq.1 e;omega
  rw [if_neg hm,h1];rfl
theorem AN8 {l:Str} (h:Lib.indexByte l 32 = -1):splitL l=[l]:=by
  have h1:Lib.index l [32] = -1:=by rw [Lib.index_one];exact h
  rw [AN9];unfold Lib.split;rw [Lib.count_miss h1];rfl
theorem Bo2:∀ {l:Str} {c:UInt8} {i:Nat},Lib.indexByte l c=(i:Int)→i < l.length:=fun {l c i} h=>by
  have:=(Lib.indexByte_some h).1
  exact (List.getElem?_eq_some_iff.1 this).1
theorem Bj4:∀ (n:Nat) (l:Str),l.length≤n→(splitL l).length≤l.length + 1∧∀ w∈splitL l,w.length≤l.length
  | n,l,hn=>by
    have hge:=Lib.indexByte_ge l 32
    by_cases h:Lib.indexByte l 32 < 0
    · rw [AN8 (by omega)]
      simp
    · obtain ⟨i,hi⟩:∃ i:Nat,Lib.indexByte l 32=i:=⟨(Lib.indexByte l 32).toNat,by omega⟩
      have hlt:=Bo2 hi
      match n,hn with
      | 0,hn=>omega
      | n + 1,hn =>
        have ih:=Bj4 n (l.drop (i + 1)) (by simp only [List.length_drop];omega);rw [AV8 hi];simp only [List.length_drop,List.length_cons] at ih ⊢;refine ⟨by omega,fun w hw=>?_⟩
        rcases List.mem_cons.1 hw with rfl | hw
        · simp;omega
        · have:=ih.2 w hw;omega
theorem BD4 {s:Str} (hs:s.length≤4096) {ws:List Str} (h:ws∈(linesL s).map lineW):ws.length≤10000∧∀ w∈ws,w.length≤100000:=by
  obtain ⟨l,hl,rfl⟩:=List.mem_map.1 h;have h1:=Aw6 s l hl;have h2:=AD0 l;have h3:=Bj4 _ (Lib.trimSuffix l [10]) (Nat.le_refl _);unfold lineW;exact ⟨by omega,fun w hw=>by have:=h3.2 w hw;omega⟩
def runL {α:Type} (step:α→List Str→Option α):α→List (List Str)→Option α
  | x,[]=>some x
  | x,l::ls=>match step x l with
    | some y=>runL step y ls
    | none=>none
theorem AD2 {α:Type} {step:α→List Str→Option α}:∀ {a b:List (List Str)} {x:α},runL step x (a++b)=match runL step x a with
    | some y=>runL step y b
    | none=>none
  | [],b,x=>rfl
  | l::a,b,x=>by
    simp only [List.cons_append,runL]
    cases step x l with
    | none=>rfl
    | some y=>exact AD2
theorem Bk0 {α:Type} {step:α→List Str→Option α} {a:List (List Str)} {l:List Str} {x y:α} (h:runL step x a=some y):runL step x (a++[l])=step y l:=by
  rw [AD2,h];simp only [runL]
  cases step y l <;> rfl
theorem Ck1 {α:Type} {step:α→List Str→Option α} {a all:List (List Str)} {l:List Str} {x y:α} (h:runL step x a=some y) (hl:step y l=none) (hp:a++[l] <+: all):runL step x all=none:=by
  obtain ⟨t,rfl⟩:=hp;rw [AD2,Bk0 h,hl]
def parseX {α:Type} (step:α→List Str→Option α) (z:α) (s:Str):Option α:=if Lib.hasSuffix s [10] then runL step z ((linesL s).map lineW) else none
def readX {α:Type} (step:α→List Str→Option α) (z:α) (ok:α→Bool) (text:α→Str) (s:Str):Except Int α :=
  if 4096 < s.length then .error 3 else
    match parseX step z s with
    | some x=>if ok x && decide (text x=s) then .ok x else .error 8
    | none=>.error 8
def OL.sa {α:Type} (z:OL α):SA α:=⟨z.2,ownQ z.1,ownK z.1,0,ownC z.1⟩
theorem OL.sa_v {α:Type} {z:OL α} {f:α→List Value} {sz:Nat} (h:z.ok f sz):(OL.sa z).v=ownV z.1 z.2.length:=(Ad5 h).symm
theorem CJ7 {sz n:Nat} {x:Eng.Own} {xs:List Value} (h:OwnOk sz x n xs):ownQ x=none→n=0∧ownC x=0:=fun e=>by
  match x,h,e with
  | none,h,_=>exact ⟨h.nil rfl,rfl⟩
def TrX.toA (x:TrX):TrA:=⟨x.dawn,OL.sa x.fr,⟨x.ways.2.map OL.sa,ownQ x.ways.1,ownK x.ways.1,0,ownC x.ways.1⟩,OL.sa x.stay,OL.sa x.light⟩
theorem TrX.toA_pl (x:TrX):x.toA.pl=x.pl:=by simp [TrX.toA,TrA.pl,TrX.pl,OL.sa,List.map_map,Function.comp_def]
theorem TrXOk.cells {n:Nat} {x:TrX} (h:TrXOk n x):x.toA.cells=x.cells:=by
  have e:x.toA.ways.v=ownV x.ways.1 x.ways.2.length:=by
    unfold SA.v TrX.toA;rw [List.length_map];exact (Ad5 h.ways).symm
  show [Value.int .i64 x.dawn,(OL.sa x.fr).v,x.toA.ways.v,(OL.sa x.stay).v,(OL.sa x.light).v]=_
  rw [e,OL.sa_v h.fr,OL.sa_v h.stay,OL.sa_v h.light];rfl
theorem TrXOk.sm {n:Nat} {x:TrX} (h:TrXOk n x) (hn:n≤10000):TrSm x.toA :=
  ⟨h.s1,by have:=h.few;show (x.ways.2.map OL.sa).length≤10000;rw [List.length_map];omega,fun y hy=>by
    obtain ⟨r,hr,rfl⟩:=List.mem_map.1 hy;exact h.s4 r hr,h.s2,h.s3⟩
def zeroTX:TrX:=⟨0,(none,[]),(none,[]),(none,[]),(none,[])⟩
theorem BP2:TrXOk 0 zeroTX:=⟨Bl9,Bl9,fun r h=>(by cases h),Bl9,Bl9,Nat.le_refl _,by decide,by decide,by decide,fun r h=>(by cases h)⟩
def zeroT:Tr:=⟨0,[],[],[],[]⟩
theorem Cx9 {l:List (OL Sp)} (h:∀ r∈l,OL.ok r Sp.cells 2):(l.map rowC)=(l.map OL.sa).map SA.cell:=by
  rw [List.map_map];refine List.map_congr_left fun r hr=>?_
  show [ownV r.1 r.2.length]=[(OL.sa r).v]
  rw [OL.sa_v (h r hr)]
end Go.Bk
namespace Go.Proofs.YtmkdbdbenfbkhaaGreatDoor
open Go Go.Eng Go.Bk Go.RowKit

def trB (x:TrX):Blks:=spB x.fr++(waB x.ways++(spRows x.ways.2++(spB x.stay++spB x.light)))
theorem Cj9 {z:OL Sp} {w:World} (h:z.ok Sp.cells 2) (hm:∀ b o,(b,o)∈spB z→w.heap[b]? = some o):(OL.sa z).ok Sp.cells 2 w:=Ah1 (f:=Sp.cells) (fun _=>rfl) (by decide) h hm
theorem Cs4 {n:Nat} {x:TrX} {w W0:World} {tl:Blks} (h:TrXOk n x) (hm:Mem W0 [] (trB x++tl) w):TrOk w x.toA:=by
  have hat:∀ b o,(b,o)∈trB x→w.heap[b]? = some o:=fun b o hb=>(hm.newd b o (List.mem_append_left _ hb)).2
  refine ⟨Cj9 h.fr fun b o hb=>hat b o ?_,?_,fun y hy=>?_,Cj9 h.stay fun b o hb=>hat b o ?_,Cj9 h.light fun b o hb=>hat b o ?_,fun hq=>?_⟩
  · unfold trB;exact List.mem_append_left _ hb
  · show Sl w (ownQ x.ways.1) (ownK x.ways.1) 0 1 ((x.ways.2.map OL.sa).map SA.cell)
    rw [← Cx9 h.rows];refine Ah1 (f:=rowC) (e:=22) (fun _=>rfl) (by decide) h.ways (fun b o hb=>hat b o ?_)
    unfold trB;exact List.mem_append_right _ (List.mem_append_left _ hb)
  · obtain ⟨r,hr,rfl⟩:=List.mem_map.1 hy
    refine Cj9 (h.rows r hr) fun b o hb=>hat b o ?_
    unfold trB;refine List.mem_append_right _ (List.mem_append_right _ (List.mem_append_left _ ?_))
    exact List.mem_flatten.2 ⟨_,List.mem_map.2 ⟨r,hr,rfl⟩,hb⟩
  · unfold trB
    exact List.mem_append_right _ (List.mem_append_right _ (List.mem_append_right _ (List.mem_append_left _ hb)))
  · unfold trB
    exact List.mem_append_right _ (List.mem_append_right _ (List.mem_append_right _ (List.mem_append_right _ hb)))
  · have h1:=CJ7 h.ways hq
    exact ⟨by show (x.ways.2.map OL.sa).length=0;rw [List.length_map];exact h1.1,h1.2⟩
theorem Bb0 (x:TrX) (n:Nat) (h:TrXOk n x) (hs:TrSm x.toA) (m:Nat) (tl:Blks) (W0 w:World) (hm:Mem W0 [] (trB x++tl) w) (hL:Lw Tryz.prog w):Calls Tryz.prog 28 #[.agg x.cells.toArray,kindV 84 97 m] w (Pure (writeV (tourX x.pl) (tourS x.pl)) w):=by
  have h1:=AH5 x.toA hs m w hL (Cs4 h hm);rw [TrX.toA_pl] at h1;have e:x.toA.v = .agg x.cells.toArray:=by unfold TrA.v;rw [h.cells]
  rw [e] at h1;exact h1
theorem Bw9 {v:Value} (wb sb:Nat) (all:List Str) (xb:Nat) (x:TrX) (n:Nat) (rest:Blks) (W0:World) (hL:Lw Tryz.prog W0) (hj:WdOk all 1) (hx:TrXOk n x) (hn:n≤10000) (hv:sFind toursL (all.getD 0 [])=some v) :
    ∃ gf,v = .func (.func gf) #[] #[]∧Enters Tryz.prog gf∧∀ w,Mem W0 [] ((wb,wdO sb all.length 1)::(sb,stO all)::trM xb x (rest++[])) w→Calls Tryz.prog gf #[pV xb,pV wb] w (LineT W0 xb n (tourStep x.pl all) rest):=by
  unfold sFind toursL at hv;simp only [sIdx] at hv;unfold tourStep
  split at hv
  · rename_i h0
    simp at hv
    rw [if_pos h0.symm];exact ⟨_,hv.symm,CL3,fun w hm=>Bx7 wb sb all xb x n rest W0 w hL hm hj hx hn⟩
  · rename_i h0
    rw [if_neg (fun h=>h0 h.symm)]
    split at hv
    · rename_i h1
      simp at hv
      rw [if_pos h1.symm];exact ⟨_,hv.symm,CL1,fun w hm=>Bx9 wb sb all xb x n rest W0 w hL hm hj hx hn⟩
    · rename_i h1
      rw [if_neg (fun h=>h1 h.symm)]
      split at hv
      · rename_i h2
        simp at hv
        rw [if_pos h2.symm];exact ⟨_,hv.symm,CK9,fun w hm=>Bx6 wb sb all xb x n rest W0 w hL hm hj hx hn⟩
      · rename_i h2
        rw [if_neg (fun h=>h2 h.symm)]
        split at hv
        · rename_i h3
          simp at hv
          rw [if_pos h3.symm];exact ⟨_,hv.symm,CK8,fun w hm=>Bx8 wb sb all xb x n rest W0 w hL hm hj hx hn⟩
        · rename_i h3
          rw [if_neg (fun h=>h3 h.symm)]
          split at hv
          · rename_i h4
            simp at hv
            rw [if_pos h4.symm];exact ⟨_,hv.symm,CK7,fun w hm=>Bp2 wb sb all xb x n rest W0 w hL hm hj hx hn⟩
          · simp at hv
theorem BM0 (all:List Str) (x:Tr) (hv:sFind toursL (all.getD 0 [])=none):tourStep x all=none:=by
  unfold sFind toursL at hv;simp only [sIdx] at hv;unfold tourStep
  repeat' split at hv
  all_goals first | (simp at hv;done) | skip
  rename_i h0 h1 h2 h3 h4;rw [if_neg (fun h=>h0 h.symm),if_neg (fun h=>h1 h.symm),if_neg (fun h=>h2 h.symm),if_neg (fun h=>h3 h.symm),if_neg (fun h=>h4 h.symm)]
end Go.Proofs.YtmkdbdbenfbkhaaGreatDoor
namespace Go.Proofs.YtmkdbdbenfbkhaaGreatDoor
open Go Go.Eng
theorem AG5:Enters Tryz.prog 138:=Aa3 Tryz.func138 (by kernel_rfl) rfl
theorem CE7:Enters Tryz.prog 139:=Aa3 Tryz.func139 (by kernel_rfl) rfl
theorem CB7:Enters Tryz.prog 207:=Aa3 Tryz.func207 (by kernel_rfl) rfl
theorem Co4:fieldB Tryz.prog 81 1=some 1:=by kernel_rfl
instance:Fld Tryz.prog 81 1 1:=⟨Co4⟩
theorem CQ1:tyB Tryz.prog 78=some (false,1):=by kernel_rfl
instance:Tyc Tryz.prog 78 false 1:=⟨CQ1⟩
theorem BP1:zeroV Tryz.prog 185=some (.nilFunc):=by kernel_rfl
theorem AF8:zeroB Tryz.prog 42=some [.int .i64 0]:=by kernel_rfl
end Go.Proofs.YtmkdbdbenfbkhaaGreatDoor
namespace Go.Bk
open Go Go.Eng Go.RowKit
def RdX {α β:Type} (x:Except Int α) (pl:β→α) (ok:β→Prop) (z0:β) (z:β×Int):Prop:=(∃ t,x = .ok t∧pl z.1=t∧z.2=0∧ok z.1)∨(∃ k,x = .error k∧z=(z0,k))
theorem BT1 {α:Type} {step:α→List Str→Option α} {z:α} {ok:α→Bool} {text:α→Str} {s:Str} (h:4096 < s.length):readX step z ok text s = .error 3:=by unfold readX;rw [if_pos h]
theorem BE7 {α:Type} {step:α→List Str→Option α} {z:α} {ok:α→Bool} {text:α→Str} {s:Str} (h:¬ 4096 < s.length) (hp:parseX step z s=none):readX step z ok text s = .error 8:=by unfold readX;rw [if_neg h,hp]
theorem BE6 {α:Type} {step:α→List Str→Option α} {z x:α} {ok:α→Bool} {text:α→Str} {s:Str} (h:¬ 4096 < s.length) (hp:parseX step z s=some x):readX step z ok text s=if ok x && decide (text x=s) then .ok x else .error 8:=by unfold readX;rw [if_neg h,hp]
theorem BT0 {α:Type} {step:α→List Str→Option α} {z x:α} {ok:α→Bool} {text:α→Str} {s:Str} (h:¬ 4096 < s.length) (hp:parseX step z s=some x) (hne:ok x=true→text x ≠ s):readX step z ok text s = .error 8:=by
  rw [BE6 h hp,if_neg];rw [Bool.and_eq_true,decide_eq_true_eq];exact fun h=>hne h.1 h.2
theorem BE5 {α:Type} {step:α→List Str→Option α} {z x:α} {ok:α→Bool} {text:α→Str} {s:Str} (h:¬ 4096 < s.length) (hp:parseX step z s=some x) (h1:ok x=true) (h2:text x=s):readX step z ok text s = .ok x:=by
  rw [BE6 h hp,if_pos];rw [Bool.and_eq_true,decide_eq_true_eq];exact ⟨h1,h2⟩
theorem TrXOk.le {n m:Nat} {x:TrX} (h:TrXOk n x) (hm:n≤m):TrXOk m x:=⟨h.fr,h.ways,h.rows,h.stay,h.light,Nat.le_trans h.few hm,h.s1,h.s2,h.s3,h.s4⟩
theorem CS9 {b:Bool} (h:(if b=true then (0:Int) else 1)=0):b=true:=by cases b with
  | true=>rfl
  | false=>cases h
theorem Cl5 {α:Type} {step:α→List Str→Option α} {z:α} {s:Str} (h:Lib.hasSuffix s [10]=false):parseX step z s=none:=by unfold parseX;rw [h];rfl
theorem Bc6 {α:Type} {step:α→List Str→Option α} {z:α} {s:Str} (h:Lib.hasSuffix s [10]=true):parseX step z s=runL step z ((linesL s).map lineW):=by unfold parseX;rw [if_pos h]
theorem AW8:∀ {cs:List Value},(∀ v∈cs,isOne v=true)→pasteN cs cs=some cs
  | [],_=>rfl
  | c::cs,h=>by
    have ih:=AW8 (cs:=cs) (fun v hv=>h v (List.mem_cons_of_mem _ hv));simp only [pasteN,h c (List.mem_cons_self ..),ih]
theorem Bl5 (x:TrX):paste x.cells 0 (cellsL (.agg x.cells.toArray))=some x.cells:=by
  show paste x.cells 0 x.cells=some x.cells
  have h:=AW8 (cs:=x.cells) (fun v hv=>by
    simp only [TrX.cells,List.mem_cons,List.not_mem_nil,or_false] at hv
    rcases hv with rfl | rfl | rfl | rfl | rfl <;> first | rfl | exact Bc7 _ _)
  exact h
end Go.Bk
namespace Go.Proofs.YtmkdbdbenfbkhaaGreatDoor
open Go Go.Eng Go.Bk Go.RowKit

abbrev erO (k:Int):Obj:=.cells [.int .i64 k].toArray 42 (0,0)
abbrev kTO (m:Nat):Obj:=.cells [fnV 84,.map (some m),fnV 97].toArray 81 (0,0)
abbrev kTB (m:Nat):Nat×Obj:=(m,mapS toursL)
set_option maxHeartbeats 1000000 in
theorem Bw1 (s:Str) (m:Nat) (rest:Blks) (W0 w0:World) (hL:Lw Tryz.prog W0) (hm0:Mem W0 [] (kTB m::(rest++[])) w0) (hsl:s.length≤100000) :
    Calls Tryz.prog 57 #[.string (bs s),kindV 84 97 m] w0 (Grow W0 [] (fun z:TrX×Int=>.tuple #[.agg z.1.cells.toArray,.int .i64 z.2]) (fun z=>trB z.1++(rest++[])) (RdX (readX tourStep zeroT tourX tourS s) TrX.pl (TrXOk 10000) zeroTX)):=by
  refine AF1 hm0 Tryz.func57 rfl rfl ?_;refine RunCF.seq ?_;refine Ak7 ?_;refine st ?_;refine zn (New.box rfl) (fun b3=>?_)
  refine zn (New.alloc AF9) (fun b4=>?_)
  refine zn (New.alloc AF8) (fun b5=>?_)
  refine RunEF.next ?_;refine RunCF.seq ?_;refine Ak7 ?_;refine st ?_;refine Ao6 rfl ?_;refine st ?_;refine RunEF.next ?_;refine RunCF.seq ?_;refine Ak7 ?_;refine st ?_;refine lv (AM2 rfl Bi6) ?_;refine Af5 (zF rfl AE9) rfl rfl rfl (fun w hm=>Al6 _ _ w) (fun e15 he15=>?_) (fun v15 hv15=>?_)
  ·obtain ⟨er15,rfl⟩:=Ai6 he15
   have hlong:4096 < s.length:=by have:=of_decide_eq_false er15;omega
   refine Aa7 ?_;exact Au7 (k:=3) (cs:=zsrdT) (rest:=rest++[]) [] Ao4 AG5 (by decide) rfl (.cons .here rfl (.cons .here rfl (Pick.cnt fun x=>by simp only [nC,List.map_cons,List.map_nil,markB,dfrO,trB,spB,waB,erO,trXO];omega))) (.r2 rfl (.agg rfl (.tail _ (.head _)) At4 rfl) (.one rfl (.head _) Ak8 rfl)) (fun w hm=>⟨(zeroTX,3),.inr ⟨3,BT1 hlong,rfl⟩,rfl,hm.pick (news':=rest++[]) (Pick.cnt fun x=>by simp only [nC,List.map_cons,List.map_nil,markB,dfrO,trB,spB,waB,erO,trXO];omega)⟩)
  obtain ⟨ok15,rfl⟩:=Am0 hv15;have hlen40:s.length≤4096:=by have:=of_decide_eq_true ok15;omega
  refine st ?_;refine RunEF.next ?_;refine RunCF.seq ?_;refine RunCF.seq ?_;refine Ak7 ?_;refine st ?_;refine Ai2 (zF rfl CE7) rfl rfl rfl (fun w hm=>(Bw8 s w)) (fun b17=>?_)
  refine st ?_;refine RunEF.next ?_;refine RunCF.block ?_;refine RunCF.range Tryz.func57 (α:=LW) (X:=TrX) (enc:=fun x:LW=>pV x.wb) (eb:=lwB) (itb:=[(b17,strO s)]) (mis:=misf) (S:=fun xs=>Lib.hasSuffix s [10]=true∧xs.map (·.ws)=(linesL s).map lineW) (Sp:=fun xs=>Lib.hasSuffix s [10]=true∧xs.map (·.ws) <+: (linesL s).map lineW) (Sq:=fun k xs=>k=8∧xs=[]∧Lib.hasSuffix s [10]=false) (N:=s.length + 1) (fun x=>(b3,kTO m)::kTB m::(b4,trXO x)::trB x) (fun pre x=>TrXOk pre.length x∧runL tourStep zeroT (pre.map (·.ws))=some x.pl) (fun _ _=>False) (fun c x=>c=[{ v:=misf 8,recovered:=false }]∧parseX tourStep zeroT s=none) zeroTX ⟨BP2,rfl⟩ ((b5,erO 0)::rest) (.cons (.there (.there (.there .here))) rfl (.cons (.there (.there (.there .here))) rfl (.cons (.there (.there .here)) rfl (.cons (.here) rfl (.cons .here rfl (Pick.cnt fun x=>by simp only [List.append_eq,List.append_nil,List.nil_append];exact Nat.le_refl _)))))) rfl CB7 (Cw1 s hsl b17 W0 hL) rfl rfl (fun _=>rfl) rfl rfl rfl ?_ ?_ ?_ ?_ ?_
  ·intro l D ob pre v x tl hI hsp hlen
   obtain ⟨hx,hrun⟩:=hI;obtain ⟨hsf,hspp⟩:=hsp;have hwm:v.ws∈(linesL s).map lineW:=hspp.subset (by simp);have hwd:WdOk v.ws 0:=⟨Nat.zero_le _,(BD4 hlen40 hwm).1,(BD4 hlen40 hwm).2⟩;have hpl:pre.length≤10000:=by omega
   have hbad:tourStep x.pl v.ws=none→parseX tourStep zeroT s=none:=fun h=>by (rw [Bc6 hsf];exact Ck1 hrun h (by rw [List.map_append] at hspp;exact hspp))
   refine Ar2 (Ad8 _) (news':=(l,ob)::(D,dfrO)::(v.wb,wdO v.sb v.ws.length 0)::(v.sb,stO v.ws)::(b3,kTO m)::kTB m::(b4,trXO x)::(trB x++(tl++[]))) (Pick.cnt fun x=>by simp only [nC,List.map_cons,List.map_nil,markB,dfrO,trB,spB,waB,erO,trXO];omega) ?_;refine RunCR.block ?_;refine RunCR.seq ?_;refine BO2 9 As5 (.cons .here rfl (.cons .here rfl (.cons (.there (.there .here)) rfl (.cons (.there (.there .here)) rfl (.cons (.there (.there .here)) rfl .nil))))) ?_;refine zw 0 ?_;refine zw 1 ?_;refine zw 2 ?_;refine zA 3 ?_;refine AS4 rfl (zF rfl By9) rfl rfl rfl (fun w hm=>(Ao1 (nw':=fun _=>(l,ob)::(D,dfrO)::(v.wb,wdO v.sb v.ws.length 1)::(v.sb,stO v.ws)::(b3,kTO m)::kTB m::(b4,trXO x)::(trB x++(tl++[]))) (np':=fun _=>(l,ob)::(D,dfrO)::(b3,kTO m)::kTB m::(b4,trXO x)::(trB x++(tl++[]))) (AG0 v.wb v.sb v.ws 0 ((l,ob)::(D,dfrO)::(b3,kTO m)::kTB m::(b4,trXO x)::(trB x++tl)) W0 w (hm.pick (Pick.cnt fun x=>by simp only [nC,List.map_cons,List.map_nil,markB,dfrO,trB,spB,waB,erO,trXO];omega)) hwd) (fun _=>by simp only [Nat.zero_add];exact (Pick.cnt fun x=>by simp only [nC,List.map_cons,List.map_nil,markB,dfrO,trB,spB,waB,erO,trXO];omega)) (fun _=>(Pick.cnt fun x=>by simp only [nC,List.map_cons,List.map_nil,markB,dfrO,trB,spB,waB,erO,trXO];omega)))) (fun p23 hp23=>?_) (fun z23 hz23=>(Aa5 (.cons .here rfl (.cons .here rfl (.cons (.there (.there .here)) rfl (.cons (.there (.there .here)) rfl (.cons (.there (.there .here)) rfl .nil))))) (.cons .here rfl (.cons .here rfl (.cons .here rfl (.cons .here rfl (.cons .here rfl .nil))))) rfl ?_))
   ·refine Aa7 ?_
    refine Ad1 ?_;exact Ag1 x ⟨rfl,hbad (by rw [List.eq_nil_of_length_eq_zero (Nat.le_zero.1 hp23)];rfl)⟩ (Pick.cnt fun x=>by simp only [nC,List.map_cons,List.map_nil,markB,dfrO,trB,spB,waB,erO,trXO];omega)
   refine zA 4 ?_;refine Ac2 rfl (Bh3 rfl rfl (fun w hm=>hm.at (.tail _ (.tail _ (.tail _ (.tail _ (.tail _ (.head _))))))) BF9 BP1) rfl rfl rfl (Aa5 (.cons .here rfl (.cons .here rfl (.cons (.there (.there .here)) rfl (.cons (.there (.there .here)) rfl (.cons (.there (.there .here)) rfl .nil))))) (.cons .here rfl (.cons .here rfl (.cons .here rfl (.cons .here rfl (.cons .here rfl .nil))))) rfl ?_)
   refine zw 5 ?_;refine zw 6 ?_;refine zw 7 ?_;refine zw 8 ?_;refine zt ?_;refine zp 9 ?_;refine zd ?_;refine RunER.next ?_;refine RunCR.seq ?_;refine Ad4 ?_;refine st ?_;refine Af5 (zF rfl AE9) rfl rfl rfl (fun w hm=>Al6 _ _ w) (fun e28 he28=>?_) (fun v28 hv28=>?_)
   ·obtain ⟨er28,rfl⟩:=Ai6 he28
    have hnone:=Option.isNone_iff_eq_none.1 (Option.isSome_eq_false_iff.1 er28);refine Aa7 ?_;refine Ad1 ?_;exact Ag1 x ⟨rfl,hbad (BM0 _ _ hnone)⟩ (Pick.cnt fun x=>by simp only [nC,List.map_cons,List.map_nil,markB,dfrO,trB,spB,waB,erO,trXO];omega)
   obtain ⟨ok28,rfl⟩:=Am0 hv28;obtain ⟨fv,hfv⟩:=Option.isSome_iff_exists.1 ok28;refine st ?_;refine RunER.next ?_;refine Ad4 ?_;refine vp rfl rfl rfl rfl ?_;refine vp rfl rfl rfl rfl ?_;obtain ⟨gf,rfl,hent,hcall⟩:=Bw9 v.wb v.sb v.ws b4 x pre.length ((l,ob)::(D,dfrO)::(b3,kTO m)::kTB m::tl) W0 hL (hwd.next hz23) hx hpl hfv;rw [hfv];simp only [Option.getD_some];refine Al4 (Ac1 rfl rfl hent) rfl rfl rfl (fun w hm=>(Ao1 (nw':=fun z=>(l,ob)::(D,dfrO)::(b3,kTO m)::kTB m::(b4,trXO z)::(trB z++(tl++[]))) (np':=fun z=>(l,ob)::(D,dfrO)::(b3,kTO m)::kTB m::(b4,trXO z)::(trB z++(tl++[]))) (hcall w (hm.pick (Pick.cnt fun x=>by simp only [nC,List.map_cons,List.map_nil,markB,dfrO,trB,spB,waB,erO,trXO];omega))) (fun _=>(Pick.cnt fun x=>by simp only [nC,List.map_cons,List.map_nil,markB,dfrO,trB,spB,waB,erO,trXO];omega)) (fun _=>(Pick.cnt fun x=>by simp only [nC,List.map_cons,List.map_nil,markB,dfrO,trB,spB,waB,erO,trXO];omega)))) (fun p31 hp31=>?_) (fun z31 hz31=>?_)
   ·refine Ad1 ?_
    exact Ag1 p31 ⟨rfl,hbad hp31.2⟩ (Pick.cnt fun x=>by simp only [nC,List.map_cons,List.map_nil,markB,dfrO,trB,spB,waB,erO,trXO];omega)
   refine st ?_;exact Af9 z31 ⟨by rw [List.length_append];exact hz31.1,by rw [List.map_append];exact (Bk0 hrun).trans hz31.2⟩ (Pick.cnt fun x=>by simp only [nC,List.map_cons,List.map_nil,markB,dfrO,trB,spB,waB,erO,trXO];omega)
  ·intro D xs x hS hI
   obtain ⟨hsf,hws⟩:=hS;have hx:=hI;have hpar:parseX tourStep zeroT s=some x.pl:=by (rw [Bc6 hsf,← hws];exact hx.2)
   have hxn:xs.length≤10000:=by (have h1:=congrArg List.length hws;have h2:=AX6 s;simp only [List.length_map] at h1;omega)
   refine AS6 (Ad8 _) (news':=(D,dfrO)::(b3,kTO m)::kTB m::(b4,trXO x)::(b5,erO 0)::(trB x++(rest++[]))) (Pick.cnt fun x=>by simp only [nC,List.map_cons,List.map_nil,markB,dfrO,trB,spB,waB,erO,trXO];omega) ?_;refine st ?_;refine RunEF.next ?_;refine RunCF.seq ?_;refine Ak7 ?_;refine su ?_;refine zc (zF rfl Cu9) (fun w hm=>(Bb0 x xs.length hx.1 (hx.1.sm hxn) m _ W0 w (hm.pick (news':=trB x++(rest++[])) (Pick.cnt fun x=>by simp only [nC,List.map_cons,List.map_nil,markB,dfrO,trB,spB,waB,erO,trXO];omega)) (hL.mono hm))) ?_;refine RunEF.next ?_;refine RunCF.seq ?_;refine Ak7 ?_;refine st ?_;refine Cg5 (dj:=40) rfl ?_ ?_
   ·intro g40
    have g40':=g40;clear g40;try simp only [nH] at g40'
    refine st ?_;refine lv (AZ6 rfl rfl) ?_;refine Af5 (zF rfl AE9) rfl rfl rfl (fun w hm=>Al6 _ _ w) (fun e45 he45=>?_) (fun v45 hv45=>?_)
    ·obtain ⟨er45,rfl⟩:=Ai6 he45
     refine Aa7 ?_;exact Au7 (k:=8) (cs:=x.cells) (rest:=trB x++(rest++[])) [D] Ao4 AG5 (by decide) rfl (Pick.cnt fun x=>by simp only [nC,List.map_cons,List.map_nil,markB,dfrO,trB,spB,waB,erO,trXO];omega) (.r2 rfl (.agg rfl (.tail _ (.head _)) At4 rfl) (.one rfl (.head _) Ak8 rfl)) (fun w hm=>⟨(zeroTX,8),.inr ⟨8,BT0 (by omega) hpar (fun h=>by have h2:=of_decide_eq_false er45;rw [if_pos h] at h2;exact h2),rfl⟩,rfl,hm.pick (news':=rest++[]) (Pick.cnt fun x=>by simp only [nC,List.map_cons,List.map_nil,markB,dfrO,trB,spB,waB,erO,trXO];omega)⟩)
    obtain ⟨ok45,rfl⟩:=Am0 hv45
    first | (have htx:tourX x.pl=true:=CS9 g40') | skip
    refine st ?_;refine RunEF.next ?_;refine RunCF.seq ?_;refine Ak7 ?_;refine su ?_;refine Ab4 (Sto.store (cs:=x.cells) (cs':=x.cells) rfl rfl (.there (.there (.there .here))) At4 rfl (Bl5 x)) rfl rfl ?_;refine Ab4 (Sto.store rfl rfl (.there (.there (.there (.there .here)))) Ak8 rfl rfl) rfl rfl ?_;refine st ?_;refine RunEF.next ?_;refine Ak7 ?_;refine RunC.ret ?_;exact BO1 (news2:=(b5,erO 0)::(b4,trXO x)::(trB x++(rest++[]))) [D] Ao4 AG5 (Pick.cnt fun x=>by simp only [nC,List.map_cons,List.map_nil,markB,dfrO,trB,spB,waB,erO,trXO];omega) (.head _) (.r2 rfl (.agg rfl (.tail _ (.head _)) At4 rfl) (.one rfl (.head _) Ak8 rfl)) (fun w hm=>⟨(x,0),.inl ⟨x.pl,BE5 (by omega) hpar htx (by have h2:=of_decide_eq_true ok45;rw [if_pos htx] at h2;exact h2),rfl,rfl,hx.1.le hxn⟩,rfl,hm.pick (Pick.cnt fun x=>by simp only [nC,List.map_cons,List.map_nil,markB,dfrO,trB,spB,waB,erO,trXO];omega)⟩)
   intro g40;have g40':=g40;clear g40;try simp only [nH] at g40'
   refine su ?_;refine Af5 (zF rfl AE9) rfl rfl rfl (fun w hm=>Al6 _ _ w) (fun e45 he45=>?_) (fun v45 hv45=>?_)
   ·obtain ⟨er45,rfl⟩:=Ai6 he45
    refine Aa7 ?_;exact Au7 (k:=8) (cs:=x.cells) (rest:=trB x++(rest++[])) [D] Ao4 AG5 (by decide) rfl (Pick.cnt fun x=>by simp only [nC,List.map_cons,List.map_nil,markB,dfrO,trB,spB,waB,erO,trXO];omega) (.r2 rfl (.agg rfl (.tail _ (.head _)) At4 rfl) (.one rfl (.head _) Ak8 rfl)) (fun w hm=>⟨(zeroTX,8),.inr ⟨8,BT0 (by omega) hpar (fun h=>by rw [if_pos h] at g40';exact absurd rfl g40'),rfl⟩,rfl,hm.pick (news':=rest++[]) (Pick.cnt fun x=>by simp only [nC,List.map_cons,List.map_nil,markB,dfrO,trB,spB,waB,erO,trXO];omega)⟩)
   obtain ⟨ok45,rfl⟩:=Am0 hv45
   first | (have htx:tourX x.pl=true:=CS9 g40') | skip
   refine st ?_;refine RunEF.next ?_;refine RunCF.seq ?_;refine Ak7 ?_;refine su ?_;refine Ab4 (Sto.store (cs:=x.cells) (cs':=x.cells) rfl rfl (.there (.there (.there .here))) At4 rfl (Bl5 x)) rfl rfl ?_;refine Ab4 (Sto.store rfl rfl (.there (.there (.there (.there .here)))) Ak8 rfl rfl) rfl rfl ?_;refine st ?_;refine RunEF.next ?_;refine Ak7 ?_;refine RunC.ret ?_;exact absurd ok45 (by decide)
  ·intro D c x hst
   exact hst.elim
  ·intro D c x hp
   obtain ⟨rfl,hnop⟩:=hp;refine AS6 (Ad8 _) (news':=(D,dfrO)::(b3,kTO m)::kTB m::(b4,trXO x)::(b5,erO 0)::(trB x++(rest++[]))) (Pick.cnt fun x=>by simp only [nC,List.map_cons,List.map_nil,markB,dfrO,trB,spB,waB,erO,trXO];omega) ?_;refine Ad1 ?_;refine Aa7 ?_;exact Au7 (k:=8) (cs:=x.cells) (rest:=trB x++(rest++[])) [D] Ao4 AG5 (by decide) rfl (Pick.cnt fun x=>by simp only [nC,List.map_cons,List.map_nil,markB,dfrO,trB,spB,waB,erO,trXO];omega) (.r2 rfl (.agg rfl (.tail _ (.head _)) At4 rfl) (.one rfl (.head _) Ak8 rfl)) (fun w hm=>⟨(zeroTX,8),.inr ⟨8,BE7 (by omega) hnop,rfl⟩,rfl,hm.pick (news':=rest++[]) (Pick.cnt fun x=>by simp only [nC,List.map_cons,List.map_nil,markB,dfrO,trB,spB,waB,erO,trXO];omega)⟩)
  intro D k xs x hq hI;obtain ⟨rfl,rfl,hsf⟩:=hq;have hnop:parseX tourStep zeroT s=none:=Cl5 hsf;refine AS6 (Ad8 _) (news':=(D,dfrO)::(b3,kTO m)::kTB m::(b4,trXO x)::(b5,erO 0)::(trB x++(rest++[]))) (Pick.cnt fun x=>by simp only [nC,List.map_cons,List.map_nil,markB,dfrO,trB,spB,waB,erO,trXO];omega) ?_;refine Ad1 ?_;refine Aa7 ?_;exact Au7 (k:=8) (cs:=x.cells) (rest:=trB x++(rest++[])) [D] Ao4 AG5 (by decide) rfl (Pick.cnt fun x=>by simp only [nC,List.map_cons,List.map_nil,markB,dfrO,trB,spB,waB,erO,trXO];omega) (.r2 rfl (.agg rfl (.tail _ (.head _)) At4 rfl) (.one rfl (.head _) Ak8 rfl)) (fun w hm=>⟨(zeroTX,8),.inr ⟨8,BE7 (by omega) hnop,rfl⟩,rfl,hm.pick (news':=rest++[]) (Pick.cnt fun x=>by simp only [nC,List.map_cons,List.map_nil,markB,dfrO,trB,spB,waB,erO,trXO];omega)⟩)
end Go.Proofs.YtmkdbdbenfbkhaaGreatDoor
namespace Go.Bk
open Go Go.Eng Go.RowKit
structure CbX where
  slots:Int
  homes:OL Int
  wrong:Int
  loans:OL Ln
def CbX.cells (x:CbX):List Value:=[.int .i64 x.slots,ownV x.homes.1 x.homes.2.length,.int .i64 x.wrong,ownV x.loans.1 x.loans.2.length]
def CbX.pl (x:CbX):Cb:=⟨x.slots,x.homes.2,x.wrong,x.loans.2⟩
structure CbXOk (n:Nat) (x:CbX):Prop where
  homes:x.homes.ok intC 1
  loans:x.loans.ok Ln.cells 4
  few:x.loans.2.length≤n
  s1:x.homes.2.length≤10000
theorem CbXOk.more {n:Nat} {x:CbX} (h:CbXOk n x):CbXOk (n + 1) x:=⟨h.homes,h.loans,Nat.le_succ_of_le h.few,h.s1⟩
theorem CbXOk.le {n m:Nat} {x:CbX} (h:CbXOk n x) (hm:n≤m):CbXOk m x:=⟨h.homes,h.loans,Nat.le_trans h.few hm,h.s1⟩
end Go.Bk
namespace Go.Proofs.YtmkdbdbenfbkhaaGreatDoor
open Go Go.Eng Go.Bk Go.RowKit

abbrev inB (z:OL Int):Blks:=ownB 3 z.1 (z.2.map intC).flatten
abbrev lnB (z:OL Ln):Blks:=ownB 139 z.1 (z.2.map Ln.cells).flatten
abbrev cbXO (x:CbX):Obj:=.cells x.cells.toArray 29 (0,0)
abbrev cbM (xb:Nat) (x:CbX) (tl:Blks):Blks:=(xb,cbXO x)::(inB x.homes++(lnB x.loans++tl))
section
variable (wb sb:Nat) (all:List Str) (xb:Nat) (x:CbX) (n:Nat) (rest:Blks) (W0 w:World) (hL:Lw Tryz.prog W0) (hm0:Mem W0 [] ((wb,wdO sb all.length 1)::(sb,stO all)::cbM xb x (rest++[])) w) (hj:WdOk all 1) (hx:CbXOk n x) (hn:n≤10000)
include hL hm0 hj hx hn
omit hm0 in
end
end Go.Proofs.YtmkdbdbenfbkhaaGreatDoor
namespace Go.Bk
open Go Go.Eng Go.RowKit
structure RyX where
  terms:OL Tm
  prices:OL Int
  shares:OL (OL Int)
  reports:OL Rp
  paid:OL Int
def RyX.cells (x:RyX):List Value:=[ownV x.terms.1 x.terms.2.length,ownV x.prices.1 x.prices.2.length,ownV x.shares.1 x.shares.2.length,ownV x.reports.1 x.reports.2.length,ownV x.paid.1 x.paid.2.length]
def RyX.pl (x:RyX):Ry:=⟨x.terms.2,x.prices.2,x.shares.2.map (·.2),x.reports.2,x.paid.2⟩
structure RyXOk (n:Nat) (x:RyX):Prop where
  terms:x.terms.ok Tm.cells 3
  prices:x.prices.ok intC 1
  shares:x.shares.ok rowC 1
  rows:∀ r∈x.shares.2,OL.ok r intC 1
  reports:x.reports.ok Rp.cells 4
  paid:x.paid.ok intC 1
  f1:x.terms.2.length≤n
  f2:x.prices.2.length≤n
  f3:x.shares.2.length≤n
  f4:x.reports.2.length≤n
  f5:x.paid.2.length≤n
  s3:∀ r∈x.shares.2,r.2.length≤10000
theorem RyXOk.le {n m:Nat} {x:RyX} (h:RyXOk n x) (hm:n≤m):RyXOk m x:=⟨h.terms,h.prices,h.shares,h.rows,h.reports,h.paid,Nat.le_trans h.f1 hm,Nat.le_trans h.f2 hm,Nat.le_trans h.f3 hm,Nat.le_trans h.f4 hm,Nat.le_trans h.f5 hm,h.s3⟩
theorem RyXOk.more {n:Nat} {x:RyX} (h:RyXOk n x):RyXOk (n + 1) x:=h.le (Nat.le_succ n)
theorem RyXOk.agent {n:Nat} {x:RyX} {z z':Eng.Own} {t:Tm} {p:Int} (h:RyXOk n x) (hz:OwnOk 3 z (x.terms.2.length + 1) ((x.terms.2.map Tm.cells).flatten++t.cells)) (hz':OwnOk 1 z' (x.paid.2.length + 1) ((x.paid.2.map intC).flatten++intC p)):RyXOk (n + 1) { x with terms:=(z,x.terms.2++[t]),paid:=(z',x.paid.2++[p]) } :=
  ⟨AP1 (z:=x.terms.1) hz,h.prices,h.shares,h.rows,h.reports,AP1 (z:=x.paid.1) hz',by simp;exact h.f1,Nat.le_succ_of_le h.f2,Nat.le_succ_of_le h.f3,Nat.le_succ_of_le h.f4,by simp;exact h.f5,h.s3⟩
theorem RyXOk.kind {n:Nat} {x:RyX} {z z':Eng.Own} {t:Int} {r:OL Int} (h:RyXOk n x) (hz:OwnOk 1 z (x.prices.2.length + 1) ((x.prices.2.map intC).flatten++intC t)) (hz':OwnOk 1 z' (x.shares.2.length + 1) ((x.shares.2.map rowC).flatten++rowC r)) (hr:OL.ok r intC 1) (hs:r.2.length≤10000):RyXOk (n + 1) { x with prices:=(z,x.prices.2++[t]),shares:=(z',x.shares.2++[r]) } :=
  ⟨h.terms,AP1 (z:=x.prices.1) hz,AP1 (z:=x.shares.1) hz',fun y hy=>(by rcases List.mem_append.1 hy with hy | hy;exact h.rows y hy;simp only [List.mem_singleton] at hy;subst hy;exact hr),h.reports,h.paid,Nat.le_succ_of_le h.f1,by simp;exact h.f2,by simp;exact h.f3,Nat.le_succ_of_le h.f4,Nat.le_succ_of_le h.f5,fun y hy=>(by rcases List.mem_append.1 hy with hy | hy;exact h.s3 y hy;simp only [List.mem_singleton] at hy;subst hy;exact hs)⟩
end Go.Bk
namespace Go.Proofs.YtmkdbdbenfbkhaaGreatDoor
open Go Go.Eng Go.Bk Go.RowKit

abbrev tmB (z:OL Tm):Blks:=ownB 160 z.1 (z.2.map Tm.cells).flatten
abbrev rpB (z:OL Rp):Blks:=ownB 122 z.1 (z.2.map Rp.cells).flatten
abbrev shB (z:OL (OL Int)):Blks:=ownB 26 z.1 (z.2.map rowC).flatten
def inRows (l:List (OL Int)):Blks:=(l.map fun r=>inB r).flatten
abbrev ryXO (x:RyX):Obj:=.cells x.cells.toArray 34 (0,0)
abbrev ryM (xb:Nat) (x:RyX) (tl:Blks):Blks:=(xb,ryXO x)::(tmB x.terms++(inB x.prices++(shB x.shares++(inRows x.shares.2++(rpB x.reports++(inB x.paid++tl))))))
section
variable (wb sb:Nat) (all:List Str) (xb:Nat) (x:RyX) (n:Nat) (rest:Blks) (W0 w:World) (hL:Lw Tryz.prog W0) (hm0:Mem W0 [] ((wb,wdO sb all.length 1)::(sb,stO all)::ryM xb x (rest++[])) w) (hj:WdOk all 1) (hx:RyXOk n x) (hn:n≤10000)
include hL hm0 hj hx hn
end
end Go.Proofs.YtmkdbdbenfbkhaaGreatDoor
namespace Go.Proofs.YtmkdbdbenfbkhaaGreatDoor
open Go Go.Eng
theorem BZ6:fieldB Tryz.prog 114 1=some 1:=by kernel_rfl
instance:Fld Tryz.prog 114 1 1:=⟨BZ6⟩
theorem CI7:tyB Tryz.prog 111=some (false,1):=by kernel_rfl
instance:Tyc Tryz.prog 111 false 1:=⟨CI7⟩
end Go.Proofs.YtmkdbdbenfbkhaaGreatDoor
namespace Go.Bk
open Go Go.Eng Go.RowKit
def CbX.toA (x:CbX):CbA:=⟨x.slots,OL.sa x.homes,x.wrong,OL.sa x.loans⟩
theorem CbXOk.cells {n:Nat} {x:CbX} (h:CbXOk n x):x.toA.cells=x.cells:=by
  show [Value.int .i64 x.slots,(OL.sa x.homes).v,Value.int .i64 x.wrong,(OL.sa x.loans).v]=_
  rw [OL.sa_v h.homes,OL.sa_v h.loans];rfl
theorem CbXOk.sm {n:Nat} {x:CbX} (h:CbXOk n x) (hn:n≤10000):CbS x.toA:=⟨h.s1,by have:=h.few;show x.loans.2.length≤10000;omega⟩
def RyX.toA (x:RyX):RyA:=⟨OL.sa x.terms,OL.sa x.prices,⟨x.shares.2.map OL.sa,ownQ x.shares.1,ownK x.shares.1,0,ownC x.shares.1⟩,OL.sa x.reports,OL.sa x.paid⟩
theorem RyXOk.cells {n:Nat} {x:RyX} (h:RyXOk n x):x.toA.cells=x.cells:=by
  have e:x.toA.shares.v=ownV x.shares.1 x.shares.2.length:=by
    unfold SA.v RyX.toA;rw [List.length_map];exact (Ad5 h.shares).symm
  show [(OL.sa x.terms).v,(OL.sa x.prices).v,x.toA.shares.v,(OL.sa x.reports).v,(OL.sa x.paid).v]=_
  rw [e,OL.sa_v h.terms,OL.sa_v h.prices,OL.sa_v h.reports,OL.sa_v h.paid];rfl
theorem RyXOk.sm {n:Nat} {x:RyX} (h:RyXOk n x) (hn:n≤10000):RySm x.toA :=
  ⟨by have:=h.f1;show x.terms.2.length≤10000;omega,by have:=h.f2;show x.prices.2.length≤10000;omega,by have:=h.f3;show (x.shares.2.map OL.sa).length≤10000;rw [List.length_map];omega,fun y hy=>by
    obtain ⟨r,hr,rfl⟩:=List.mem_map.1 hy;exact h.s3 r hr,by have:=h.f4;show x.reports.2.length≤10000;omega,by have:=h.f5;show x.paid.2.length≤10000;omega⟩
end Go.Bk
namespace Go.Proofs.YtmkdbdbenfbkhaaGreatDoor
open Go Go.Eng Go.Bk Go.RowKit

end Go.Proofs.YtmkdbdbenfbkhaaGreatDoor
namespace Go.Proofs.YtmkdbdbenfbkhaaGreatDoor
open Go Go.Eng
theorem BY6:fieldB Tryz.prog 164 0=some 0:=by kernel_rfl
instance:Fld Tryz.prog 164 0 0:=⟨BY6⟩
theorem BY5:fieldB Tryz.prog 164 1=some 1:=by kernel_rfl
instance:Fld Tryz.prog 164 1 1:=⟨BY5⟩
end Go.Proofs.YtmkdbdbenfbkhaaGreatDoor
namespace Go.Bk
open Go Go.Eng Go.RowKit
def numB (l:Str) (at':Nat):Option Int:=if at' + 2≤l.length then some (((l.getD at' 0).toNat * 256 + (l.getD (at' + 1) 0).toNat:Nat):Int) else none
def widthB (l:Str) (at':Nat):Option Sp:=match numB l at',numB l (at' + 2) with
  | some a,some b=>some ⟨a,a + b⟩
  | _,_=>none
end Go.Bk
namespace Go.Proofs.YtmkdbdbenfbkhaaGreatDoor
open Go Go.Eng Go.Bk Go.RowKit

end Go.Proofs.YtmkdbdbenfbkhaaGreatDoor
namespace Go.Bk
open Go Go.Eng Go.RowKit
def cardP (l:Str) (j:Nat):Option Pt:=match widthB l j,widthB l (j + 4),numB l (j + 8) with
  | some a,some b,some m=>some ⟨a,b,m⟩
  | _,_,_=>none
def cardsN (l:Str):Nat→Option (List Pt)
  | 0=>some []
  | k + 1=>match cardsN l k,cardP l (2 + 10 * k) with
    | some xs,some c=>some (xs++[c])
    | _,_=>none
structure PsX where
  cards:OL Pt
  less:Sp
  loss:Sp
def PsX.cells (x:PsX):List Value:=[ownV x.cards.1 x.cards.2.length,.int .i64 x.less.lo,.int .i64 x.less.hi,.int .i64 x.loss.lo,.int .i64 x.loss.hi]
def PsX.pl (x:PsX):Ps:=⟨x.cards.2,x.less,x.loss⟩
def PsX.toA (x:PsX):PsA:=⟨OL.sa x.cards,x.less,x.loss⟩
end Go.Bk
namespace Go.Proofs.YtmkdbdbenfbkhaaGreatDoor
open Go Go.Eng Go.Bk Go.RowKit

end Go.Proofs.YtmkdbdbenfbkhaaGreatDoor
namespace Go.Bk
open Go Go.Eng Go.RowKit
theorem Bf1 {m:Nat} (h:m < 10):(UInt8.ofNat (48 + m)).toNat=48 + m:=by
  simp only [UInt8.toNat_ofNat'];omega
theorem Bz4:∀ (u:Nat),∀ c∈Lib.decDigits u,48≤c.toNat∧c.toNat≤57:=by
  intro u
  induction u using Nat.strongRecOn with
  | _ u ih =>
    intro c hc;rw [Lib.decDigits] at hc
    split at hc
    · simp only [List.mem_singleton] at hc
      subst hc;rw [Bf1 (by omega)];omega
    · rcases List.mem_append.1 hc with h | h
      · exact ih _ (by omega) c h
      · simp only [List.mem_singleton] at h
        subst h;rw [Bf1 (by omega)];omega
theorem Cv2 (u:Nat):Lib.decDigits u ≠ []:=by
  rw [Lib.decDigits]
  split <;> simp
theorem Bl8:∀ (a b:Str) (acc:Nat),Lib.parseUint10 acc (a++b)=match Lib.parseUint10 acc a with
    | .ok u=>Lib.parseUint10 u b
    | x=>x
  | [],b,acc=>rfl
  | c::a,b,acc=>by
    simp only [List.cons_append,Lib.parseUint10]
    split
    · split
      · rfl
      · split
        · rfl
        · exact Bl8 a b _
    · rfl
theorem Bl7 {acc m:Nat} (hm:m < 10) (ha:acc * 10 + m≤9223372036854775808):Lib.parseUint10 acc [UInt8.ofNat (48 + m)] = .ok (acc * 10 + m):=by
  have hd:=Bf1 hm;simp only [Lib.parseUint10,hd];rw [if_pos (by omega),if_neg (by omega),if_neg (by omega)];simp
theorem BU3:∀ (u:Nat),u≤9223372036854775808→Lib.parseUint10 0 (Lib.decDigits u) = .ok u:=by
  intro u
  induction u using Nat.strongRecOn with
  | _ u ih =>
    intro hu;rw [Lib.decDigits]
    split
    · rw [Bl7 (by omega) (by omega)]
      simp
    · rw [Bl8,ih _ (by omega) (by omega)]
      dsimp only;rw [Bl7 (by omega) (by omega)]
      congr 1
      omega
theorem AP2 {n:Int} (h:In64 n):numP (Lib.itoa n)=some n:=by
  obtain ⟨h1,h2⟩:=h
  have key:∀ u:Nat,u≤9223372036854775808→Lib.parseMag (Lib.decDigits u) = .ok u:=fun u hu=>by
    unfold Lib.parseMag;rw [if_neg (Cv2 u),BU3 u hu]
  have e:Lib.atoiAll (Lib.itoa n) = .ok n:=by
    unfold Lib.itoa
    split
    · rename_i hn
      unfold Lib.atoiAll;simp only [];have e45:(45:UInt8).toNat=45:=rfl;rw [e45,if_pos (.inr rfl),key _ (by omega)];simp only [not_true_eq_false,false_and,if_false,true_and,if_true];rw [if_neg (by omega)]
      congr 1
      omega
    · rename_i hn
      have hd:=Bz4 n.toNat;have hk:=key n.toNat (by omega)
      cases hl:Lib.decDigits n.toNat with
      | nil=>exact absurd hl (Cv2 _)
      | cons c r =>
        rw [hl] at hd hk;have hc:=hd c (List.mem_cons_self ..);unfold Lib.atoiAll;simp only [];rw [if_neg (by omega),hk];have hc45:¬ c.toNat=45:=by omega
        simp only [hc45,not_false_eq_true,true_and,false_and,if_false];rw [if_neg (by omega)]
        congr 1
        omega
  unfold numP;rw [e]
def clean (w:Str):Prop:=(32:UInt8) ∉ w∧(10:UInt8) ∉ w
theorem BM3 {n:Int}:∀ c∈Lib.itoa n,c.toNat=45∨(48≤c.toNat∧c.toNat≤57):=fun c hc=>by
  unfold Lib.itoa at hc
  split at hc
  · rcases List.mem_cons.1 hc with rfl | hc
    · exact .inl rfl
    · exact .inr (Bz4 _ c hc)
  · exact .inr (Bz4 _ c hc)
theorem AB9 {n:Int} {b:UInt8} (h:b.toNat < 45∨b.toNat=46):b ∉ Lib.itoa n:=fun hb=>by
  have:=BM3 b hb
  omega
theorem BM9 (n:Int):clean (Lib.itoa n):=⟨AB9 (.inl (by decide)),AB9 (.inl (by decide))⟩
theorem BM8 (s:Sp):clean (spS s):=by
  unfold spS clean;refine ⟨fun h=>?_,fun h=>?_⟩ <;> simp only [List.mem_append] at h <;> rcases h with (h | h) | h
  · exact AB9 (.inl (by decide)) h
  · revert h;decide
  · exact AB9 (.inl (by decide)) h
  · exact AB9 (.inl (by decide)) h
  · revert h;decide
  · exact AB9 (.inl (by decide)) h
theorem AY3:∀ (a b:Str),(46:UInt8) ∉ a→Lib.index (a++46::46::b) [46,46]=(a.length:Int)
  | [],b,_=>by
    unfold Lib.index;simp
  | c::a,b,h=>by
    have hc:c ≠ 46:=fun e=>h (by rw [e];exact List.mem_cons_self ..)
    have ih:=AY3 a b (fun hm=>h (List.mem_cons_of_mem _ hm));rw [List.cons_append,Lib.index]
    have hp:List.isPrefixOf [46,46] (c::(a++46::46::b))=false:=by
      simp only [List.isPrefixOf]
      have:((46:UInt8) == c)=false:=by simpa using fun e=>hc e.symm
      rw [this];rfl
    rw [hp,ih];simp only [Bool.false_eq_true,if_false];rw [if_neg (by simp)];simp only [List.length_cons];omega
theorem BJ6 {s:Sp} (h1:In64 s.lo) (h2:In64 s.hi):spanP (spS s)=some s:=by
  have e:spS s=Lib.itoa s.lo++46::46::Lib.itoa s.hi:=by simp [spS]
  have hi:Lib.index (spS s) [46,46]=((Lib.itoa s.lo).length:Int):=by rw [e];exact AY3 _ _ (AB9 (.inr rfl))
  have hc:Lib.cut (spS s) [46,46]=(Lib.itoa s.lo,Lib.itoa s.hi,true):=by
    unfold Lib.cut;rw [hi,if_pos (by omega)];have h3:((Lib.itoa s.lo).length:Int).toNat=(Lib.itoa s.lo).length:=by omega
    rw [h3,e];simp
  unfold spanP;rw [hc];simp only [AP2 h1,AP2 h2,if_true]
theorem AX5:∀ (a r:Str),(10:UInt8) ∉ a→linesL (a++10::r)=(a++[10])::linesL r
  | [],r,_=>by rw [List.nil_append,Ao5,if_pos rfl];rfl
  | c::a,r,h=>by
    have hc:c ≠ 10:=fun e=>h (by rw [e];exact List.mem_cons_self ..)
    rw [List.cons_append,Ao5,if_neg hc,AX5 a r (fun hm=>h (List.mem_cons_of_mem _ hm))];rfl
theorem Cx1 (a:Str):Lib.trimSuffix (a++[10]) [10]=a:=by
  unfold Lib.trimSuffix
  have h:Lib.hasSuffix (a++[10]) [10]=true:=by
    unfold Lib.hasSuffix;exact List.isSuffixOf_iff_suffix.2 ⟨a,rfl⟩
  simp [h]
theorem AI6:∀ (a r:Str) (c:UInt8),c ∉ a→Lib.indexByte (a++c::r) c=(a.length:Int)
  | [],r,c,_=>by
    rw [List.nil_append,Lib.indexByte];simp
  | b::a,r,c,h=>by
    have hb:b ≠ c:=fun e=>h (by rw [e];exact List.mem_cons_self ..)
    have ih:=AI6 a r c (fun hm=>h (List.mem_cons_of_mem _ hm));rw [List.cons_append,Lib.indexByte];have h1:(b == c)=false:=by simpa using hb
    rw [h1,ih];simp only [Bool.false_eq_true,if_false];rw [if_neg (by simp)];simp only [List.length_cons];omega
theorem AD9:∀ (a:Str) (c:UInt8),c ∉ a→Lib.indexByte a c = -1
  | [],c,_=>rfl
  | b::a,c,h=>by
    have hb:b ≠ c:=fun e=>h (by rw [e];exact List.mem_cons_self ..)
    have ih:=AD9 a c (fun hm=>h (List.mem_cons_of_mem _ hm));rw [Lib.indexByte];have h1:(b == c)=false:=by simpa using hb
    rw [h1,ih];rfl
theorem AV7:∀ (ws:List Str),ws ≠ []→(∀ w∈ws,clean w)→splitL (Lib.join ws [32])=ws
  | [],h,_=>absurd rfl h
  | [w],_,hc=>by
    rw [Lib.join_one];exact AN8 (AD9 _ _ (hc w (by simp)).1)
  | w::v::ws,_,hc=>by
    have e:Lib.join (w::v::ws) [32]=w++32::Lib.join (v::ws) [32]:=by simp [Lib.join,List.intercalate]
    have hi:=AI6 w (Lib.join (v::ws) [32]) 32 (hc w (by simp)).1;rw [e,AV8 hi];have h1:(w++32::Lib.join (v::ws) [32]).take w.length=w:=by simp
    have h2:(w++32::Lib.join (v::ws) [32]).drop (w.length + 1)=Lib.join (v::ws) [32]:=by
      rw [← List.drop_drop];simp
    rw [h1,h2,AV7 (v::ws) (by simp) (fun x hx=>hc x (List.mem_cons_of_mem _ hx))]
theorem BW7:∀ (ws:List Str),(∀ w∈ws,clean w)→(10:UInt8) ∉ Lib.join ws [32]
  | [],_,h=>by cases h
  | [w],hc,h=>by rw [Lib.join_one] at h;exact (hc w (by simp)).2 h
  | w::v::ws,hc,h=>by
    have e:Lib.join (w::v::ws) [32]=w++32::Lib.join (v::ws) [32]:=by simp [Lib.join,List.intercalate]
    rw [e] at h
    rcases List.mem_append.1 h with h | h
    · exact (hc w (by simp)).2 h
    · rcases List.mem_cons.1 h with h | h
      · revert h;decide
      · exact BW7 (v::ws) (fun x hx=>hc x (List.mem_cons_of_mem _ hx)) h
def LinesOk (ls:List (List Str)):Prop:=∀ ws∈ls,ws ≠ []∧∀ w∈ws,clean w
theorem AX4:∀ {ls:List (List Str)},LinesOk ls→(linesL ((ls.map lineS).flatten)).map lineW=ls
  | [],_=>rfl
  | ws::ls,h=>by
    obtain ⟨h1,h2⟩:=h ws (by simp);have e:((ws::ls).map lineS).flatten=Lib.join ws [32]++10::(ls.map lineS).flatten:=by simp [lineS,nl]
    rw [e,AX5 _ _ (BW7 ws h2),List.map_cons,AX4 (fun x hx=>h x (List.mem_cons_of_mem _ hx))];unfold lineW;rw [Cx1,AV7 ws h1 h2]
theorem AN6:∀ {ls:List (List Str)},ls ≠ []→Lib.hasSuffix ((ls.map lineS).flatten) [10]=true
  | [],h=>absurd rfl h
  | [ws],_=>by
    unfold Lib.hasSuffix;exact List.isSuffixOf_iff_suffix.2 ⟨Lib.join ws [32],by simp [lineS,nl]⟩
  | ws::vs::ls,_=>by
    have h:=AN6 (ls:=vs::ls) (by simp);unfold Lib.hasSuffix at h ⊢;obtain ⟨t,ht⟩:=List.isSuffixOf_iff_suffix.1 h;exact List.isSuffixOf_iff_suffix.2 ⟨lineS ws++t,by rw [List.append_assoc,ht];rfl⟩
theorem BL5 {α:Type} {step:α→List Str→Option α} {z:α} {ls:List (List Str)} (h:LinesOk ls) (hne:ls ≠ []):parseX step z ((ls.map lineS).flatten)=runL step z ls:=by
  rw [Bc6 (AN6 hne),AX4 h]
theorem Bs0 {α:Type} {f:Str→Option α} {g:α→Str}:∀ {l:List α},(∀ x∈l,f (g x)=some x)→allP f (l.map g)=some l
  | [],_=>rfl
  | x::l,h=>by
    rw [List.map_cons,allP,h x (by simp),Bs0 (fun y hy=>h y (List.mem_cons_of_mem _ hy))]
end Go.Bk
namespace Go.Bk
open Go Go.Eng Go.RowKit
theorem Ck5 {α:Type} {step:α→List Str→Option α} {z x:α} {ok:α→Bool} {text:α→Str} {s:Str} (hp:∀ x,ok x=true→parseX step z (text x)=some x) (h1:ok x=true) (h2:text x=s) (hl:¬ 4096 < s.length):readX step z ok text s = .ok x :=
  BE5 hl (by rw [← h2];exact hp x h1) h1 h2
theorem AR6 {w:Str} (h:w.contains 32=false) (h2:w.contains 10=false):clean w:=⟨by simpa using h,by simpa using h2⟩
theorem CJ9 {w a:Str} {r:List Str}:numAt (w::a::r) 1=numP a:=by unfold numAt;rw [if_pos (by simp)];rfl
theorem An4 (x:Tr) (w:Str) (r:List Str):tourStep x (w::r) =
  if w=wTour then (numAt (w::r) 1).map fun n=>{ x with dawn:=n }
  else if w=wFrom then (allP spanP r).map fun l=>{ x with fr:=l }
  else if w=wWays then (allP spanP r).map fun l=>{ x with ways:=x.ways++[l] }
  else if w=wStay then (allP spanP r).map fun l=>{ x with stay:=l }
  else if w=wLight then (allP spanP r).map fun l=>{ x with light:=l }
  else none:=rfl
/-! ### Tours -/
def Tr.toA (t:Tr):TrA:=⟨t.dawn,⟨t.fr,none,0,0,0⟩,⟨t.ways.map fun l=>⟨l,none,0,0,0⟩,none,0,0,0⟩,⟨t.stay,none,0,0,0⟩,⟨t.light,none,0,0,0⟩⟩
theorem Tr.toA_pl (t:Tr):t.toA.pl=t:=by simp [Tr.toA,TrA.pl,List.map_map,Function.comp_def]
def rowL (w:Str) (l:List Sp):List Str:=w::l.map spS
def tourLs (t:Tr):List (List Str):=[[wTour,Lib.itoa t.dawn],rowL wFrom t.fr]++t.ways.map (rowL wWays)++[rowL wStay t.stay,rowL wLight t.light]
theorem BJ1 (t:Tr):tourS t=((tourLs t).map lineS).flatten:=by
  unfold tourS tourLs rowS rowL;simp [List.map_map,Function.comp_def]
theorem AW3 {w:Str} {l:List Sp} (hw:clean w):rowL w l ≠ []∧∀ x∈rowL w l,clean x:=by
  refine ⟨by simp [rowL],fun x hx=>?_⟩
  rcases List.mem_cons.1 hx with rfl | hx
  · exact hw
  · obtain ⟨s,_,rfl⟩:=List.mem_map.1 hx
    exact BM8 s
theorem Cj5 (t:Tr):LinesOk (tourLs t):=fun ws hw=>by
  unfold tourLs at hw;simp only [List.mem_append,List.mem_cons,List.not_mem_nil,or_false,List.mem_map] at hw
  rcases hw with ((rfl | rfl) | ⟨l,_,rfl⟩) | rfl | rfl
  · refine ⟨by simp,fun x hx=>?_⟩
    simp only [List.mem_cons,List.not_mem_nil,or_false] at hx
    rcases hx with rfl | rfl
    · exact AR6 rfl rfl
    · exact BM9 _
  · exact AW3 (AR6 rfl rfl)
  · exact AW3 (AR6 rfl rfl)
  · exact AW3 (AR6 rfl rfl)
  · exact AW3 (AR6 rfl rfl)
def SpsOk (l:List Sp):Prop:=∀ s∈l,In64 s.lo∧In64 s.hi
theorem AL2 {l:List Sp} (h:SpsOk l):allP spanP (l.map spS)=some l:=Bs0 fun s hs=>BJ6 (h s hs).1 (h s hs).2
theorem BS1 {x:Tr} {l:List Sp} (h:SpsOk l):tourStep x (rowL wFrom l)=some { x with fr:=l }:=by
  unfold rowL;rw [An4,if_neg (by decide),if_pos rfl];simp [AL2 h]
theorem BR8 {x:Tr} {l:List Sp} (h:SpsOk l):tourStep x (rowL wWays l)=some { x with ways:=x.ways++[l] }:=by
  unfold rowL;rw [An4,if_neg (by decide),if_neg (by decide),if_pos rfl];simp [AL2 h]
theorem BR9 {x:Tr} {l:List Sp} (h:SpsOk l):tourStep x (rowL wStay l)=some { x with stay:=l }:=by
  unfold rowL;rw [An4,if_neg (by decide),if_neg (by decide),if_neg (by decide),if_pos rfl];simp [AL2 h]
theorem BJ4 {x:Tr} {l:List Sp} (h:SpsOk l):tourStep x (rowL wLight l)=some { x with light:=l }:=by
  unfold rowL;rw [An4,if_neg (by decide),if_neg (by decide),if_neg (by decide),if_neg (by decide),if_pos rfl];simp [AL2 h]
theorem BS2 {x:Tr} {n:Int} (h:In64 n):tourStep x [wTour,Lib.itoa n]=some { x with dawn:=n }:=by
  rw [An4,if_pos rfl,CJ9,AP2 h];rfl
theorem BE2:∀ {ls:List (List Sp)} {x:Tr},(∀ l∈ls,SpsOk l)→runL tourStep x (ls.map (rowL wWays))=some { x with ways:=x.ways++ls }
  | [],x,_=>by simp [runL]
  | l::ls,x,h=>by
    rw [List.map_cons,runL,BR8 (h l (by simp))];dsimp only;rw [BE2 (fun y hy=>h y (List.mem_cons_of_mem _ hy))];simp
theorem BL4 (t:Tr) (h:tourX t=true):parseX tourStep zeroT (tourS t)=some t:=by
  have hv:=Cs5 (t:=t.toA) (by rw [Tr.toA_pl];exact h);have hfr:SpsOk t.fr:=(hv.all t.toA.fr (BI0 _)).2;have hst:SpsOk t.stay:=(hv.all t.toA.stay (AM1 _)).2;have hli:SpsOk t.light:=(hv.all t.toA.light (Br9 _)).2;have hwa:∀ l∈t.ways,SpsOk l:=fun l hl=>(hv.all ⟨l,none,0,0,0⟩ (BA9 (List.mem_map.2 ⟨l,hl,rfl⟩))).2
  have hda:In64 t.dawn:=hv.dawn;rw [BJ1,BL5 (Cj5 t) (by simp [tourLs])];unfold tourLs;rw [AD2,AD2];simp only [runL,BS2 hda,BS1 hfr,BE2 hwa,BR9 hst,BJ4 hli];simp [zeroT]
/-! ### Cabinets -/
def Cb.toA (c:Cb):CbA:=⟨c.slots,⟨c.homes,none,0,0,0⟩,c.wrong,⟨c.loans,none,0,0,0⟩⟩
/-! ### Royalties -/
def Ry.toA (r:Ry):RyA:=⟨⟨r.terms,none,0,0,0⟩,⟨r.prices,none,0,0,0⟩,⟨r.shares.map fun l=>⟨l,none,0,0,0⟩,none,0,0,0⟩,⟨r.reports,none,0,0,0⟩,⟨r.paid,none,0,0,0⟩⟩
end Go.Bk
namespace Go.Proofs.YtmkdbdbenfbkhaaGreatDoor
open Go Go.Eng
theorem BT9:placesB Tryz.prog 75=some [(0,2),(2,2),(4,1)]:=by kernel_rfl
theorem CI5:tyB Tryz.prog 129=some (true,1):=by kernel_rfl
instance:Tyc Tryz.prog 129 true 1:=⟨CI5⟩
end Go.Proofs.YtmkdbdbenfbkhaaGreatDoor
namespace Go.Proofs.YtmkdbdbenfbkhaaGreatDoor
open Go Go.Eng
theorem CM1:Enters Tryz.prog 57:=Aa3 Tryz.func57 (by kernel_rfl) rfl
end Go.Proofs.YtmkdbdbenfbkhaaGreatDoor
namespace Go.Bk
open Go Go.Eng Go.RowKit
theorem AP0:∀ {cs ds:List Value},cs.length=ds.length→(∀ v∈ds,isOne v=true)→pasteN cs ds=some ds
  | [],[],_,_=>rfl
  | c::cs,d::ds,hl,h=>by
    have ih:=AP0 (cs:=cs) (ds:=ds) (by simpa using hl) (fun v hv=>h v (List.mem_cons_of_mem _ hv));simp only [pasteN,h d (List.mem_cons_self ..),ih]
  | [],_::_,hl,_=>by simp at hl
  | _::_,[],hl,_=>by simp at hl
theorem Ai1 {cs ds:List Value} (hl:cs.length=ds.length) (h:∀ v∈ds,isOne v=true):paste cs 0 (cellsL (.agg ds.toArray))=some ds:=by
  have h2:=AP0 hl h
  show paste cs 0 ds=some ds
  cases cs <;> simpa [paste] using h2
theorem BV0 (x:TrX):∀ v∈x.cells,isOne v=true:=fun v hv=>by
  simp only [TrX.cells,List.mem_cons,List.not_mem_nil,or_false] at hv
  rcases hv with rfl | rfl | rfl | rfl | rfl <;> first | rfl | exact Bc7 _ _
end Go.Bk
namespace Go.Proofs.YtmkdbdbenfbkhaaGreatDoor
open Go Go.Eng Go.Bk Go.RowKit

theorem AV2 (s:Str) (W:World) (hL:Lw Tryz.prog W) (hs:s.length≤100000):Calls Tryz.prog 16 #[.string (bs s)] W (Grow W [] (fun z:TrX×Int=>.tuple #[.agg z.1.cells.toArray,.int .i64 z.2]) (fun z=>trB z.1++[]) (RdX (readX tourStep zeroT tourX tourS s) TrX.pl (TrXOk 10000) zeroTX)):=by
  refine Aa2 Tryz.func16 rfl rfl ?_;refine st ?_;refine zn (New.alloc AF9) (fun b2=>?_)
  refine Ai2 (zF rfl Cu8) rfl rfl rfl (fun w hm=>AN5 w) (fun b5=>?_)
  refine Ag7 (zF rfl CM1) rfl rfl rfl (fun w hm=>(Ao9 (nw':=fun z=>(b2,.cells zsrdT.toArray 25 (0,0))::(trB z.1++[])) (Bw1 s b5 [(b2,.cells zsrdT.toArray 25 (0,0))] W w hL (hm.pick (.cons .here rfl (.cons .here rfl .nil))) hs) (fun z=>(Pick.cnt fun x=>by simp only [nC,trB];omega)))) (fun z6 hz6=>?_)
  
  refine st ?_;refine Ab4 (Sto.store (cs:=zsrdT) (cs':=z6.1.cells) rfl rfl .here At4 rfl (Ai1 rfl (BV0 _))) rfl rfl ?_;refine su ?_;exact Au5 z6 hz6 (.r2 rfl (.agg rfl (.head _) At4 rfl) (.tmp rfl)) rfl (Pick.skip (Pick.refl _))
end Go.Proofs.YtmkdbdbenfbkhaaGreatDoor
namespace Go.Bk
open Go Go.Eng Go.RowKit
theorem Cj8 {α:Type} {l:List α} {k:Nat} {p:α→Bool} {x:α} (hk:k < l.length) (hx:l[k]=x) (h:(l.take k).all p=true) (h2:p x=true):(l.take (k + 1)).all p=true:=by
  rw [List.take_succ_eq_append_getElem hk,List.all_append,h,hx];simp [h2]
theorem CO9 {α:Type} {l:List α} {k:Nat} {p:α→Bool} {x:α} (hk:k < l.length) (hx:l[k]=x) (h2:p x=false):l.all p=false:=by
  rw [List.all_eq_false];exact ⟨x,by rw [← hx];exact List.getElem_mem hk,by simp [h2]⟩
end Go.Bk
namespace Go.Proofs.YtmkdbdbenfbkhaaGreatDoor
open Go Go.Eng Go.Bk Go.RowKit

end Go.Proofs.YtmkdbdbenfbkhaaGreatDoor
namespace Go.Bk
open Go Go.Eng Go.RowKit
def len0 (t:Tr) (c:Cb) (p:Ps):Int:=[(t.ways.length:Int),(t.stay.length:Int),(t.light.length:Int),(c.homes.length:Int),(c.loans.length:Int),(p.cards.length:Int)].foldl Max.max (t.fr.length:Int)
def len1 (t:Tr) (c:Cb) (r:Ry) (p:Ps):Int:=[(r.terms.length:Int),(r.paid.length:Int),(r.prices.length:Int),(r.shares.length:Int),(r.reports.length:Int)].foldl Max.max (len0 t c p)
def len2 {α:Type} (n:Int) (l:List (List α)):Int:=l.foldl (fun n x=>Max.max n (x.length:Int)) n
theorem Ct5 {α:Type} {n:Int} {l:List (List α)} {k:Nat} (hk:k < l.length) {x:List α} (hx:l[k]=x):len2 n (l.take (k + 1))=Max.max (len2 n (l.take k)) (x.length:Int):=by
  unfold len2;rw [List.take_succ_eq_append_getElem hk,List.foldl_append,hx];rfl
theorem Bx0 {α:Type}:∀ (l:List (List α)) (n:Int),n≤len2 n l∧∀ x∈l,(x.length:Int)≤len2 n l
  | [],n=>⟨Int.le_refl _,fun x h=>by cases h⟩
  | y::l,n=>by
    obtain ⟨h1,h2⟩:=Bx0 l (Max.max n (y.length:Int));have e:len2 n (y::l)=len2 (Max.max n (y.length:Int)) l:=rfl;rw [e];refine ⟨by omega,fun x hx=>?_⟩
    rcases List.mem_cons.1 hx with rfl | hx
    · omega
    · exact h2 x hx
def lenX (t:Tr) (c:Cb) (r:Ry) (p:Ps):Int:=len2 (len2 (len1 t c r p) t.ways) r.shares
def greatX (t:Tr) (c:Cb) (r:Ry) (p:Ps):Bool:=decide (40 < lenX t c r p)
structure Few (t:Tr) (c:Cb) (r:Ry) (p:Ps):Prop where
  fr:t.fr.length≤40
  ways:t.ways.length≤40
  rows:∀ x∈t.ways,x.length≤40
  stay:t.stay.length≤40
  light:t.light.length≤40
  homes:c.homes.length≤40
  loans:c.loans.length≤40
  cards:p.cards.length≤40
  terms:r.terms.length≤40
  paid:r.paid.length≤40
  prices:r.prices.length≤40
  shares:r.shares.length≤40
  srows:∀ x∈r.shares,x.length≤40
  reports:r.reports.length≤40
theorem CK4 {t:Tr} {c:Cb} {r:Ry} {p:Ps} (h:greatX t c r p=false):Few t c r p:=by
  have h0:lenX t c r p≤40:=by have:=of_decide_eq_false h;omega
  have h3:=Bx0 r.shares (len2 (len1 t c r p) t.ways);have h2:=Bx0 t.ways (len1 t c r p);have h1:=Bd6 [(r.terms.length:Int),(r.paid.length:Int),(r.prices.length:Int),(r.shares.length:Int),(r.reports.length:Int)] (len0 t c p);have h4:=Bd6 [(t.ways.length:Int),(t.stay.length:Int),(t.light.length:Int),(c.homes.length:Int),(c.loans.length:Int),(p.cards.length:Int)] (t.fr.length:Int)
  change _≤lenX t c r p∧∀ x∈r.shares,_≤lenX t c r p at h3
  change _≤len1 t c r p∧∀ q∈_,q≤len1 t c r p at h1
  change _≤len0 t c p∧∀ q∈_,q≤len0 t c p at h4
  have m1:=h1.2;have m4:=h4.2;simp only [List.mem_cons,List.not_mem_nil,or_false,forall_eq_or_imp,forall_eq] at m1 m4;refine ⟨?_,?_,fun x hx=>?_,?_,?_,?_,?_,?_,?_,?_,?_,?_,fun x hx=>?_,?_⟩
  case refine_3=>have:=h2.2 x hx;omega
  case refine_13=>have:=h3.2 x hx;omega
  all_goals omega
/-! ### The examples -/
def exT:Tr:=⟨360,[⟨30,40⟩,⟨20,20⟩,⟨60,70⟩],[[⟨0,0⟩,⟨15,20⟩,⟨45,50⟩],[⟨15,20⟩,⟨0,0⟩,⟨30,35⟩],[⟨45,50⟩,⟨30,35⟩,⟨0,0⟩]],[⟨10,15⟩,⟨20,20⟩,⟨5,10⟩],[⟨420,480⟩,⟨380,600⟩,⟨500,540⟩]⟩
def exP:Ps:=⟨[⟨⟨100,101⟩,⟨500,505⟩,0⟩],⟨3,5⟩,⟨10,20⟩⟩
theorem Ct9:tourX exT=true:=by decide
def dig (u:Nat):Str:=if u < 10 then [UInt8.ofNat (48 + u)] else if u < 100 then [UInt8.ofNat (48 + u / 10),UInt8.ofNat (48 + u % 10)] else [UInt8.ofNat (48 + u / 100),UInt8.ofNat (48 + u / 10 % 10),UInt8.ofNat (48 + u % 10)]
theorem CF9 {u:Nat} (h:u < 1000):Lib.decDigits u=dig u:=by
  unfold dig
  split
  · rw [Lib.decDigits,dif_pos (by assumption)]
  · rename_i h1
    rw [Lib.decDigits,dif_neg h1]
    split
    · rw [Lib.decDigits,dif_pos (by omega)]
      rfl
    · rw [Lib.decDigits,dif_neg (by omega),Lib.decDigits,dif_pos (by omega)]
      have e:u / 10 / 10=u / 100:=by omega
      rw [e];rfl
theorem Cn6 {n:Int} (h:0≤n) (h2:n < 1000):Lib.itoa n=dig n.toNat:=by
  unfold Lib.itoa;rw [if_neg (by omega),CF9 (by omega)]
def exTS:Str:=[116,111,117,114,32,51,54,48,10,102,114,111,109,32,51,48,46,46,52,48,32,50,48,46,46,50,48,32,54,48,46,46,55,48,10,119,97,121,115,32,48,46,46,48,32,49,53,46,46,50,48,32,52,53,46,46,53,48,10,119,97,121,115,32,49,53,46,46,50,48,32,48,46,46,48,32,51,48,46,46,51,53,10,119,97,121,115,32,52,53,46,46,53,48,32,51,48,46,46,51,53,32,48,46,46,48,10,115,116,97,121,32,49,48,46,46,49,53,32,50,48,46,46,50,48,32,53,46,46,49,48,10,108,105,103,104,116,32,52,50,48,46,46,52,56,48,32,51,56,48,46,46,54,48,48,32,53,48,48,46,46,53,52,48,10]
set_option maxRecDepth 10000 in
theorem BG5:tourS exT=exTS:=by
  simp (config:={ decide:=true }) only [tourS,exT,rowS,lineS,spS,List.map_cons,List.map_nil,Cn6]
  try rfl
set_option maxRecDepth 10000 in
theorem Be4:exTS.length=165:=rfl
theorem Cp4:readX tourStep zeroT tourX tourS exTS = .ok exT:=Ck5 BL4 Ct9 BG5 (by rw [Be4];decide)
end Go.Bk
namespace Go.Proofs.YtmkdbdbenfbkhaaGreatDoor
open Go Go.Eng Go.Bk Go.RowKit

abbrev cO (cs:List Value) (T:TypeId):Obj:=.cells cs.toArray T (0,0)
theorem Bf8 {α:Type} {w:World} {b c:Nat} {T:TypeId} {f:α→List Value} {sz:Nat} (l:List α) (h:w.heap[b]? = some (cO (l.map f).flatten T)) (hf:∀ x,(f x).length=sz):(⟨l,some ⟨b,0,none⟩,b,0,c⟩:SA α).ok f sz w :=
  Sl.rowsR (xs:=l.map f) (t:=[]) (by rw [List.append_nil];exact h) (fun x hx=>by obtain ⟨y,_,rfl⟩:=List.mem_map.1 hx;exact hf y)
abbrev atB {α:Type} (l:List α) (b:Nat):SA α:=⟨l,some ⟨b,0,none⟩,b,0,l.length⟩
structure ExT where
  a:Nat
  b:Nat
  c:Nat
  d:Nat
  e:Nat
  f:Nat
  g:Nat
def exTR (z:ExT):List (SA Sp):=[atB [⟨0,0⟩,⟨15,20⟩,⟨45,50⟩] z.b,atB [⟨15,20⟩,⟨0,0⟩,⟨30,35⟩] z.c,atB [⟨45,50⟩,⟨30,35⟩,⟨0,0⟩] z.d]
def exTA (z:ExT):TrA:=⟨360,atB exT.fr z.a,atB (exTR z) z.e,atB exT.stay z.f,atB exT.light z.g⟩
theorem Cz7 (z:ExT):(exTA z).pl=exT:=rfl
def exTB (z:ExT):Blks:=[(z.a,cO (exT.fr.map Sp.cells).flatten 37),(z.b,cO (([⟨0,0⟩,⟨15,20⟩,⟨45,50⟩]:List Sp).map Sp.cells).flatten 37),(z.c,cO (([⟨15,20⟩,⟨0,0⟩,⟨30,35⟩]:List Sp).map Sp.cells).flatten 37),(z.d,cO (([⟨45,50⟩,⟨30,35⟩,⟨0,0⟩]:List Sp).map Sp.cells).flatten 37),(z.e,cO ((exTR z).map SA.cell).flatten 22),(z.f,cO (exT.stay.map Sp.cells).flatten 37),(z.g,cO (exT.light.map Sp.cells).flatten 37)]
theorem Cz8 {z:ExT} {w W:World} {tl:Blks} (hm:Mem W [] (exTB z++tl) w):TrOk w (exTA z):=by
  have h:∀ b o,(b,o)∈exTB z→w.heap[b]? = some o:=fun b o hb=>hm.at (List.mem_append_right _ (List.mem_append_left _ hb))
  refine ⟨Bf8 _ (h _ _ (.head _)) (fun _=>rfl),Bf8 _ (h _ _ (.tail _ (.tail _ (.tail _ (.tail _ (.head _)))))) (fun _=>rfl),fun x hx=>?_,Bf8 _ (h _ _ (.tail _ (.tail _ (.tail _ (.tail _ (.tail _ (.head _))))))) (fun _=>rfl),Bf8 _ (h _ _ (.tail _ (.tail _ (.tail _ (.tail _ (.tail _ (.tail _ (.head _)))))))) (fun _=>rfl),fun e=>by cases e⟩
  simp only [exTA,exTR,List.mem_cons,List.not_mem_nil,or_false] at hx
  rcases hx with rfl | rfl | rfl
  · exact Bf8 _ (h _ _ (.tail _ (.head _))) (fun _=>rfl)
  · exact Bf8 _ (h _ _ (.tail _ (.tail _ (.head _)))) (fun _=>rfl)
  · exact Bf8 _ (h _ _ (.tail _ (.tail _ (.tail _ (.head _))))) (fun _=>rfl)
theorem Cz6 (z:ExT):TrSm (exTA z):=⟨by show (3:Nat)≤_;decide,by show (3:Nat)≤_;decide,fun x hx=>by
  simp only [exTA,exTR,List.mem_cons,List.not_mem_nil,or_false] at hx
  rcases hx with rfl | rfl | rfl <;> (show (3:Nat)≤_;decide),by show (3:Nat)≤_;decide,by show (3:Nat)≤_;decide⟩
def exPA (z:Nat):PsA:=⟨atB exP.cards z,exP.less,exP.loss⟩
theorem Cz9 (z:Nat):(exPA z).pl=exP:=rfl
end Go.Proofs.YtmkdbdbenfbkhaaGreatDoor
namespace Go.Bk
open Go Go.Eng Go.RowKit
theorem Bp3 {β:Type} {P:Program} {f:FuncId} {args:Array Value} {w:World} {v:β→Value} {nw:β→Blks} {I:β→Prop} (h:Calls P f args w (Grow w [] v nw I)):Calls P f args w (News (fun z:{ b // I b }=>v z.1) (fun z=>nw z.1) w) :=
  Af8 h (by rintro e w' ⟨b,h1,h2,h3⟩;exact ⟨⟨b,h1⟩,h2,h3⟩)
theorem CR0 {α β:Type} {x:Except Int α} {pl:β→α} {ok:β→Prop} {z0 z:β} {e:Int} {t:α} (h:RdX x pl ok z0 (z,e)) (hx:x = .ok t):pl z=t∧e=0∧ok z:=by
  rcases h with ⟨t',h1,h2,h3,h4⟩ | ⟨k,h1,_⟩
  · rw [hx] at h1;cases h1;exact ⟨h2,h3,h4⟩
  · rw [hx] at h1;cases h1
end Go.Bk
namespace Go.Proofs.YtmkdbdbenfbkhaaGreatDoor
open Go Go.Eng Go.Bk Go.RowKit

theorem wT (z:ExT):writeV (tourX (exTA z).pl) (tourS (exTA z).pl) = .tuple #[.string (bs exTS),.int .i64 0]:=by rw [Cz7,← BG5];rfl
theorem BT5 {P:Program} {f:FuncId} {args:Array Value} {w:World} {p:Prop} [Decidable p] (h:Calls P f args w (Pure (.bool (decide p)) w)) (hp:p):Calls P f args w (Pure (.bool true) w):=by rw [decide_eq_true hp] at h;exact h
end Go.Proofs.YtmkdbdbenfbkhaaGreatDoor
