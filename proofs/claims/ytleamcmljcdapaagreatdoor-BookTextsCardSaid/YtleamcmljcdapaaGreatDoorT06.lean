/- Walks of the reference of layer 14: ReadCabinet. -/
import Derived.Test.YtleamcmljcdapaaGreatDoorT05
set_option linter.unusedSimpArgs false
set_option linter.unusedVariables false
namespace Go.Bk
open Go Go.Eng Go.RowKit
theorem ln_flat {l:List Ln} {a:Ln}:((l++[a]).map Ln.cells).flatten=(l.map Ln.cells).flatten++a.cells:=by simp
end Go.Bk
namespace Go.Proofs.YtleamcmljcdapaaGreatDoor
open Go Go.Eng Go.Bk Go.RowKit

theorem rCabX_calls (x:CbX) (h:CbXOk 10000 x) (tl:Blks) (W0 w:World) (hm:Mem W0 [] (cbB x++tl) w):Calls Tryz.prog 33 #[.agg x.cells.toArray] w (Pure (.bool (rcabX x.pl)) w):=by
  have h1:=rCabinet_calls x.toA (h.sm (Nat.le_refl _)) w (cbX_ok h hm)
  rw [CbX.toA_pl] at h1
  have e:x.toA.v = .agg x.cells.toArray:=by unfold CbA.v;rw [h.cells]
  rw [e] at h1
  exact h1
set_option maxHeartbeats 2000000 in
theorem cabinet_calls14 (ls:LsA) (W:World) (hx:LsOk W ls) (hr:RowsOk (LsA.pl ls)) (hL:Lw Tryz.prog W):Calls Tryz.prog 53 #[ls.v] W (Grow W [] (fun z:CbX×Bool=>.tuple #[.agg z.1.cells.toArray,.bool z.2]) (fun z=>cbB z.1++[]) (fun z=>CbXOk 10000 z.1∧z.2=(cabV (LsA.pl ls)).2∧(z.2=true→z.1.pl=(cabV (LsA.pl ls)).1))):=by
  have hpl:=pl_len ls
  have hfew:=hr.few
  rw [hpl] at hfew
  have hrow:∀ {i:Nat} (hi:i < ls.l.length) {r:SA Str} (_:ls.l[i]=r) {w:World} {news:Blks},Mem W [] news w→(LsA.pl ls).getD i []=r.l∧r.ok strC 1 w∧0 < r.l.length∧r.l.length≤5000:=fun {i} hi {r} e {w} {news} hm=>by
    have hm1:r∈ls.l:=e ▸ List.getElem_mem hi
    exact ⟨pl_getD hi e,SA.ok.mono0 (hx.each r hm1) (by decide) hm,hr.pos (pl_mem hm1),hr.len _ (pl_mem hm1)⟩
  refine calls_start Tryz.func53 rfl rfl ?_
  refine st ?_
  refine RunL.new (New.alloc zero_30) rfl rfl rfl (fun b2=>?_)
  refine st ?_
  refine RunL.new (New.alloc zero_30) rfl rfl rfl (fun b4=>?_)
  refine st ?_
  refine lv (Val.len_sl rfl sl_84) ?_
  refine cn rfl ?_ ?_
  ·intro c0'
   refine st ?_
   refine lv (Val.load_agg rfl (.head _) ty_30 rfl) ?_
   refine RunL.sto (Sto.store rfl rfl (.there .here) ty_30 rfl rfl) rfl rfl ?_
   refine st ?_
   refine RunC.ret ?_
   refine RunE.pass_ret ?_
   exact RunE.retG (zeroCX,false) ⟨zeroCX_ok.le (by decide),(cabV_0 (by omega)).symm,fun h=>by cases h⟩ (.r2 rfl (.agg rfl (.tail _ (.head _)) ty_30 rfl) (.tmp rfl)) rfl (show Pick [] _ from .nil)
  intro c0'
  have h4:2≤ls.l.length:=by omega
  obtain ⟨r0,hr0⟩:∃ r,ls.l[0]=r:=⟨_,rfl⟩
  obtain ⟨r1,hr1⟩:∃ r,ls.l[1]=r:=⟨_,rfl⟩
  refine st ?_
  refine lv (Val.indexAddr_slp rfl rfl sl_84 (by omega) (by omega) (Sl.ptrM hx.rows (i:=0) (by omega))) ?_
  refine lv (Val.load_gen rfl (fun w hm=>Sl.loadM1 hx.rows (by decide) hm (by simp) ty_166 (show 0 < ls.l.length by omega) (v:=r0.v) (by simp [SA.cell,hr0]))) ?_
  refine RunL.callNT (isCall_func rfl ent_106) rfl rfl rfl (fun w hm=>(let h9:=hrow (i:=0) (by omega) hr0 hm;grow_news (readNums_calls14 r0 w h9.2.1 h9.2.2.1 (by omega) wCab (hL.mono hm)))) (fun z18=>?_)
  obtain ⟨⟨⟨y18,l18⟩,i18⟩,o18,e18⟩:=z18
  dsimp only at e18
  have hy18:OwnOk 1 y18 l18.length (l18.map intC).flatten:=o18
  rw [← pl_getD (i:=0) (by omega) hr0] at e18
  dsimp only [OL.v]
  refine st ?_
  refine RunL.orPart (dj:=23) (dp:=27) 4 rfl (fun g23=>by
    have g23':=g23
    try simp only [nH] at g23'
    refine st ?_
    refine RunL.val (Val.len_own rfl sl_27 hy18) rfl rfl rfl ?_
    refine sv ?_
    exact RunL.segEnd (Sub.cons rfl (Sub.skip rfl (Sub.skip rfl (Sub.skip rfl (Sub.skip rfl (Sub.same rfl (by rw [g23]) (Sub.refl _))))))) (List.Sublist.refl _)
  ) (fun g23=>by
    have g23':=g23
    try simp only [nH] at g23'
    iterate 3 refine RunL.no rfl rfl rfl ?_
    refine sv ?_
    exact RunL.segEnd (Sub.cons rfl (Sub.skip rfl (Sub.skip rfl (Sub.skip rfl (Sub.skip rfl (Sub.same rfl (by rw [g23]) (Sub.refl _))))))) (List.Sublist.refl _)
  ) ?_
  refine st ?_
  refine cn rfl ?_ ?_
  ·intro c1'
   refine st ?_
   refine lv (Val.load_agg rfl (.head _) ty_30 rfl) ?_
   refine RunL.sto (Sto.store rfl rfl (.there .here) ty_30 rfl rfl) rfl rfl ?_
   refine st ?_
   refine RunC.ret ?_
   refine RunE.pass_ret ?_
   exact RunE.retG (zeroCX,false) ⟨zeroCX_ok.le (by decide),(cabV_1 e18 c1').symm,fun h=>by cases h⟩ (.r2 rfl (.agg rfl (.tail _ (.head _)) ty_30 rfl) (.tmp rfl)) rfl (show Pick [] _ from .nil)
  intro c1'
  obtain ⟨hi18,hc18⟩:=c1'
  subst hi18
  obtain ⟨sl,wr,rfl⟩:=two (show l18.length=2 by omega)
  refine RunC.skip ?_
  refine RunE.next ?_
  refine RunC.seq ?_
  obtain ⟨by18,cy18,ry18,rfl,ly181,ly182,ly183⟩:=hy18.has (by simp)
  refine RunC.draw 8 fol_ (.cons (.there .here) rfl (.cons (.there .here) rfl .nil)) ?_
  refine va 0 rfl (Val.pure rfl) rfl rfl rfl (.cons (.there .here) rfl (.cons (.there .here) rfl .nil)) rfl ?_
  refine va 1 rfl (Val.indexAddr_sl rfl rfl sl_27 (by omega) (by omega)) rfl rfl rfl (.cons (.there .here) rfl (.cons (.there .here) rfl .nil)) rfl ?_
  refine va 2 rfl (Val.load_gen rfl (fun w hm=>Sl.loadM1 (Sl.rowsR (xs:=[sl,wr].map intC) (t:=ry18) (hm.at (.tail _ (.head _))) (fun x hx=>by obtain ⟨y,_,rfl⟩:=List.mem_map.1 hx;rfl):Sl w _ by18 0 1 ([sl,wr].map intC)) (by decide) (Mem.refl w) (by simp) ty_3 (i:=0) (by simp) (v:=.int .i64 sl) (by simp [intC]))) rfl rfl rfl (.cons (.there .here) rfl (.cons (.there .here) rfl .nil)) rfl ?_
  refine va 3 rfl (Val.pure rfl) rfl rfl rfl (.cons (.there .here) rfl (.cons (.there .here) rfl .nil)) rfl ?_
  refine va 4 rfl (Val.indexAddr_sl rfl rfl sl_27 (by omega) (by omega)) rfl rfl rfl (.cons (.there .here) rfl (.cons (.there .here) rfl .nil)) rfl ?_
  refine va 5 rfl (Val.load_gen rfl (fun w hm=>Sl.loadM1 (Sl.rowsR (xs:=[sl,wr].map intC) (t:=ry18) (hm.at (.tail _ (.head _))) (fun x hx=>by obtain ⟨y,_,rfl⟩:=List.mem_map.1 hx;rfl):Sl w _ by18 0 1 ([sl,wr].map intC)) (by decide) (Mem.refl w) (by simp) ty_3 (i:=1) (by simp) (v:=.int .i64 wr) (by simp [intC]))) rfl rfl rfl (.cons (.there .here) rfl (.cons (.there .here) rfl .nil)) rfl ?_
  refine va 6 rfl (Val.fieldAddr rfl fld_30_0) rfl rfl rfl (.cons (.there .here) rfl (.cons (.there .here) rfl .nil)) rfl ?_
  refine RunA.one (i:=7) (by kernel_rfl) (by kernel_rfl) ?_
  refine RunI.sto rfl (Sto.store rfl rfl .here ty_3 rfl rfl) rfl rfl (RunK.toA (.cons (.there .here) rfl (.cons (.there .here) rfl .nil)) (.cons .here rfl (.cons .here rfl .nil)) rfl ?_)
  refine RunA.toB (by kernel_rfl) ?_
  refine RunB.one (i:=8) (by kernel_rfl) ?_
  refine RunI.val rfl (Val.fieldAddr rfl fld_30_2) rfl rfl rfl (RunK.toB ?_)
  refine RunB.one (i:=9) (by kernel_rfl) ?_
  refine RunI.sto rfl (Sto.store rfl rfl .here ty_3 rfl rfl) rfl rfl (RunK.toB ?_)
  refine RunB.done (by kernel_rfl) ?_
  refine st ?_
  refine lv (Val.indexAddr_slp rfl rfl sl_84 (by omega) (by omega) (Sl.ptrM hx.rows (i:=1) (by omega))) ?_
  refine lv (Val.load_gen rfl (fun w hm=>Sl.loadM1 hx.rows (by decide) hm (by simp) ty_166 (show 1 < ls.l.length by omega) (v:=r1.v) (by simp [SA.cell,hr1]))) ?_
  refine RunL.callNT (isCall_func rfl ent_106) rfl rfl rfl (fun w hm=>(let h9:=hrow (i:=1) (by omega) hr1 hm;grow_news (readNums_calls14 r1 w h9.2.1 h9.2.2.1 (by omega) wHomes (hL.mono hm)))) (fun z41=>?_)
  obtain ⟨⟨⟨y41,l41⟩,i41⟩,o41,e41⟩:=z41
  dsimp only at e41
  have hy41:OL.ok (y41,l41) intC 1:=o41
  have hl41:l41.length≤5000:=Nat.le_trans (lineV_len e41) (hr.len _ (pl_mem (hr1 ▸ List.getElem_mem _)))
  rw [← pl_getD (i:=1) (by omega) hr1] at e41
  dsimp only [OL.v]
  refine st ?_
  refine lv (Val.fieldAddr rfl fld_30_1) ?_
  refine RunL.sto (Sto.storeOwn rfl rfl .here ty_27 rfl rfl) rfl rfl ?_
  refine st ?_
  refine RunC.loopX (X:=OL Ln×Bool) (n0:=[(b2,_)]) (ls.l.length - 2) (fun k x q=>(7,.int .i64 ((2 + k:Nat):Int))::(6,.bool x.2)::q) (fun _ _=>_) (fun k x=>[(b4,.cells [.int .i64 sl,ownV y41 l41.length,.int .i64 wr,ownV x.1.1 x.1.2.length].toArray 30 (0,0))]) (fun k x=>(ownB 98 x.1.1 (x.1.2.map Ln.cells).flatten++(inB (y41,l41)++[]))) (fun k x=>OL.ok x.1 Ln.cells 4∧x.1.2=(((LsA.pl ls).drop 2).take k).map (fun l=>(loanV l).1)∧x.2=(i41 && (((LsA.pl ls).drop 2).take k).all fun l=>(loanV l).2)∧x.1.2.length=k) ((none,[]),i41) ⟨ol_nil,rfl,by simp,rfl⟩ rfl (Sub.consE (t:=7) rfl rfl (Sub.consE (t:=6) rfl rfl (Sub.cons (t:=0) rfl (Sub.cons (t:=2) rfl (Sub.cons (t:=4) rfl (Sub.nil _)))))) (.cons .here rfl (.cons .here rfl (Pick.skip (Pick.same rfl)))) ?_
  intro k x kN kI
  obtain ⟨⟨wo,wl⟩,wi⟩:=x
  obtain ⟨hwo,kI2,kI3,kI4⟩:=kI
  dsimp only at kI2 kI3 kI4 ⊢
  refine st ?_
  refine lv (Val.len_sl rfl sl_84) ?_
  refine cn rfl ?_ ?_
  ·intro c2'
   have hk:2 + k < ls.l.length:=by omega
   obtain ⟨r2,hr2⟩:∃ r,ls.l[2 + k]=r:=⟨_,rfl⟩
   have hg2:=pl_getD hk hr2
   have hk9:2 + k < (LsA.pl ls).length:=(by rw [hpl];exact hk)
   refine st ?_
   refine lv (Val.indexAddr_slp rfl rfl sl_84 (by omega) (by omega) (Sl.ptrM hx.rows (i:=2 + k) (by omega))) ?_
   refine lv (Val.load_gen rfl (fun w hm=>Sl.loadM1 hx.rows (by decide) hm (by simp) ty_166 hk (v:=r2.v) (by simp [SA.cell,hr2]))) ?_
   refine RunL.callP (isCall_func rfl ent_120) rfl rfl rfl (fun w hm=>(let h9:=hrow (i:=2 + k) (by omega) hr2 hm;readLoan_calls14 r2 w h9.2.1 (by omega) (hL.mono hm))) ?_
   refine st ?_
   refine RunL.new (New.alloc zero_98) rfl rfl rfl (fun b8=>?_)
   refine RunL.sto (Sto.store (cs:=zeroLn.cells) (cs':=(loanV r2.l).1.cells) rfl rfl .here ty_98 rfl rfl) rfl rfl ?_
   refine st ?_
   refine RunL.andPart (dj:=60) (dp:=62) 2 rfl (fun g60=>by
     have g60':=g60
     try simp only [nH] at g60'
     refine sv ?_
     exact RunL.segEnd (Sub.cons rfl (Sub.skip rfl (Sub.skip rfl (Sub.same rfl (by rw [g60]) (Sub.refl _))))) (List.Sublist.refl _)
   ) (fun g60=>by
     have g60':=g60
     try simp only [nH] at g60'
     refine RunL.no rfl rfl rfl ?_
     refine sv ?_
     exact RunL.segEnd (Sub.cons rfl (Sub.skip rfl (Sub.skip rfl (Sub.same rfl (by rw [g60]) (Sub.refl _))))) (List.Sublist.refl _)
   ) ?_
   refine st ?_
   refine lv (Val.fieldAddr rfl fld_30_3) ?_
   refine lv (Val.load_one rfl (.tail _ (.head _)) ty_28 rfl) ?_
   refine lv (Val.load_agg rfl (.head _) ty_98 rfl) ?_
   refine RunL.new (New.buildSlice (parts:=[(0,.tmp 65)]) rfl sl_28 zero_98 rfl rfl rfl rfl) rfl rfl rfl (fun b66=>?_)
   refine RunL.append (A:=[(b66,_),(b8,_),(b4,_),(b2,_)]) (B:=_) (x:=wo) (ys:=(loanV r2.l).1.cells) ap_28 rfl rfl rfl hwo rfl (fun h=>by cases h) (fun w hm=>src_blk (hm.at (.head _))) (one_of rfl) (by simp only [maxLen];show wl.length + 1≤_;omega) (by show (wl.length + 1) * 32≤140737488355328;omega) rfl (fun z67 hz67=>?_)
   refine lv (Val.fieldAddr rfl fld_30_3) ?_
   refine RunL.sto (Sto.storeOwn rfl rfl (.there (.there .here)) ty_28 rfl rfl) rfl rfl ?_
   refine st ?_
   refine lv (Val.add rfl rfl (IntWalk.i64_in _ ⟨by omega,by omega⟩)) ?_
   exact RunE.roundX ((z67,wl++[(loanV r2.l).1]),wi && (loanV r2.l).2) (by omega) ⟨ol_snoc (z:=wo) (f:=Ln.cells) (a:=(loanV r2.l).1) hz67,(by show wl++_=_;rw [drop_map_s hk9 hg2,← kI2]),(by rw [drop_all_s hk9 hg2,kI3,Bool.and_assoc]),by show (wl++_).length=_;rw [List.length_append,kI4];rfl⟩ rfl (Sub.consE (t:=7) rfl (by rw [show 2 + (k + 1)=2 + k + 1 by omega];rfl) (Sub.consE (t:=6) rfl rfl (Sub.cons (t:=0) rfl (Sub.cons (t:=2) rfl (Sub.cons (t:=4) rfl (Sub.nil _)))))) (.cons (.there (.there .here)) (by simp) (.cons (.there (.there .here)) rfl (Pick.skip (Pick.skip (Pick.same (by simp))))))
  intro c2'
  obtain rfl:k=ls.l.length - 2:=by omega
  rw [← hpl,drop_end] at kI2 kI3
  refine RunC.exit ?_
  refine RunE.pass_exit ?_
  refine RunE.pass_exit ?_
  refine RunE.block_here ?_
  refine RunE.next ?_
  refine RunC.seq ?_
  have hTX:CbXOk 10000 ⟨sl,(y41,l41),wr,(wo,wl)⟩:=⟨hy41,hwo,by show wl.length≤_;omega,by show l41.length≤_;omega⟩
  have hTV:=cabV_2 (by omega) e18 e41 kI2 kI3
  refine RunC.drawX (X:=Unit) 7 (n0:=[]) (fun u q=>(3,.bool (wi && rcabX (CbX.mk sl (y41,l41) wr (wo,wl)).pl))::q) (fun u=>[]) (fun u=>[(b2,.cells (CbX.mk sl (y41,l41) wr (wo,wl)).cells.toArray 30 (0,0))]) (fun u=>cbB (CbX.mk sl (y41,l41) wr (wo,wl))++[]) (fun u=>True) fol_ (.cons .here rfl .nil) (Sub.cons (t:=2) rfl (Sub.nil _)) .nil ?_ ?_
  ·refine va 0 rfl (Val.load_agg rfl (.head _) ty_30 rfl) rfl rfl rfl (.cons .here rfl .nil) rfl ?_
   refine va 1 rfl (Val.pure rfl) rfl rfl rfl (.cons .here rfl .nil) rfl ?_
   refine va 2 rfl (Val.pure rfl) rfl rfl rfl (.cons .here rfl .nil) rfl ?_
   refine RunA.ways (dj:=71) rfl ?_ ?_
   ·intro g71
    have g71':=g71;clear g71
    try simp only [nH] at g71'
    refine va 3 rfl (Val.load_agg rfl (.head _) ty_30 rfl) rfl rfl rfl (.cons .here rfl .nil) rfl ?_
    refine RunA.one (i:=4) (by kernel_rfl) (by kernel_rfl) ?_
    refine RunI.callP rfl (isCall_func rfl ent_33) rfl rfl rfl (fun w hm=>(rCabX_calls ⟨sl,(y41,l41),wr,(wo,wl)⟩ hTX [] W w (hm.pick (news':=cbB ⟨sl,(y41,l41),wr,(wo,wl)⟩++[]) (Pick.cnt fun x=>by simp only [nC,List.nil_append,List.append_nil,cbB,inB,lnB,ownB_none,ownB_some14,ln_flat];omega)))) (RunK.toA (.cons .here rfl .nil) (.cons .here rfl .nil) rfl ?_)
    refine va 5 rfl (Val.pure rfl) rfl rfl rfl (.cons .here rfl .nil) rfl ?_
    refine RunA.one (i:=6) (by kernel_rfl) (by kernel_rfl) ?_
    refine RunI.sto rfl (Sto.store (cs:=zsrdC) (cs':=(CbX.mk sl (y41,l41) wr (wo,wl)).cells) rfl rfl (.there .here) ty_30 rfl (paste_over rfl (one_cbX (CbX.mk sl (y41,l41) wr (wo,wl))))) rfl rfl (RunK.toA (.cons .here rfl .nil) (.cons .here rfl .nil) rfl ?_)
    refine RunA.toB (by kernel_rfl) ?_
    refine RunB.one (i:=7) (by kernel_rfl) ?_
    refine RunI.val rfl (Val.pure rfl) rfl rfl rfl (RunK.toB ?_)
    refine RunB.done (by kernel_rfl) ?_
    exact RunE.joinX () trivial rfl (Sub.consE (t:=3) rfl (by simp_all) (Sub.cons (t:=2) rfl (Sub.nil _))) (.cons (.there .here) rfl (Pick.cnt fun x=>by simp only [nC,List.nil_append,List.append_nil,cbB,inB,lnB,ownB_none,ownB_some14,ln_flat];omega))
   intro g71
   have g71':=g71;clear g71
   try simp only [nH] at g71'
   refine RunA.no (i:=3) rfl (by kernel_rfl) (by kernel_rfl) rfl rfl rfl (fun _ _ _ h=>h) (.cons .here rfl .nil) rfl ?_
   refine RunA.one (i:=4) (by kernel_rfl) (by kernel_rfl) ?_
   refine RunI.no rfl rfl rfl rfl (RunK.toA (.cons .here rfl .nil) (.cons .here rfl .nil) rfl ?_)
   refine va 5 rfl (Val.pure rfl) rfl rfl rfl (.cons .here rfl .nil) rfl ?_
   refine RunA.one (i:=6) (by kernel_rfl) (by kernel_rfl) ?_
   refine RunI.sto rfl (Sto.store (cs:=zsrdC) (cs':=(CbX.mk sl (y41,l41) wr (wo,wl)).cells) rfl rfl (.there .here) ty_30 rfl (paste_over rfl (one_cbX (CbX.mk sl (y41,l41) wr (wo,wl))))) rfl rfl (RunK.toA (.cons .here rfl .nil) (.cons .here rfl .nil) rfl ?_)
   refine RunA.toB (by kernel_rfl) ?_
   refine RunB.one (i:=7) (by kernel_rfl) ?_
   refine RunI.val rfl (Val.pure rfl) rfl rfl rfl (RunK.toB ?_)
   refine RunB.done (by kernel_rfl) ?_
   exact RunE.joinX () trivial rfl (Sub.consE (t:=3) rfl (by simp_all) (Sub.cons (t:=2) rfl (Sub.nil _))) (.cons (.there .here) rfl (Pick.cnt fun x=>by simp only [nC,List.nil_append,List.append_nil,cbB,inB,lnB,ownB_none,ownB_some14,ln_flat];omega))
  intro u uI
  refine st ?_
  refine RunC.ret ?_
  exact RunE.retG (CbX.mk sl (y41,l41) wr (wo,wl),wi && rcabX (CbX.mk sl (y41,l41) wr (wo,wl)).pl) ⟨hTX,by rw [hTV];rfl,fun _=>by rw [hTV];rfl⟩ (.r2 rfl (.agg rfl (.head _) ty_30 rfl) (.tmp rfl)) rfl (Pick.skip (Pick.refl _))
theorem cabinetO_calls (y:Eng.Own) (l:List (OL Str)) (s:Str) (i:Bool) (hs:s.length≤4096) (h:OL.ok (y,l) rowC 1) (hr:∀ r∈l,OL.ok r strC 1) (he:(l.map (·.2),i)=rowsR s) (w:World) (hL:Lw Tryz.prog w) (hat:∀ b o,(b,o)∈rwB (y,l)++stRows l→w.heap[b]? = some o):Calls Tryz.prog 53 #[ownV y l.length] w (Grow w [] (fun z:CbX×Bool=>.tuple #[.agg z.1.cells.toArray,.bool z.2]) (fun z=>cbB z.1++[]) (fun z=>CbXOk 10000 z.1∧LinesSay cabX cabLs (rowsR s).1 z.1.pl z.2)):=by
  have e1:LsA.pl (lsA y l)=(rowsR s).1:=by rw [lsA_pl,← he]
  have hk:RowsOk (LsA.pl (lsA y l)):=by rw [e1];exact rows_rok hs
  have h1:=cabinet_calls14 (lsA y l) w (lsA_ok h hr hat) hk hL
  rw [lsA_v h] at h1
  refine calls_mono h1 ?_
  rintro e w' ⟨z,⟨z1,z2,z3⟩,z4,z5⟩
  refine ⟨z,⟨z1,?_⟩,z4,z5⟩
  have h2:=cab_says (ls:=(rowsR s).1) (rows_ne s)
  rw [e1] at z2 z3
  refine ⟨fun h=>?_,fun h=>h2.no (z2 ▸ h)⟩
  rw [z3 h]
  exact h2.yes (z2 ▸ h)
theorem rReadCabinet_calls (s:Str) (hs:s.length≤10000) (W:World) (hL:Lw Tryz.prog W):Calls Tryz.prog 18 #[.string (bs s)] W (Grow W [] (fun z:CbX×Int=>.tuple #[.agg z.1.cells.toArray,.int .i64 z.2]) (fun z=>cbB z.1++[]) (RdX (readX cabStep zeroC cabX cabS s) CbX.pl (CbXOk 10000) zeroCX)):=by
  refine calls_start Tryz.func18 rfl rfl ?_
  refine st ?_
  refine RunL.new (New.alloc zero_30) rfl rfl rfl (fun b2=>?_)
  refine st ?_
  refine lv (Val.lenS rfl und_9) ?_
  refine cn rfl ?_ ?_
  ·intro c0'
   refine st ?_
   refine lv (Val.build (parts:=[]) rfl zero_30 places_30 rfl) ?_
   refine RunL.sto (Sto.store rfl rfl .here ty_30 rfl rfl) rfl rfl ?_
   refine st ?_
   refine RunC.ret ?_
   refine RunE.pass_ret ?_
   exact RunE.retG (zeroCX,3) (.inr ⟨3,read_long (by omega),rfl⟩) (.r2 rfl (.agg rfl (.head _) ty_30 rfl) (.tmp rfl)) rfl (show Pick [] _ from .nil)
  intro c0'
  have hs4:s.length≤4096:=by omega
  refine st ?_
  refine RunL.callNT (isCall_func rfl ent_46) rfl rfl rfl (fun w hm=>grow_news (rows_calls14 s hs w)) (fun z13=>?_)
  obtain ⟨⟨⟨y13,l13⟩,i13⟩,o13,a13,e13⟩:=z13
  dsimp only at a13 e13
  dsimp only [OL.v]
  refine st ?_
  refine cn rfl ?_ ?_
  ·intro c1'
   refine st ?_
   refine lv (Val.build (parts:=[]) rfl zero_30 places_30 rfl) ?_
   refine RunL.sto (Sto.store rfl rfl .here ty_30 rfl rfl) rfl rfl ?_
   refine st ?_
   refine RunC.ret ?_
   refine RunE.pass_ret ?_
   exact RunE.retG (zeroCX,8) (.inr ⟨8,ref_no (x:=zeroC) cab_lines cab_lok cab_ne hs4 (.inl (by rw [← e13];exact c1')),rfl⟩) (.r2 rfl (.agg rfl (.head _) ty_30 rfl) (.tmp rfl)) rfl (show Pick [] _ from .nil)
  intro c1'
  refine st ?_
  refine RunL.callNA [(b2,_)] _ rfl (isCall_func rfl ent_53) rfl rfl rfl (fun w hm=>(grow_news (cabinetO_calls y13 l13 s i13 (by omega) o13 a13 e13 w (hL.mono hm) (fun b o h=>hm.at (by rcases List.mem_append.1 h with h | h <;> simp [h]))))) (fun z21=>?_)
  obtain ⟨⟨x21,i21⟩,o21,f21⟩:=z21
  dsimp only at o21 f21 ⊢
  refine st ?_
  refine RunL.new (New.alloc zero_30) rfl rfl rfl (fun b6=>?_)
  refine RunL.sto (Sto.store (cs:=zsrdC) (cs':=x21.cells) rfl rfl .here ty_30 rfl (paste_over rfl (one_cbX x21))) rfl rfl ?_
  refine st ?_
  refine cn rfl ?_ ?_
  ·intro c2'
   refine st ?_
   refine lv (Val.build (parts:=[]) rfl zero_30 places_30 rfl) ?_
   refine RunL.sto (Sto.store rfl rfl (.there .here) ty_30 rfl rfl) rfl rfl ?_
   refine st ?_
   refine RunC.ret ?_
   refine RunE.pass_ret ?_
   exact RunE.retG (zeroCX,8) (.inr ⟨8,ref_no (x:=x21.pl) cab_lines cab_lok cab_ne hs4 (.inr (c2' ▸ f21)),rfl⟩) (.r2 rfl (.agg rfl (.tail _ (.head _)) ty_30 rfl) (.tmp rfl)) rfl (show Pick [] _ from .nil)
  intro c2'
  refine st ?_
  refine lv (Val.load_agg rfl (.head _) ty_30 rfl) ?_
  refine RunL.sto (Sto.store (cs:=zsrdC) (cs':=x21.cells) rfl rfl (.there .here) ty_30 rfl (paste_over rfl (one_cbX x21))) rfl rfl ?_
  refine st ?_
  refine RunC.ret ?_
  exact RunE.retG (x21,0) (.inl ⟨x21.pl,ref_yes parse_cab cab_lines hs4 (by rw [← e13];exact c1') (c2' ▸ f21),rfl,rfl,o21⟩) (.r2 rfl (.agg rfl (.tail _ (.head _)) ty_30 rfl) (.tmp rfl)) rfl (Pick.cnt fun x=>by simp only [nC];omega)
end Go.Proofs.YtleamcmljcdapaaGreatDoor
namespace Go.Eng
open Go Go.RowKit
theorem RunI.bringT1 {P:Program} {ops:Array Oper} {Q:Exit→Act→World→Prop} {n i:Nat} {K:Act→World→Prop} {r:Regs} {ds:List Deferred} {W:World} {chg news:Blks} (A X1 Y C:Blks) (hn:news=A++(X1++(Y++C))) (h:RunI P ops Q n i K r ds W chg (A++(Y++(X1++C)))):RunI P ops Q n i K r ds W chg news:=by
  subst hn
  exact RunI.keep (Sub.refl _) (Pick.cnt fun x=>by simp only [List.count_append];omega) h
theorem RunI.bringT2 {P:Program} {ops:Array Oper} {Q:Exit→Act→World→Prop} {n i:Nat} {K:Act→World→Prop} {r:Regs} {ds:List Deferred} {W:World} {chg news:Blks} (A X1 X2 Y C:Blks) (hn:news=A++(X1++(X2++(Y++C)))) (h:RunI P ops Q n i K r ds W chg (A++(Y++(X1++(X2++C))))):RunI P ops Q n i K r ds W chg news:=by
  subst hn
  exact RunI.keep (Sub.refl _) (Pick.cnt fun x=>by simp only [List.count_append];omega) h
theorem RunI.bringT3 {P:Program} {ops:Array Oper} {Q:Exit→Act→World→Prop} {n i:Nat} {K:Act→World→Prop} {r:Regs} {ds:List Deferred} {W:World} {chg news:Blks} (A X1 X2 X3 Y C:Blks) (hn:news=A++(X1++(X2++(X3++(Y++C))))) (h:RunI P ops Q n i K r ds W chg (A++(Y++(X1++(X2++(X3++C)))))):RunI P ops Q n i K r ds W chg news:=by
  subst hn
  exact RunI.keep (Sub.refl _) (Pick.cnt fun x=>by simp only [List.count_append];omega) h
theorem RunI.bringT5 {P:Program} {ops:Array Oper} {Q:Exit→Act→World→Prop} {n i:Nat} {K:Act→World→Prop} {r:Regs} {ds:List Deferred} {W:World} {chg news:Blks} (A X1 X2 X3 X4 X5 Y C:Blks) (hn:news=A++(X1++(X2++(X3++(X4++(X5++(Y++C))))))) (h:RunI P ops Q n i K r ds W chg (A++(Y++(X1++(X2++(X3++(X4++(X5++C)))))))):RunI P ops Q n i K r ds W chg news:=by
  subst hn
  exact RunI.keep (Sub.refl _) (Pick.cnt fun x=>by simp only [List.count_append];omega) h
theorem Val.sliceOneC {P:Program} {r:Regs} {W:World} {chg news:Blks} {dst:Option Tmp} {gd:Option (Nat×Bool)} {ty:TypeId} {pos:String} {after:Array Edge} {x:Operand} {T e:TypeId} {b o n cap:Nat} {v:Value} (hx:rev r x=some (.slice (some ⟨b,o,none⟩) n cap)) (hT:slB P T=some (e,1)) (hn:0 < n) (hc:n≤cap) (hv:Value.slice (some ⟨b,if cap=1 then o else o + 1,none⟩) (n - 1) (cap - 1)=v) :
    Val P r W chg news { dst,op:=.slice T x (some (.const (.int .i64 1))) none none,type:=ty,pos,after,guard:=gd } v :=
  ⟨fun a w ha _=>by
    subst hv
    unfold slB at hT
    split at hT
    · rename_i e2 hu
      cases hj:P.info? e2 with
      | none=>simp [hj] at hT
      | some j =>
        simp [hj] at hT
        obtain ⟨rfl,hj1⟩:=hT
        have h4:(1:Int)≤(n:Int):=by omega
        by_cases h1:cap=1
        · have h5:n=1:=by omega
          simp [execOp,ha.eval hx,BigFrame.eval_const,Instr.sliceAt,Instr.sureAddr,Instr.slice,Instr.sliceBounds,Instr.sliceBound,asIntOf,run_underlying hu,sizeOf,typeInfo,hj,h1,h5,add_plain]
        · simp [execOp,ha.eval hx,BigFrame.eval_const,Instr.sliceAt,Instr.sureAddr,Instr.slice,Instr.sliceBounds,Instr.sliceBound,asIntOf,run_underlying hu,sizeOf,typeInfo,hj,h4,h1,hj1,add_plain]
    · cases hT⟩
end Go.Eng
namespace Go.Bk
open Go Go.Eng Go.RowKit
def off1 (y:Eng.Own):Nat:=if ownC y=1 then 0 else 1
def row1C (r:OL Int):List Value:=[.slice (some ⟨ownK r.1,off1 r.1,none⟩) (r.2.length - 1) (ownC r.1 - 1)]
def row1 (r:OL Int):SA Int:=⟨r.2.drop 1,some ⟨ownK r.1,off1 r.1,none⟩,ownK r.1,off1 r.1,ownC r.1 - 1⟩
theorem row1_cell (r:OL Int):SA.cell (row1 r)=row1C r:=by
  show [Value.slice _ (r.2.drop 1).length _]=_
  rw [List.length_drop]
  rfl
theorem row1_flat {l:List (OL Int)} {a:OL Int}:((l++[a]).map row1C).flatten=(l.map row1C).flatten++row1C a:=by simp
theorem row1_ok {r:OL Int} {w:World} (h:OL.ok r intC 1) (hS:Sl w (ownQ r.1) (ownK r.1) 0 1 (r.2.map intC)):(row1 r).ok intC 1 w:=by
  show Sl w (some ⟨ownK r.1,off1 r.1,none⟩) (ownK r.1) (off1 r.1) 1 ((r.2.drop 1).map intC)
  refine ⟨fun _=>rfl,fun x hx=>?_,fun i hi j hj=>?_⟩
  · obtain ⟨y,_,rfl⟩:=List.mem_map.1 hx;rfl
  · have hi2:i + 1 < r.2.length:=by rw [List.length_map,List.length_drop] at hi;omega
    have hc:¬ ownC r.1=1:=fun hc=>by
      obtain ⟨b,c,q,hb,h1,_⟩:=OwnOk.has h (show 0 < r.2.length by omega)
      rw [hb] at hc
      have:c=1:=hc
      omega
    have h2:=hS.cell (i + 1) (by rw [List.length_map];exact hi2) j hj
    have e:off1 r.1=1:=if_neg hc
    rw [e]
    have e2:1 + i * 1 + j=0 + (i + 1) * 1 + j:=by omega
    rw [e2,h2]
    simp only [List.getElem_map,List.getElem_drop,Nat.add_comm 1 i]
structure RyQ where
  terms:OL Tm
  prices:OL Int
  shares:OL (OL Int)
  reports:OL Rp
  paid:OL Int
def RyQ.cells (x:RyQ):List Value:=[ownV x.terms.1 x.terms.2.length,ownV x.prices.1 x.prices.2.length,ownV x.shares.1 x.shares.2.length,ownV x.reports.1 x.reports.2.length,ownV x.paid.1 x.paid.2.length]
def RyQ.pl (x:RyQ):Ry:=⟨x.terms.2,x.prices.2,x.shares.2.map fun r=>r.2.drop 1,x.reports.2,x.paid.2⟩
def RyQ.toA (x:RyQ):RyA:=⟨OL.sa x.terms,OL.sa x.prices,⟨x.shares.2.map row1,ownQ x.shares.1,ownK x.shares.1,0,ownC x.shares.1⟩,OL.sa x.reports,OL.sa x.paid⟩
structure RyQOk (n:Nat) (x:RyQ):Prop where
  terms:x.terms.ok Tm.cells 3
  prices:x.prices.ok intC 1
  shares:x.shares.ok row1C 1
  rows:∀ r∈x.shares.2,OL.ok r intC 1
  reports:x.reports.ok Rp.cells 4
  paid:x.paid.ok intC 1
  f1:x.terms.2.length≤n
  f2:x.prices.2.length≤n
  f3:x.shares.2.length≤n
  f4:x.reports.2.length≤n
  f5:x.paid.2.length≤n
  s3:∀ r∈x.shares.2,r.2.length≤5000
theorem RyQOk.le {n m:Nat} {x:RyQ} (h:RyQOk n x) (hm:n≤m):RyQOk m x:=⟨h.terms,h.prices,h.shares,h.rows,h.reports,h.paid,Nat.le_trans h.f1 hm,Nat.le_trans h.f2 hm,Nat.le_trans h.f3 hm,Nat.le_trans h.f4 hm,Nat.le_trans h.f5 hm,h.s3⟩
theorem RyQOk.agent {n:Nat} {x:RyQ} {z z':Eng.Own} {t:Tm} {p:Int} (h:RyQOk n x) (hz:OwnOk 3 z (x.terms.2.length + 1) ((x.terms.2.map Tm.cells).flatten++t.cells)) (hz':OwnOk 1 z' (x.paid.2.length + 1) ((x.paid.2.map intC).flatten++intC p)):RyQOk (n + 1) ⟨(z,x.terms.2++[t]),x.prices,x.shares,x.reports,(z',x.paid.2++[p])⟩ :=
  ⟨ol_snoc (z:=x.terms.1) hz,h.prices,h.shares,h.rows,h.reports,ol_snoc (z:=x.paid.1) hz',by simp;exact h.f1,Nat.le_succ_of_le h.f2,Nat.le_succ_of_le h.f3,Nat.le_succ_of_le h.f4,by simp;exact h.f5,h.s3⟩
theorem RyQOk.kind {n:Nat} {x:RyQ} {z z':Eng.Own} {p:Int} {r:OL Int} (h:RyQOk n x) (hz:OwnOk 1 z (x.prices.2.length + 1) ((x.prices.2.map intC).flatten++intC p)) (hz':OwnOk 1 z' (x.shares.2.length + 1) ((x.shares.2.map row1C).flatten++row1C r)) (hr:OL.ok r intC 1) (hs:r.2.length≤5000):RyQOk (n + 1) ⟨x.terms,(z,x.prices.2++[p]),(z',x.shares.2++[r]),x.reports,x.paid⟩ :=
  ⟨h.terms,ol_snoc (z:=x.prices.1) hz,ol_snoc (z:=x.shares.1) hz',fun y hy=>(by rcases List.mem_append.1 hy with hy | hy;exact h.rows y hy;simp only [List.mem_singleton] at hy;subst hy;exact hr),h.reports,h.paid,Nat.le_succ_of_le h.f1,by simp;exact h.f2,by simp;exact h.f3,Nat.le_succ_of_le h.f4,Nat.le_succ_of_le h.f5,fun y hy=>(by rcases List.mem_append.1 hy with hy | hy;exact h.s3 y hy;simp only [List.mem_singleton] at hy;subst hy;exact hs)⟩
theorem RyQOk.report {n:Nat} {x:RyQ} {z:Eng.Own} {t:Rp} (h:RyQOk n x) (hz:OwnOk 4 z (x.reports.2.length + 1) ((x.reports.2.map Rp.cells).flatten++t.cells)):RyQOk (n + 1) ⟨x.terms,x.prices,x.shares,(z,x.reports.2++[t]),x.paid⟩ :=
  ⟨h.terms,h.prices,h.shares,h.rows,ol_snoc (z:=x.reports.1) hz,h.paid,Nat.le_succ_of_le h.f1,Nat.le_succ_of_le h.f2,Nat.le_succ_of_le h.f3,by simp;exact h.f4,Nat.le_succ_of_le h.f5,h.s3⟩
theorem RyQOk.cells {n:Nat} {x:RyQ} (h:RyQOk n x):x.toA.cells=x.cells:=by
  have e:x.toA.shares.v=ownV x.shares.1 x.shares.2.length:=by
    unfold SA.v RyQ.toA
    rw [List.length_map]
    exact (ownV_slice h.shares).symm
  show [(OL.sa x.terms).v,(OL.sa x.prices).v,x.toA.shares.v,(OL.sa x.reports).v,(OL.sa x.paid).v]=_
  rw [e,OL.sa_v h.terms,OL.sa_v h.prices,OL.sa_v h.reports,OL.sa_v h.paid]
  rfl
theorem RyQ.toA_pl (x:RyQ):x.toA.pl=x.pl:=by
  show Ry.mk _ _ ((x.shares.2.map row1).map (·.l)) _ _=_
  rw [List.map_map]
  rfl
theorem RyQOk.sm {n:Nat} {x:RyQ} (h:RyQOk n x) (hn:n≤10000):RySm x.toA :=
  ⟨by have:=h.f1;show x.terms.2.length≤10000;omega,by have:=h.f2;show x.prices.2.length≤10000;omega,by have:=h.f3;show (x.shares.2.map row1).length≤10000;rw [List.length_map];omega,fun y hy=>by
    obtain ⟨r,hr,rfl⟩:=List.mem_map.1 hy
    have:=h.s3 r hr
    show (r.2.drop 1).length≤10000
    rw [List.length_drop]
    omega,by have:=h.f4;show x.reports.2.length≤10000;omega,by have:=h.f5;show x.paid.2.length≤10000;omega⟩
def zeroRQ:RyQ:=⟨(none,[]),(none,[]),(none,[]),(none,[]),(none,[])⟩
theorem zeroRQ_ok:RyQOk 0 zeroRQ:=⟨ol_nil,ol_nil,ol_nil,fun r h=>(by cases h),ol_nil,ol_nil,Nat.le_refl _,Nat.le_refl _,Nat.le_refl _,Nat.le_refl _,Nat.le_refl _,fun r h=>(by cases h)⟩
theorem one_ryQ (x:RyQ):∀ v∈x.cells,isOne v=true:=fun v hv=>by
  simp only [RyQ.cells,List.mem_cons,List.not_mem_nil,or_false] at hv
  rcases hv with rfl | rfl | rfl | rfl | rfl <;> exact own_one _ _
theorem rows1_eq (l:List (OL Int)):(l.map row1C)=(l.map row1).map SA.cell:=by
  rw [List.map_map]
  exact List.map_congr_left fun r _=>(row1_cell r).symm
theorem royV_0 {ls:List (List Str)} (h:(ls.getD 0 []).length ≠ 1∨(ls.getD 0 []).getD 0 [] ≠ wRoyal):(royV ls).2=false:=by unfold royV;rw [if_pos h]
theorem run_snoc {α:Type} {step:α→List Str→Option α} {l:List (List Str)} {k:Nat} {x z:α} (hk:k < l.length) {a:List Str} (ha:l[k]=a) (h:runL step z (l.take k)=some x):runL step z (l.take (k + 1))=step x a:=by
  rw [List.take_succ_eq_append_getElem hk,runL_app,h,ha]
  dsimp only
  rw [runL]
  cases step x a <;> rfl
theorem run_none {α:Type} {step:α→List Str→Option α} {l:List (List Str)} {k:Nat} {x z:α} (hk:k < l.length) {a:List Str} (ha:l[k]=a) (h:runL step z (l.take k)=some x) (hn:step x a=none):runL step z l=none:=by
  have e:l=l.take k++(a::l.drop (k + 1)):=by rw [← ha,← List.drop_eq_getElem_cons hk,List.take_append_drop]
  rw [e,runL_app,h]
  dsimp only
  rw [runL,hn]
theorem royV_no {ls:List (List Str)} (h:runL royStepR zeroR (ls.drop 1)=none):(royV ls).2=false:=by
  unfold royV
  split
  · rfl
  · rw [h]
theorem royV_yes {ls:List (List Str)} (h0:¬ ((ls.getD 0 []).length ≠ 1∨(ls.getD 0 []).getD 0 [] ≠ wRoyal)) {r:Ry} (h:runL royStepR zeroR (ls.drop 1)=some r):royV ls=(r,royalX r):=by
  unfold royV
  rw [if_neg h0,h]
theorem drop_at {ls:List (List Str)} {k:Nat} (hk:1 + k < ls.length) {q:List Str} (hq:ls.getD (1 + k) []=q):(ls.drop 1)[k]'(by rw [List.length_drop];omega)=q:=by
  rw [← hq,List.getElem_drop,List.getD_eq_getElem?_getD,List.getElem?_eq_getElem (by omega)]
  rfl
theorem getD1 {l:List Str} {v:Str} {h:0 < l.length} (e:l[0]=v):l.getD 0 []=v:=by rw [List.getD_eq_getElem?_getD,List.getElem?_eq_getElem h,e];rfl
theorem tm_flat {l:List Tm} {a:Tm}:((l++[a]).map Tm.cells).flatten=(l.map Tm.cells).flatten++a.cells:=by simp
theorem rp_flat {l:List Rp} {a:Rp}:((l++[a]).map Rp.cells).flatten=(l.map Rp.cells).flatten++a.cells:=by simp
theorem int_flat {l:List Int} {a:Int}:((l++[a]).map intC).flatten=(l.map intC).flatten++intC a:=by simp
theorem stepR_no1 {x:Ry} {l:List Str} {v:Str} (hv:l.getD 0 []=v) {ns:List Int} (e:(ns,false)=lineV numO l v):royStepR x l=none:=by
  unfold royStepR
  rw [hv,← e,if_pos rfl]
theorem stepR_a {x:Ry} {l:List Str} {v:Str} (hv:l.getD 0 []=v) {a b c d:Int} (e:([a,b,c,d],true)=lineV numO l v) (h1:v=wAgent) (h2:x.prices.length=0) (h3:x.reports.length=0):royStepR x l=some { x with terms:=x.terms++[⟨a,b,c⟩],paid:=x.paid++[d] }:=by
  unfold royStepR
  rw [hv,← e,if_neg (by simp),if_pos ⟨h1,rfl,h2,h3⟩]
  rfl
theorem stepR_k {x:Ry} {l:List Str} {v:Str} (hv:l.getD 0 []=v) {ns:List Int} {n:Int} (e:(n::ns,true)=lineV numO l v) (h1:v=wKind) (h3:x.reports.length=0):royStepR x l=some { x with prices:=x.prices++[n],shares:=x.shares++[ns] }:=by
  unfold royStepR
  rw [hv,← e,if_neg (by simp),if_neg (fun h=>absurd (h1.symm.trans h.1) (show ¬ wKind=wAgent by decide)),if_pos ⟨h1,by simp,h3⟩]
  rfl
theorem stepR_r {x:Ry} {l:List Str} {v:Str} (hv:l.getD 0 []=v) {a b c d:Int} (e:([a,b,c,d],true)=lineV numO l v) (h1:v=wReport):royStepR x l=some { x with reports:=x.reports++[⟨a,b,c,d⟩] }:=by
  unfold royStepR
  rw [hv,← e,if_neg (by simp),if_neg (fun h=>absurd (h1.symm.trans h.1) (show ¬ wReport=wAgent by decide)),if_neg (fun h=>absurd (h1.symm.trans h.1) (show ¬ wReport=wKind by decide)),if_pos ⟨h1,rfl⟩]
  rfl
theorem stepR_no {x:Ry} {l:List Str} {v:Str} (hv:l.getD 0 []=v) {ns:List Int} (e:(ns,true)=lineV numO l v) (h1:¬ (v=wAgent∧ns.length=4∧x.prices.length=0∧x.reports.length=0)) (h2:¬ (v=wKind∧0 < ns.length∧x.reports.length=0)) (h3:¬ (v=wReport∧ns.length=4)):royStepR x l=none:=by
  unfold royStepR
  rw [hv,← e,if_neg (by simp),if_neg h1,if_neg h2,if_neg h3]
end Go.Bk
namespace Go.Proofs.YtleamcmljcdapaaGreatDoor
open Go Go.Eng Go.Bk Go.RowKit

def ryQB (x:RyQ):Blks:=tmB x.terms++(inB x.paid++(inB x.prices++(ownB 27 x.shares.1 (x.shares.2.map row1C).flatten++(inRows x.shares.2++rpB x.reports))))
theorem ryQ_ok {n:Nat} {x:RyQ} {w W0:World} {tl:Blks} (h:RyQOk n x) (hm:Mem W0 [] (ryQB x++tl) w):RyOk w x.toA:=by
  have hat:∀ b o,(b,o)∈ryQB x→w.heap[b]? = some o:=fun b o hb=>(hm.newd b o (List.mem_append_left _ hb)).2
  unfold ryQB at hat
  refine ⟨own_sl (f:=Tm.cells) (e:=109) (fun _=>rfl) (by decide) h.terms fun b o hb=>hat b o (List.mem_append_left _ hb),in_ok h.prices fun b o hb=>hat b o (List.mem_append_right _ (List.mem_append_right _ (List.mem_append_left _ hb))),?_,fun y hy=>?_,
    own_sl (f:=Rp.cells) (e:=111) (fun _=>rfl) (by decide) h.reports fun b o hb=>hat b o (List.mem_append_right _ (List.mem_append_right _ (List.mem_append_right _ (List.mem_append_right _ (List.mem_append_right _ hb))))),in_ok h.paid fun b o hb=>hat b o (List.mem_append_right _ (List.mem_append_left _ hb))⟩
  · show Sl w (ownQ x.shares.1) (ownK x.shares.1) 0 1 ((x.shares.2.map row1).map SA.cell)
    rw [← rows1_eq]
    exact own_sl (f:=row1C) (e:=27) (fun _=>rfl) (by decide) h.shares (fun b o hb=>hat b o (List.mem_append_right _ (List.mem_append_right _ (List.mem_append_right _ (List.mem_append_left _ hb)))))
  · obtain ⟨r,hr,rfl⟩:=List.mem_map.1 hy
    refine row1_ok (h.rows r hr) (own_sl (f:=intC) (e:=3) (fun _=>rfl) (by decide) (h.rows r hr) fun b o hb=>hat b o ?_)
    refine List.mem_append_right _ (List.mem_append_right _ (List.mem_append_right _ (List.mem_append_right _ (List.mem_append_left _ ?_))))
    exact List.mem_flatten.2 ⟨_,List.mem_map.2 ⟨r,hr,rfl⟩,hb⟩
theorem rRoyQ_calls (x:RyQ) (h:RyQOk 10000 x) (tl:Blks) (W0 w:World) (hm:Mem W0 [] (ryQB x++tl) w):Calls Tryz.prog 35 #[.agg x.cells.toArray] w (Pure (.bool (royalX x.pl)) w):=by
  have h1:=rRoyal_calls x.toA (h.sm (Nat.le_refl _)) w (ryQ_ok h hm)
  rw [RyQ.toA_pl] at h1
  have e:x.toA.v = .agg x.cells.toArray:=by unfold RyA.v;rw [h.cells]
  rw [e] at h1
  exact h1
end Go.Proofs.YtleamcmljcdapaaGreatDoor
namespace Go.Proofs.YtleamcmljcdapaaGreatDoor
open Go Go.Eng
theorem ent_57:Enters Tryz.prog 57:=enters_of Tryz.func57 (by kernel_rfl) rfl
end Go.Proofs.YtleamcmljcdapaaGreatDoor
namespace Go.Proofs.YtleamcmljcdapaaGreatDoor
open Go Go.Eng Go.Bk Go.RowKit

set_option maxHeartbeats 4000000 in
theorem royal_calls14 (ls:LsA) (W:World) (h0:0 < ls.l.length) (hx:LsOk W ls) (hr:RowsOk (LsA.pl ls)) (hL:Lw Tryz.prog W):Calls Tryz.prog 57 #[ls.v] W (Grow W [] (fun z:RyQ×Bool=>.tuple #[.agg z.1.cells.toArray,.bool z.2]) (fun z=>ryQB z.1++[]) (fun z=>RyQOk 10000 z.1∧z.2=(royV (LsA.pl ls)).2∧(z.2=true→z.1.pl=(royV (LsA.pl ls)).1))):=by
  have hpl:=pl_len ls
  have hfew:=hr.few
  rw [hpl] at hfew
  obtain ⟨r0,hr0⟩:∃ r,ls.l[0]=r:=⟨_,rfl⟩
  have hr0m:r0∈ls.l:=hr0 ▸ List.getElem_mem h0
  have hp0:0 < r0.l.length:=hr.pos (pl_mem hr0m)
  have hr0l:=hr.len _ (pl_mem hr0m)
  obtain ⟨w0,hw0⟩:∃ y,r0.l[0]=y:=⟨_,rfl⟩
  refine calls_start Tryz.func57 rfl rfl ?_
  refine st ?_
  refine RunL.new (New.alloc zero_35) rfl rfl rfl (fun b2=>?_)
  refine st ?_
  refine RunL.new (New.alloc zero_35) rfl rfl rfl (fun b4=>?_)
  refine st ?_
  refine lv (Val.indexAddr_slp rfl rfl sl_84 (by omega) (by omega) (Sl.ptrM hx.rows h0)) ?_
  refine lv (Val.load_gen rfl (fun w hm=>Sl.loadM1 hx.rows (by decide) hm (by simp) ty_166 (h0) (v:=r0.v) (by simp [SA.cell,hr0]))) ?_
  refine lv (Val.len_sl rfl sl_166) ?_
  refine RunL.orPart (dj:=13) (dp:=20) 7 rfl (fun g13=>by
    have g13':=g13
    try simp only [nH] at g13'
    refine st ?_
    refine lv (Val.indexAddr_slp rfl rfl sl_84 (by omega) (by omega) (Sl.ptrM hx.rows h0)) ?_
    refine lv (Val.load_gen rfl (fun w hm=>Sl.loadM1 hx.rows (by decide) hm (by simp) ty_166 (h0) (v:=r0.v) (by simp [SA.cell,hr0]))) ?_
    refine lv (Val.indexAddr_slp rfl rfl sl_166 (by omega) (by omega) (Sl.ptrM (hx.each r0 hr0m) hp0)) ?_
    refine lv (Val.load_gen rfl (fun w hm=>Sl.loadM1 (hx.each r0 hr0m) (by decide) hm (by simp) ty_9 hp0 (v:=.string (bs w0)) (by simp [strC,hw0]))) ?_
    refine RunL.val (Val.neqStr rfl rfl) rfl rfl rfl ?_
    refine sv ?_
    exact RunL.segEnd (Sub.cons rfl (Sub.skip rfl (Sub.skip rfl (Sub.skip rfl (Sub.skip rfl (Sub.skip rfl (Sub.skip rfl (Sub.skip rfl (Sub.same rfl (by rw [g13]) (Sub.refl _)))))))))) (List.Sublist.refl _)
  ) (fun g13=>by
    have g13':=g13
    try simp only [nH] at g13'
    iterate 6 refine RunL.no rfl rfl rfl ?_
    refine sv ?_
    exact RunL.segEnd (Sub.cons rfl (Sub.skip rfl (Sub.skip rfl (Sub.skip rfl (Sub.skip rfl (Sub.skip rfl (Sub.skip rfl (Sub.skip rfl (Sub.same rfl (by rw [g13]) (Sub.refl _)))))))))) (List.Sublist.refl _)
  ) ?_
  refine st ?_
  refine cn rfl ?_ ?_
  ·intro c0'
   refine st ?_
   refine lv (Val.load_agg rfl (.head _) ty_35 rfl) ?_
   refine RunL.sto (Sto.store rfl rfl (.there .here) ty_35 rfl rfl) rfl rfl ?_
   refine st ?_
   refine RunC.ret ?_
   refine RunE.pass_ret ?_
   exact RunE.retG (zeroRQ,false) ⟨zeroRQ_ok.le (by decide),(royV_0 (by rw [pl_getD h0 hr0];rcases c0' with h | h;exact .inl (by omega);exact .inr (fun e=>h ((getD1 (h:=hp0) hw0).symm.trans e)))).symm,fun h=>by cases h⟩ (.r2 rfl (.agg rfl (.tail _ (.head _)) ty_35 rfl) (.tmp rfl)) rfl (show Pick [] _ from .nil)
  intro c0'
  have hroy:¬ (((LsA.pl ls).getD 0 []).length ≠ 1∨((LsA.pl ls).getD 0 []).getD 0 [] ≠ wRoyal):=(by rw [pl_getD h0 hr0];rintro (h | h);exact h (by omega);exact h ((getD1 (h:=hp0) hw0).trans c0'.2))
  refine st ?_
  refine RunC.loopX (X:=RyQ) (n0:=[(b2,_)]) (ls.l.length - 1) (fun k x q=>(5,.int .i64 ((1 + k:Nat):Int))::q) (fun _ _=>_) (fun k x=>[(b4,.cells [ownV x.terms.1 x.terms.2.length,ownV x.prices.1 x.prices.2.length,ownV x.shares.1 x.shares.2.length,ownV x.reports.1 x.reports.2.length,ownV x.paid.1 x.paid.2.length].toArray 35 (0,0))]) (fun k x=>(ownB 109 x.terms.1 (x.terms.2.map Tm.cells).flatten++(ownB 3 x.paid.1 (x.paid.2.map intC).flatten++(ownB 3 x.prices.1 (x.prices.2.map intC).flatten++(ownB 27 x.shares.1 (x.shares.2.map row1C).flatten++(inRows x.shares.2++(ownB 111 x.reports.1 (x.reports.2.map Rp.cells).flatten++[]))))))) (fun k x=>RyQOk k x∧runL royStepR zeroR (((LsA.pl ls).drop 1).take k)=some x.pl) zeroRQ ⟨zeroRQ_ok,rfl⟩ rfl (Sub.consE (t:=5) rfl rfl (Sub.cons (t:=0) rfl (Sub.cons (t:=2) rfl (Sub.cons (t:=4) rfl (Sub.nil _))))) (.cons .here rfl (.cons .here rfl (Pick.same rfl))) ?_
  intro k x kN kI
  obtain ⟨⟨to,tl⟩,⟨po,pl⟩,⟨so,sl⟩,⟨ro,rl⟩,⟨ao,al⟩⟩:=x
  obtain ⟨hq,kI2⟩:=kI
  dsimp only
  have q1:=hq.f1
  have q2:=hq.f2
  have q3:=hq.f3
  have q4:=hq.f4
  have q5:=hq.f5
  dsimp only at q1 q2 q3 q4 q5
  refine st ?_
  refine lv (Val.len_sl rfl sl_84) ?_
  refine cn rfl ?_ ?_
  ·intro c1'
   have hk:1 + k < ls.l.length:=by omega
   obtain ⟨r2,hr2⟩:∃ r,ls.l[1 + k]=r:=⟨_,rfl⟩
   have hr2m:r2∈ls.l:=hr2 ▸ List.getElem_mem hk
   have hg2:=pl_getD hk hr2
   have h20:0 < r2.l.length:=hr.pos (pl_mem hr2m)
   have h2l:=hr.len _ (pl_mem hr2m)
   obtain ⟨v0,hv0⟩:∃ y,r2.l[0]=y:=⟨_,rfl⟩
   have hgv:r2.l.getD 0 []=v0:=getD1 hv0
   have hk9:1 + k < (LsA.pl ls).length:=(by rw [hpl];exact hk)
   have hk1:k < ((LsA.pl ls).drop 1).length:=(by rw [List.length_drop];omega)
   have hat:=drop_at hk9 hg2
   refine st ?_
   refine RunC.draw 15 fol_ (.cons .here rfl (.cons .here rfl .nil)) ?_
   refine va 0 rfl (Val.pure rfl) rfl rfl rfl (.cons .here rfl (.cons .here rfl .nil)) rfl ?_
   refine va 1 rfl (Val.pure rfl) rfl rfl rfl (.cons .here rfl (.cons .here rfl .nil)) rfl ?_
   refine va 2 rfl (Val.indexAddr_slp rfl rfl sl_84 (by omega) (by omega) (Sl.ptrM hx.rows hk)) rfl rfl rfl (.cons .here rfl (.cons .here rfl .nil)) rfl ?_
   refine va 3 rfl (Val.load_gen rfl (fun w hm=>Sl.loadM1 hx.rows (by decide) hm (by simp) ty_166 (hk) (v:=r2.v) (by simp [SA.cell,hr2]))) rfl rfl rfl (.cons .here rfl (.cons .here rfl .nil)) rfl ?_
   refine va 4 rfl (Val.pure rfl) rfl rfl rfl (.cons .here rfl (.cons .here rfl .nil)) rfl ?_
   refine va 5 rfl (Val.pure rfl) rfl rfl rfl (.cons .here rfl (.cons .here rfl .nil)) rfl ?_
   refine va 6 rfl (Val.indexAddr_slp rfl rfl sl_84 (by omega) (by omega) (Sl.ptrM hx.rows hk)) rfl rfl rfl (.cons .here rfl (.cons .here rfl .nil)) rfl ?_
   refine va 7 rfl (Val.load_gen rfl (fun w hm=>Sl.loadM1 hx.rows (by decide) hm (by simp) ty_166 (hk) (v:=r2.v) (by simp [SA.cell,hr2]))) rfl rfl rfl (.cons .here rfl (.cons .here rfl .nil)) rfl ?_
   refine va 8 rfl (Val.indexAddr_slp rfl rfl sl_166 (by omega) (by omega) (Sl.ptrM (hx.each r2 hr2m) h20)) rfl rfl rfl (.cons .here rfl (.cons .here rfl .nil)) rfl ?_
   refine va 9 rfl (Val.load_gen rfl (fun w hm=>Sl.loadM1 (hx.each r2 hr2m) (by decide) hm (by simp) ty_9 h20 (v:=.string (bs v0)) (by simp [strC,hv0]))) rfl rfl rfl (.cons .here rfl (.cons .here rfl .nil)) rfl ?_
   refine RunA.one (i:=10) (by kernel_rfl) (by kernel_rfl) ?_
   refine RunI.callNA [(b4,_),(b2,_)] _ rfl rfl (isCall_func rfl ent_106) rfl rfl rfl (fun w hm=>(grow_news (readNums_calls14 r2 w (SA.ok.mono0 (hx.each r2 hr2m) (by decide) hm) h20 (by omega) v0 (hL.mono hm)))) (fun z39=>(RunK.toA (.cons .here rfl (.cons .here rfl .nil)) (.cons .here rfl (.cons .here rfl .nil)) rfl ?_))
   obtain ⟨⟨⟨y39,l39⟩,i39⟩,o39,e39⟩:=z39
   dsimp only at e39
   have hy39:OL.ok (y39,l39) intC 1:=o39
   have hl39:l39.length≤5000:=Nat.le_trans (lineV_len e39) h2l
   dsimp only [OL.v]
   refine va 11 rfl (Val.pure rfl) rfl rfl rfl (.cons .here rfl (.cons .here rfl .nil)) rfl ?_
   refine va 12 rfl (Val.pure rfl) rfl rfl rfl (.cons .here rfl (.cons .here rfl .nil)) rfl ?_
   refine va 13 rfl (Val.pure rfl) rfl rfl rfl (.cons .here rfl (.cons .here rfl .nil)) rfl ?_
   refine va 14 rfl (Val.pure rfl) rfl rfl rfl (.cons .here rfl (.cons .here rfl .nil)) rfl ?_
   refine RunA.toB (by kernel_rfl) ?_
   refine RunB.one (i:=15) (by kernel_rfl) ?_
   refine RunI.val rfl (Val.pure rfl) rfl rfl rfl (RunK.toB ?_)
   refine RunB.done (by kernel_rfl) ?_
   refine st ?_
   refine cn rfl ?_ ?_
   ·intro c2'
    subst c2'
    have hno:=royV_no (run_none hk1 hat kI2 (stepR_no1 hgv e39))
    refine st ?_
    refine lv (Val.load_agg rfl (.head _) ty_35 rfl) ?_
    refine RunL.sto (Sto.store (cs:=zsrdR) (cs':=(RyQ.mk (to,tl) (po,pl) (so,sl) (ro,rl) (ao,al)).cells) rfl rfl (.there .here) ty_35 rfl (paste_over rfl (one_ryQ (RyQ.mk (to,tl) (po,pl) (so,sl) (ro,rl) (ao,al))))) rfl rfl ?_
    refine st ?_
    refine RunC.ret ?_
    refine RunE.pass_ret ?_
    refine RunE.block_ret ?_
    refine RunE.pass_ret ?_
    refine RunE.pass_ret ?_
    refine RunE.block_ret ?_
    refine RunE.pass_ret ?_
    exact RunE.retG ((RyQ.mk (to,tl) (po,pl) (so,sl) (ro,rl) (ao,al)),false) ⟨hq.le (by omega),hno.symm,fun h=>by cases h⟩ (.r2 rfl (.agg rfl (.tail _ (.head _)) ty_35 rfl) (.tmp rfl)) rfl (Pick.cnt fun x=>by simp only [nC,List.nil_append,List.append_nil,ryQB,tmB,inB,rpB,ownB_none,ownB_some14,tm_flat,rp_flat,int_flat,row1_flat,inRows_snoc];omega)
   intro c2'
   subst c2'
   refine st ?_
   refine lv (Val.indexAddr_slp rfl rfl sl_84 (by omega) (by omega) (Sl.ptrM hx.rows hk)) ?_
   refine lv (Val.load_gen rfl (fun w hm=>Sl.loadM1 hx.rows (by decide) hm (by simp) ty_166 (hk) (v:=r2.v) (by simp [SA.cell,hr2]))) ?_
   refine lv (Val.indexAddr_slp rfl rfl sl_166 (by omega) (by omega) (Sl.ptrM (hx.each r2 hr2m) h20)) ?_
   refine lv (Val.load_gen rfl (fun w hm=>Sl.loadM1 (hx.each r2 hr2m) (by decide) hm (by simp) ty_9 h20 (v:=.string (bs v0)) (by simp [strC,hv0]))) ?_
   refine lv (Val.eqlStr rfl rfl) ?_
   refine RunL.andPart (dj:=54) (dp:=58) 4 rfl (fun g54=>by
     have g54':=g54
     try simp only [nH] at g54'
     refine st ?_
     refine RunL.val (Val.len_own rfl sl_27 hy39) rfl rfl rfl ?_
     refine sv ?_
     exact RunL.segEnd (Sub.cons rfl (Sub.skip rfl (Sub.skip rfl (Sub.skip rfl (Sub.skip rfl (Sub.same rfl (by rw [g54]) (Sub.refl _))))))) (List.Sublist.refl _)
   ) (fun g54=>by
     have g54':=g54
     try simp only [nH] at g54'
     iterate 3 refine RunL.no rfl rfl rfl ?_
     refine sv ?_
     exact RunL.segEnd (Sub.cons rfl (Sub.skip rfl (Sub.skip rfl (Sub.skip rfl (Sub.skip rfl (Sub.same rfl (by rw [g54]) (Sub.refl _))))))) (List.Sublist.refl _)
   ) ?_
   refine st ?_
   refine RunL.andPart (dj:=59) (dp:=64) 5 rfl (fun g59=>by
     have g59':=g59
     try simp only [nH] at g59'
     refine lv (Val.fieldAddr rfl fld_35_1) ?_
     refine lv (Val.load_one rfl (.head _) ty_27 rfl) ?_
     refine RunL.val (Val.len_own rfl sl_27 hq.prices) rfl rfl rfl ?_
     refine sv ?_
     exact RunL.segEnd (Sub.cons rfl (Sub.skip rfl (Sub.skip rfl (Sub.skip rfl (Sub.skip rfl (Sub.skip rfl (Sub.same rfl (by rw [g59]) (Sub.refl _)))))))) (List.Sublist.refl _)
   ) (fun g59=>by
     have g59':=g59
     try simp only [nH] at g59'
     iterate 4 refine RunL.no rfl rfl rfl ?_
     refine sv ?_
     exact RunL.segEnd (Sub.cons rfl (Sub.skip rfl (Sub.skip rfl (Sub.skip rfl (Sub.skip rfl (Sub.skip rfl (Sub.same rfl (by rw [g59]) (Sub.refl _)))))))) (List.Sublist.refl _)
   ) ?_
   refine st ?_
   refine RunL.andPart (dj:=65) (dp:=70) 5 rfl (fun g65=>by
     have g65':=g65
     try simp only [nH] at g65'
     refine lv (Val.fieldAddr rfl fld_35_3) ?_
     refine lv (Val.load_one rfl (.head _) ty_33 rfl) ?_
     refine RunL.val (Val.len_own rfl sl_33 hq.reports) rfl rfl rfl ?_
     refine sv ?_
     exact RunL.segEnd (Sub.cons rfl (Sub.skip rfl (Sub.skip rfl (Sub.skip rfl (Sub.skip rfl (Sub.skip rfl (Sub.same rfl (by rw [g65]) (Sub.refl _)))))))) (List.Sublist.refl _)
   ) (fun g65=>by
     have g65':=g65
     try simp only [nH] at g65'
     iterate 4 refine RunL.no rfl rfl rfl ?_
     refine sv ?_
     exact RunL.segEnd (Sub.cons rfl (Sub.skip rfl (Sub.skip rfl (Sub.skip rfl (Sub.skip rfl (Sub.skip rfl (Sub.same rfl (by rw [g65]) (Sub.refl _)))))))) (List.Sublist.refl _)
   ) ?_
   refine st ?_
   refine cn rfl ?_ ?_
   ·intro c3'
    obtain ⟨⟨⟨hv1,hv2⟩,hv3⟩,hv4⟩:=c3'
    obtain ⟨na,nb,nc,nd,rfl⟩:=four (show l39.length=4 by omega)
    have hst:=stepR_a (x:=RyQ.pl (RyQ.mk (to,tl) (po,pl) (so,sl) (ro,rl) (ao,al))) hgv e39 hv1 (by show pl.length=0;omega) (by show rl.length=0;omega)
    obtain ⟨by39,cy39,ry39,rfl,ly391,ly392,ly393⟩:=hy39.has (by simp)
    refine RunC.drawX (X:=Eng.Own×Eng.Own) 22 (n0:=[(by39,_),(b2,_)]) (fun o q=>q) (fun o=>[]) (fun o=>[(b4,.cells [ownV o.1 (tl.length + 1),ownV po pl.length,ownV so sl.length,ownV ro rl.length,ownV o.2 (al.length + 1)].toArray 35 (0,0))]) (fun o=>(ownB 109 o.1 ((tl++[(⟨na,nb,nc⟩:Tm)]).map Tm.cells).flatten++(ownB 3 o.2 ((al++[nd]).map intC).flatten++(ownB 3 po (pl.map intC).flatten++(ownB 27 so (sl.map row1C).flatten++(inRows sl++(ownB 111 ro (rl.map Rp.cells).flatten++[]))))))) (fun o=>OwnOk 3 o.1 (tl.length + 1) ((tl.map Tm.cells).flatten++(Tm.mk na nb nc).cells)∧OwnOk 1 o.2 (al.length + 1) ((al.map intC).flatten++intC nd)) fol_ (.cons .here rfl (.cons .here rfl (.cons .here rfl .nil))) (Sub.cons (t:=0) rfl (Sub.cons (t:=2) rfl (Sub.cons (t:=4) rfl (Sub.cons (t:=5) rfl (Sub.nil _))))) (.cons (.there (.there .here)) rfl (.cons (.there .here) rfl .nil)) ?_ ?_
    ·refine va 0 rfl (Val.fieldAddr rfl fld_35_0) rfl rfl rfl (.cons .here rfl (.cons .here rfl (.cons .here rfl .nil))) rfl ?_
     refine va 1 rfl (Val.load_one rfl (.head _) ty_31 rfl) rfl rfl rfl (.cons .here rfl (.cons .here rfl (.cons .here rfl .nil))) rfl ?_
     refine va 2 rfl (Val.pure rfl) rfl rfl rfl (.cons .here rfl (.cons .here rfl (.cons .here rfl .nil))) rfl ?_
     refine va 3 rfl (Val.indexAddr_sl rfl rfl sl_27 (by omega) (by omega)) rfl rfl rfl (.cons .here rfl (.cons .here rfl (.cons .here rfl .nil))) rfl ?_
     refine va 4 rfl (Val.load_gen rfl (fun w hm=>Sl.loadM1 (Sl.rowsR (xs:=[na,nb,nc,nd].map intC) (t:=ry39) (hm.at (.tail _ (.tail _ (.head _)))) (fun x hx=>by obtain ⟨y,_,rfl⟩:=List.mem_map.1 hx;rfl):Sl w _ by39 0 1 ([na,nb,nc,nd].map intC)) (by decide) (Mem.refl w) (by simp) ty_3 (i:=0) (by simp) (v:=.int .i64 na) (by simp [intC]))) rfl rfl rfl (.cons .here rfl (.cons .here rfl (.cons .here rfl .nil))) rfl ?_
     refine va 5 rfl (Val.pure rfl) rfl rfl rfl (.cons .here rfl (.cons .here rfl (.cons .here rfl .nil))) rfl ?_
     refine va 6 rfl (Val.indexAddr_sl rfl rfl sl_27 (by omega) (by omega)) rfl rfl rfl (.cons .here rfl (.cons .here rfl (.cons .here rfl .nil))) rfl ?_
     refine va 7 rfl (Val.load_gen rfl (fun w hm=>Sl.loadM1 (Sl.rowsR (xs:=[na,nb,nc,nd].map intC) (t:=ry39) (hm.at (.tail _ (.tail _ (.head _)))) (fun x hx=>by obtain ⟨y,_,rfl⟩:=List.mem_map.1 hx;rfl):Sl w _ by39 0 1 ([na,nb,nc,nd].map intC)) (by decide) (Mem.refl w) (by simp) ty_3 (i:=1) (by simp) (v:=.int .i64 nb) (by simp [intC]))) rfl rfl rfl (.cons .here rfl (.cons .here rfl (.cons .here rfl .nil))) rfl ?_
     refine va 8 rfl (Val.pure rfl) rfl rfl rfl (.cons .here rfl (.cons .here rfl (.cons .here rfl .nil))) rfl ?_
     refine va 9 rfl (Val.indexAddr_sl rfl rfl sl_27 (by omega) (by omega)) rfl rfl rfl (.cons .here rfl (.cons .here rfl (.cons .here rfl .nil))) rfl ?_
     refine va 10 rfl (Val.load_gen rfl (fun w hm=>Sl.loadM1 (Sl.rowsR (xs:=[na,nb,nc,nd].map intC) (t:=ry39) (hm.at (.tail _ (.tail _ (.head _)))) (fun x hx=>by obtain ⟨y,_,rfl⟩:=List.mem_map.1 hx;rfl):Sl w _ by39 0 1 ([na,nb,nc,nd].map intC)) (by decide) (Mem.refl w) (by simp) ty_3 (i:=2) (by simp) (v:=.int .i64 nc) (by simp [intC]))) rfl rfl rfl (.cons .here rfl (.cons .here rfl (.cons .here rfl .nil))) rfl ?_
     refine va 11 rfl (Val.build (parts:=[(0,.tmp 75),(1,.tmp 78),(2,.tmp 81)]) rfl zero_109 places_109 rfl) rfl rfl rfl (.cons .here rfl (.cons .here rfl (.cons .here rfl .nil))) rfl ?_
     refine va 14 rfl (Val.fieldAddr rfl fld_35_4) rfl rfl rfl (.cons .here rfl (.cons .here rfl (.cons .here rfl .nil))) rfl ?_
     refine va 15 rfl (Val.load_one rfl (.head _) ty_27 rfl) rfl rfl rfl (.cons .here rfl (.cons .here rfl (.cons .here rfl .nil))) rfl ?_
     refine va 16 rfl (Val.pure rfl) rfl rfl rfl (.cons .here rfl (.cons .here rfl (.cons .here rfl .nil))) rfl ?_
     refine va 17 rfl (Val.indexAddr_sl rfl rfl sl_27 (by omega) (by omega)) rfl rfl rfl (.cons .here rfl (.cons .here rfl (.cons .here rfl .nil))) rfl ?_
     refine va 18 rfl (Val.load_gen rfl (fun w hm=>Sl.loadM1 (Sl.rowsR (xs:=[na,nb,nc,nd].map intC) (t:=ry39) (hm.at (.tail _ (.tail _ (.head _)))) (fun x hx=>by obtain ⟨y,_,rfl⟩:=List.mem_map.1 hx;rfl):Sl w _ by39 0 1 ([na,nb,nc,nd].map intC)) (by decide) (Mem.refl w) (by simp) ty_3 (i:=3) (by simp) (v:=.int .i64 nd) (by simp [intC]))) rfl rfl rfl (.cons .here rfl (.cons .here rfl (.cons .here rfl .nil))) rfl ?_
     refine RunA.all (rs:=[12,19]) (by kernel_rfl) (by simp) (by kernel_rfl) (fun m hm=>?_)
     simp only [List.mem_cons,List.not_mem_nil,or_false] at hm
     rcases hm with rfl | rfl
     ·refine RunI.new rfl (New.buildSlice (parts:=[(0,.tmp 82)]) rfl sl_31 zero_109 rfl rfl rfl rfl) rfl rfl rfl (fun b83=>(RunK.toA (.cons .here rfl (.cons .here rfl (.cons .here rfl (.cons .here rfl .nil)))) (.cons (.there .here) rfl (.cons (.there .here) rfl (.cons (.there .here) rfl .nil))) rfl ?_))
      refine RunA.all (rs:=[13,19]) (by kernel_rfl) (by simp) (by kernel_rfl) (fun m hm=>?_)
      simp only [List.mem_cons,List.not_mem_nil,or_false] at hm
      rcases hm with rfl | rfl
      ·refine RunI.append (A:=[(b83,_),(b4,_),(b2,_),(by39,_)]) (B:=_) (x:=to) (ys:=(Tm.mk na nb nc).cells) rfl ap_31 rfl rfl rfl hq.terms rfl (fun h=>by cases h) (fun w hm=>src_blk (hm.at (.head _))) (one_of rfl) (by simp only [maxLen];show tl.length + 1≤_;omega) (by show (tl.length + 1) * 24≤140737488355328;omega) rfl (fun z84 hz84=>(RunK.toA (.cons .here rfl (.cons .here rfl (.cons .here rfl (.cons .here rfl .nil)))) (.cons .here rfl (.cons .here rfl (.cons .here rfl (.cons .here rfl .nil)))) rfl ?_))
       refine va 21 rfl (Val.fieldAddr rfl fld_35_0) rfl rfl rfl (.cons .here rfl (.cons .here rfl (.cons .here rfl (.cons .here rfl .nil)))) rfl ?_
       refine RunA.one (i:=19) (by kernel_rfl) (by kernel_rfl) ?_
       refine RunI.new rfl (New.buildSlice (parts:=[(0,.tmp 89)]) rfl sl_27 zero_3 rfl rfl rfl rfl) rfl rfl rfl (fun b90=>(RunK.toA (.cons .here rfl (.cons .here rfl (.cons .here rfl (.cons .here rfl (.cons .here rfl .nil))))) (.cons (.there .here) rfl (.cons (.there .here) rfl (.cons (.there .here) rfl (.cons (.there .here) rfl .nil)))) rfl ?_))
       refine RunA.one (i:=20) (by kernel_rfl) (by kernel_rfl) ?_
       refine RunI.bringT1 [(b90,_),(b83,_),(b4,_),(b2,_),(by39,_)] _ _ _ rfl ?_
       refine RunI.append (A:=[(b90,_),(b83,_),(b4,_),(b2,_),(by39,_)]) (B:=_) (x:=ao) (ys:=intC nd) rfl ap_27 rfl rfl rfl hq.paid rfl (fun h=>by cases h) (fun w hm=>src_blk (hm.at (.head _))) (one_of rfl) (by simp only [maxLen];show al.length + 1≤_;omega) (by show (al.length + 1) * 8≤140737488355328;omega) rfl (fun z91 hz91=>(RunK.toA (.cons .here rfl (.cons .here rfl (.cons .here rfl (.cons .here rfl (.cons .here rfl .nil))))) (.cons .here rfl (.cons .here rfl (.cons .here rfl (.cons .here rfl (.cons .here rfl .nil))))) rfl ?_))
       refine RunA.toB (by kernel_rfl) ?_
       refine RunB.one (i:=22) (by kernel_rfl) ?_
       refine RunI.sto rfl (Sto.storeOwn rfl rfl (.there (.there .here)) ty_31 rfl rfl) rfl rfl (RunK.toB ?_)
       refine RunB.one (i:=23) (by kernel_rfl) ?_
       refine RunI.val rfl (Val.fieldAddr rfl fld_35_4) rfl rfl rfl (RunK.toB ?_)
       refine RunB.one (i:=24) (by kernel_rfl) ?_
       refine RunI.sto rfl (Sto.storeOwn rfl rfl (.there (.there .here)) ty_27 rfl rfl) rfl rfl (RunK.toB ?_)
       refine RunB.done (by kernel_rfl) ?_
       exact RunE.joinX (z84,z91) ⟨hz84,hz91⟩ rfl (Sub.cons (t:=0) rfl (Sub.cons (t:=2) rfl (Sub.cons (t:=4) rfl (Sub.cons (t:=5) rfl (Sub.nil _))))) (.cons (.there (.there .here)) rfl (.cons (.there (.there (.there .here))) rfl (.cons (.there (.there .here)) rfl (Pick.cnt fun x=>by simp only [nC,List.nil_append,List.append_nil,ryQB,tmB,inB,rpB,ownB_none,ownB_some14,tm_flat,rp_flat,int_flat,row1_flat,inRows_snoc];omega))))
      refine RunI.new rfl (New.buildSlice (parts:=[(0,.tmp 89)]) rfl sl_27 zero_3 rfl rfl rfl rfl) rfl rfl rfl (fun b90=>(RunK.toA (.cons .here rfl (.cons .here rfl (.cons .here rfl (.cons .here rfl (.cons .here rfl .nil))))) (.cons (.there .here) rfl (.cons (.there .here) rfl (.cons (.there .here) rfl (.cons (.there .here) rfl .nil)))) rfl ?_))
      refine RunA.one (i:=13) (by kernel_rfl) (by kernel_rfl) ?_
      refine RunI.append (A:=[(b90,_),(b83,_),(b4,_),(b2,_),(by39,_)]) (B:=_) (x:=to) (ys:=(Tm.mk na nb nc).cells) rfl ap_31 rfl rfl rfl hq.terms rfl (fun h=>by cases h) (fun w hm=>src_blk (hm.at (.tail _ (.head _)))) (one_of rfl) (by simp only [maxLen];show tl.length + 1≤_;omega) (by show (tl.length + 1) * 24≤140737488355328;omega) rfl (fun z84 hz84=>(RunK.toA (.cons .here rfl (.cons .here rfl (.cons .here rfl (.cons .here rfl (.cons .here rfl .nil))))) (.cons .here rfl (.cons .here rfl (.cons .here rfl (.cons .here rfl (.cons .here rfl .nil))))) rfl ?_))
      refine va 21 rfl (Val.fieldAddr rfl fld_35_0) rfl rfl rfl (.cons .here rfl (.cons .here rfl (.cons .here rfl (.cons .here rfl (.cons .here rfl .nil))))) rfl ?_
      refine RunA.one (i:=20) (by kernel_rfl) (by kernel_rfl) ?_
      refine RunI.bringT1 [(b90,_),(b83,_),(b4,_),(b2,_),(by39,_)] _ _ _ rfl ?_
      refine RunI.append (A:=[(b90,_),(b83,_),(b4,_),(b2,_),(by39,_)]) (B:=_) (x:=ao) (ys:=intC nd) rfl ap_27 rfl rfl rfl hq.paid rfl (fun h=>by cases h) (fun w hm=>src_blk (hm.at (.head _))) (one_of rfl) (by simp only [maxLen];show al.length + 1≤_;omega) (by show (al.length + 1) * 8≤140737488355328;omega) rfl (fun z91 hz91=>(RunK.toA (.cons .here rfl (.cons .here rfl (.cons .here rfl (.cons .here rfl (.cons .here rfl .nil))))) (.cons .here rfl (.cons .here rfl (.cons .here rfl (.cons .here rfl (.cons .here rfl .nil))))) rfl ?_))
      refine RunA.toB (by kernel_rfl) ?_
      refine RunB.one (i:=22) (by kernel_rfl) ?_
      refine RunI.sto rfl (Sto.storeOwn rfl rfl (.there (.there .here)) ty_31 rfl rfl) rfl rfl (RunK.toB ?_)
      refine RunB.one (i:=23) (by kernel_rfl) ?_
      refine RunI.val rfl (Val.fieldAddr rfl fld_35_4) rfl rfl rfl (RunK.toB ?_)
      refine RunB.one (i:=24) (by kernel_rfl) ?_
      refine RunI.sto rfl (Sto.storeOwn rfl rfl (.there (.there .here)) ty_27 rfl rfl) rfl rfl (RunK.toB ?_)
      refine RunB.done (by kernel_rfl) ?_
      exact RunE.joinX (z84,z91) ⟨hz84,hz91⟩ rfl (Sub.cons (t:=0) rfl (Sub.cons (t:=2) rfl (Sub.cons (t:=4) rfl (Sub.cons (t:=5) rfl (Sub.nil _))))) (.cons (.there (.there .here)) rfl (.cons (.there (.there (.there .here))) rfl (.cons (.there (.there .here)) rfl (Pick.cnt fun x=>by simp only [nC,List.nil_append,List.append_nil,ryQB,tmB,inB,rpB,ownB_none,ownB_some14,tm_flat,rp_flat,int_flat,row1_flat,inRows_snoc];omega))))
     refine RunI.new rfl (New.buildSlice (parts:=[(0,.tmp 89)]) rfl sl_27 zero_3 rfl rfl rfl rfl) rfl rfl rfl (fun b90=>(RunK.toA (.cons .here rfl (.cons .here rfl (.cons .here rfl (.cons .here rfl .nil)))) (.cons (.there .here) rfl (.cons (.there .here) rfl (.cons (.there .here) rfl .nil))) rfl ?_))
     refine RunA.one (i:=12) (by kernel_rfl) (by kernel_rfl) ?_
     refine RunI.new rfl (New.buildSlice (parts:=[(0,.tmp 82)]) rfl sl_31 zero_109 rfl rfl rfl rfl) rfl rfl rfl (fun b83=>(RunK.toA (.cons .here rfl (.cons .here rfl (.cons .here rfl (.cons .here rfl (.cons .here rfl .nil))))) (.cons (.there .here) rfl (.cons (.there .here) rfl (.cons (.there .here) rfl (.cons (.there .here) rfl .nil)))) rfl ?_))
     refine RunA.one (i:=13) (by kernel_rfl) (by kernel_rfl) ?_
     refine RunI.append (A:=[(b83,_),(b90,_),(b4,_),(b2,_),(by39,_)]) (B:=_) (x:=to) (ys:=(Tm.mk na nb nc).cells) rfl ap_31 rfl rfl rfl hq.terms rfl (fun h=>by cases h) (fun w hm=>src_blk (hm.at (.head _))) (one_of rfl) (by simp only [maxLen];show tl.length + 1≤_;omega) (by show (tl.length + 1) * 24≤140737488355328;omega) rfl (fun z84 hz84=>(RunK.toA (.cons .here rfl (.cons .here rfl (.cons .here rfl (.cons .here rfl (.cons .here rfl .nil))))) (.cons .here rfl (.cons .here rfl (.cons .here rfl (.cons .here rfl (.cons .here rfl .nil))))) rfl ?_))
     refine va 21 rfl (Val.fieldAddr rfl fld_35_0) rfl rfl rfl (.cons .here rfl (.cons .here rfl (.cons .here rfl (.cons .here rfl (.cons .here rfl .nil))))) rfl ?_
     refine RunA.one (i:=20) (by kernel_rfl) (by kernel_rfl) ?_
     refine RunI.bringT1 [(b83,_),(b90,_),(b4,_),(b2,_),(by39,_)] _ _ _ rfl ?_
     refine RunI.append (A:=[(b83,_),(b90,_),(b4,_),(b2,_),(by39,_)]) (B:=_) (x:=ao) (ys:=intC nd) rfl ap_27 rfl rfl rfl hq.paid rfl (fun h=>by cases h) (fun w hm=>src_blk (hm.at (.tail _ (.head _)))) (one_of rfl) (by simp only [maxLen];show al.length + 1≤_;omega) (by show (al.length + 1) * 8≤140737488355328;omega) rfl (fun z91 hz91=>(RunK.toA (.cons .here rfl (.cons .here rfl (.cons .here rfl (.cons .here rfl (.cons .here rfl .nil))))) (.cons .here rfl (.cons .here rfl (.cons .here rfl (.cons .here rfl (.cons .here rfl .nil))))) rfl ?_))
     refine RunA.toB (by kernel_rfl) ?_
     refine RunB.one (i:=22) (by kernel_rfl) ?_
     refine RunI.sto rfl (Sto.storeOwn rfl rfl (.there (.there .here)) ty_31 rfl rfl) rfl rfl (RunK.toB ?_)
     refine RunB.one (i:=23) (by kernel_rfl) ?_
     refine RunI.val rfl (Val.fieldAddr rfl fld_35_4) rfl rfl rfl (RunK.toB ?_)
     refine RunB.one (i:=24) (by kernel_rfl) ?_
     refine RunI.sto rfl (Sto.storeOwn rfl rfl (.there (.there .here)) ty_27 rfl rfl) rfl rfl (RunK.toB ?_)
     refine RunB.done (by kernel_rfl) ?_
     exact RunE.joinX (z84,z91) ⟨hz84,hz91⟩ rfl (Sub.cons (t:=0) rfl (Sub.cons (t:=2) rfl (Sub.cons (t:=4) rfl (Sub.cons (t:=5) rfl (Sub.nil _))))) (.cons (.there (.there .here)) rfl (.cons (.there (.there (.there .here))) rfl (.cons (.there (.there .here)) rfl (Pick.cnt fun x=>by simp only [nC,List.nil_append,List.append_nil,ryQB,tmB,inB,rpB,ownB_none,ownB_some14,tm_flat,rp_flat,int_flat,row1_flat,inRows_snoc];omega))))
    intro o oI
    obtain ⟨z84,z91⟩:=o
    obtain ⟨hz84,hz91⟩:=oI
    dsimp only at hz84 hz91 ⊢
    refine st ?_
    refine lv (Val.add rfl rfl (IntWalk.i64_in _ ⟨by omega,by omega⟩)) ?_
    exact RunE.roundX (RyQ.mk (z84,tl++[⟨na,nb,nc⟩]) (po,pl) (so,sl) (ro,rl) (z91,al++[nd])) (by omega) ⟨hq.agent (t:=⟨na,nb,nc⟩) (p:=nd) hz84 hz91,(run_snoc hk1 hat kI2).trans (hst.trans (by simp [RyQ.pl]))⟩ rfl (Sub.consE (t:=5) rfl (by rw [show 1 + (k + 1)=1 + k + 1 by omega];rfl) (Sub.cons (t:=0) rfl (Sub.cons (t:=2) rfl (Sub.cons (t:=4) rfl (Sub.nil _))))) (.cons .here (by simp) (.cons (.there .here) rfl (Pick.skip (Pick.refl _))))
   intro c3'
   refine st ?_
   refine lv (Val.indexAddr_slp rfl rfl sl_84 (by omega) (by omega) (Sl.ptrM hx.rows hk)) ?_
   refine lv (Val.load_gen rfl (fun w hm=>Sl.loadM1 hx.rows (by decide) hm (by simp) ty_166 (hk) (v:=r2.v) (by simp [SA.cell,hr2]))) ?_
   refine lv (Val.indexAddr_slp rfl rfl sl_166 (by omega) (by omega) (Sl.ptrM (hx.each r2 hr2m) h20)) ?_
   refine lv (Val.load_gen rfl (fun w hm=>Sl.loadM1 (hx.each r2 hr2m) (by decide) hm (by simp) ty_9 h20 (v:=.string (bs v0)) (by simp [strC,hv0]))) ?_
   refine lv (Val.eqlStr rfl rfl) ?_
   refine RunL.andPart (dj:=102) (dp:=106) 4 rfl (fun g102=>by
     have g102':=g102
     try simp only [nH] at g102'
     refine st ?_
     refine RunL.val (Val.len_own rfl sl_27 hy39) rfl rfl rfl ?_
     refine sv ?_
     exact RunL.segEnd (Sub.cons rfl (Sub.skip rfl (Sub.skip rfl (Sub.skip rfl (Sub.skip rfl (Sub.same rfl (by rw [g102]) (Sub.refl _))))))) (List.Sublist.refl _)
   ) (fun g102=>by
     have g102':=g102
     try simp only [nH] at g102'
     iterate 3 refine RunL.no rfl rfl rfl ?_
     refine sv ?_
     exact RunL.segEnd (Sub.cons rfl (Sub.skip rfl (Sub.skip rfl (Sub.skip rfl (Sub.skip rfl (Sub.same rfl (by rw [g102]) (Sub.refl _))))))) (List.Sublist.refl _)
   ) ?_
   refine st ?_
   refine RunL.andPart (dj:=107) (dp:=112) 5 rfl (fun g107=>by
     have g107':=g107
     try simp only [nH] at g107'
     refine lv (Val.fieldAddr rfl fld_35_3) ?_
     refine lv (Val.load_one rfl (.head _) ty_33 rfl) ?_
     refine RunL.val (Val.len_own rfl sl_33 hq.reports) rfl rfl rfl ?_
     refine sv ?_
     exact RunL.segEnd (Sub.cons rfl (Sub.skip rfl (Sub.skip rfl (Sub.skip rfl (Sub.skip rfl (Sub.skip rfl (Sub.same rfl (by rw [g107]) (Sub.refl _)))))))) (List.Sublist.refl _)
   ) (fun g107=>by
     have g107':=g107
     try simp only [nH] at g107'
     iterate 4 refine RunL.no rfl rfl rfl ?_
     refine sv ?_
     exact RunL.segEnd (Sub.cons rfl (Sub.skip rfl (Sub.skip rfl (Sub.skip rfl (Sub.skip rfl (Sub.skip rfl (Sub.same rfl (by rw [g107]) (Sub.refl _)))))))) (List.Sublist.refl _)
   ) ?_
   refine st ?_
   refine cn rfl ?_ ?_
   ·intro c4'
    obtain ⟨⟨hw1,hw2⟩,hw3⟩:=c4'
    obtain ⟨n0,ns,rfl⟩:∃ n ns,l39=n::ns:=List.exists_cons_of_length_pos (by omega)
    have hst:=stepR_k (x:=RyQ.pl (RyQ.mk (to,tl) (po,pl) (so,sl) (ro,rl) (ao,al))) hgv e39 hw1 (by show rl.length=0;omega)
    obtain ⟨by39,cy39,ry39,rfl,ly391,ly392,ly393⟩:=hy39.has (by simp)
    refine RunC.drawX (X:=Eng.Own×Eng.Own) 14 (n0:=[(by39,_),(b2,_)]) (fun o q=>q) (fun o=>[]) (fun o=>[(b4,.cells [ownV to tl.length,ownV o.1 (pl.length + 1),ownV o.2 (sl.length + 1),ownV ro rl.length,ownV ao al.length].toArray 35 (0,0))]) (fun o=>(ownB 3 o.1 ((pl++[n0]).map intC).flatten++(ownB 27 o.2 ((sl++[(some (by39,cy39,ry39),n0::ns)]).map row1C).flatten++(ownB 109 to (tl.map Tm.cells).flatten++(ownB 3 ao (al.map intC).flatten++(inRows sl++(ownB 111 ro (rl.map Rp.cells).flatten++[]))))))) (fun o=>OwnOk 1 o.1 (pl.length + 1) ((pl.map intC).flatten++intC n0)∧OwnOk 1 o.2 (sl.length + 1) ((sl.map row1C).flatten++row1C (some (by39,cy39,ry39),n0::ns))) fol_ (.cons .here rfl (.cons .here rfl (.cons .here rfl .nil))) (Sub.cons (t:=0) rfl (Sub.cons (t:=2) rfl (Sub.cons (t:=4) rfl (Sub.cons (t:=5) rfl (Sub.nil _))))) (.cons (.there (.there .here)) rfl (.cons (.there .here) rfl .nil)) ?_ ?_
    ·refine va 0 rfl (Val.fieldAddr rfl fld_35_1) rfl rfl rfl (.cons .here rfl (.cons .here rfl (.cons .here rfl .nil))) rfl ?_
     refine va 1 rfl (Val.load_one rfl (.head _) ty_27 rfl) rfl rfl rfl (.cons .here rfl (.cons .here rfl (.cons .here rfl .nil))) rfl ?_
     refine va 2 rfl (Val.pure rfl) rfl rfl rfl (.cons .here rfl (.cons .here rfl (.cons .here rfl .nil))) rfl ?_
     refine va 3 rfl (Val.indexAddr_sl rfl rfl sl_27 (by omega) (by omega)) rfl rfl rfl (.cons .here rfl (.cons .here rfl (.cons .here rfl .nil))) rfl ?_
     refine va 4 rfl (Val.load_gen rfl (fun w hm=>Sl.loadM1 (Sl.rowsR (xs:=(n0::ns).map intC) (t:=ry39) (hm.at (.tail _ (.tail _ (.head _)))) (fun x hx=>by obtain ⟨y,_,rfl⟩:=List.mem_map.1 hx;rfl):Sl w _ by39 0 1 ((n0::ns).map intC)) (by decide) (Mem.refl w) (by simp) ty_3 (i:=0) (by simp) (v:=.int .i64 n0) (by simp [intC]))) rfl rfl rfl (.cons .here rfl (.cons .here rfl (.cons .here rfl .nil))) rfl ?_
     refine va 7 rfl (Val.fieldAddr rfl fld_35_2) rfl rfl rfl (.cons .here rfl (.cons .here rfl (.cons .here rfl .nil))) rfl ?_
     refine va 8 rfl (Val.load_one rfl (.head _) ty_32 rfl) rfl rfl rfl (.cons .here rfl (.cons .here rfl (.cons .here rfl .nil))) rfl ?_
     refine va 9 rfl (Val.pure rfl) rfl rfl rfl (.cons .here rfl (.cons .here rfl (.cons .here rfl .nil))) rfl ?_
     refine va 10 rfl (Val.sliceOneC (n:=(n0::ns).length) (cap:=cy39) rfl sl_27 (by simp) ly391 (v:=.slice (some ⟨by39,off1 (some (by39,cy39,ry39)),none⟩) ((n0::ns).length - 1) (cy39 - 1)) rfl) rfl rfl rfl (.cons .here rfl (.cons .here rfl (.cons .here rfl .nil))) rfl ?_
     refine RunA.all (rs:=[5,11]) (by kernel_rfl) (by simp) (by kernel_rfl) (fun m hm=>?_)
     simp only [List.mem_cons,List.not_mem_nil,or_false] at hm
     rcases hm with rfl | rfl
     ·refine RunI.new rfl (New.buildSlice (parts:=[(0,.tmp 117)]) rfl sl_27 zero_3 rfl rfl rfl rfl) rfl rfl rfl (fun b118=>(RunK.toA (.cons .here rfl (.cons .here rfl (.cons .here rfl (.cons .here rfl .nil)))) (.cons (.there .here) rfl (.cons (.there .here) rfl (.cons (.there .here) rfl .nil))) rfl ?_))
      refine RunA.all (rs:=[6,11]) (by kernel_rfl) (by simp) (by kernel_rfl) (fun m hm=>?_)
      simp only [List.mem_cons,List.not_mem_nil,or_false] at hm
      rcases hm with rfl | rfl
      ·refine RunI.bringT2 [(b118,_),(b4,_),(b2,_),(by39,_)] _ _ _ _ rfl ?_
       refine RunI.append (A:=[(b118,_),(b4,_),(b2,_),(by39,_)]) (B:=_) (x:=po) (ys:=intC n0) rfl ap_27 rfl rfl rfl hq.prices rfl (fun h=>by cases h) (fun w hm=>src_blk (hm.at (.head _))) (one_of rfl) (by simp only [maxLen];show pl.length + 1≤_;omega) (by show (pl.length + 1) * 8≤140737488355328;omega) rfl (fun z119 hz119=>(RunK.toA (.cons .here rfl (.cons .here rfl (.cons .here rfl (.cons .here rfl .nil)))) (.cons .here rfl (.cons .here rfl (.cons .here rfl (.cons .here rfl .nil)))) rfl ?_))
       refine va 13 rfl (Val.fieldAddr rfl fld_35_1) rfl rfl rfl (.cons .here rfl (.cons .here rfl (.cons .here rfl (.cons .here rfl .nil)))) rfl ?_
       refine RunA.one (i:=11) (by kernel_rfl) (by kernel_rfl) ?_
       refine RunI.new rfl (New.buildSlice (parts:=[(0,.tmp 123)]) rfl sl_32 zero_27 rfl rfl rfl rfl) rfl rfl rfl (fun b124=>(RunK.toA (.cons .here rfl (.cons .here rfl (.cons .here rfl (.cons .here rfl (.cons .here rfl .nil))))) (.cons (.there .here) rfl (.cons (.there .here) rfl (.cons (.there .here) rfl (.cons (.there .here) rfl .nil)))) rfl ?_))
       refine RunA.one (i:=12) (by kernel_rfl) (by kernel_rfl) ?_
       refine RunI.bringT3 [(b124,_),(b118,_),(b4,_),(b2,_),(by39,_)] _ _ _ _ _ rfl ?_
       refine RunI.append (A:=[(b124,_),(b118,_),(b4,_),(b2,_),(by39,_)]) (B:=_) (x:=so) (ys:=row1C (some (by39,cy39,ry39),n0::ns)) rfl ap_32 rfl rfl rfl hq.shares rfl (fun h=>by cases h) (fun w hm=>src_blk (hm.at (.head _))) (one_of rfl) (by simp only [maxLen];show sl.length + 1≤_;omega) (by show (sl.length + 1) * 24≤140737488355328;omega) rfl (fun z125 hz125=>(RunK.toA (.cons .here rfl (.cons .here rfl (.cons .here rfl (.cons .here rfl (.cons .here rfl .nil))))) (.cons .here rfl (.cons .here rfl (.cons .here rfl (.cons .here rfl (.cons .here rfl .nil))))) rfl ?_))
       refine RunA.toB (by kernel_rfl) ?_
       refine RunB.one (i:=14) (by kernel_rfl) ?_
       refine RunI.sto rfl (Sto.storeOwn rfl rfl (.there (.there .here)) ty_27 rfl rfl) rfl rfl (RunK.toB ?_)
       refine RunB.one (i:=15) (by kernel_rfl) ?_
       refine RunI.val rfl (Val.fieldAddr rfl fld_35_2) rfl rfl rfl (RunK.toB ?_)
       refine RunB.one (i:=16) (by kernel_rfl) ?_
       refine RunI.sto rfl (Sto.storeOwn rfl rfl (.there (.there .here)) ty_32 rfl rfl) rfl rfl (RunK.toB ?_)
       refine RunB.done (by kernel_rfl) ?_
       exact RunE.joinX (z119,z125) ⟨hz119,hz125⟩ rfl (Sub.cons (t:=0) rfl (Sub.cons (t:=2) rfl (Sub.cons (t:=4) rfl (Sub.cons (t:=5) rfl (Sub.nil _))))) (.cons (.there (.there .here)) rfl (.cons (.there (.there (.there .here))) rfl (.cons (.there (.there .here)) rfl (Pick.cnt fun x=>by simp only [nC,List.nil_append,List.append_nil,ryQB,tmB,inB,rpB,ownB_none,ownB_some14,tm_flat,rp_flat,int_flat,row1_flat,inRows_snoc];omega))))
      refine RunI.new rfl (New.buildSlice (parts:=[(0,.tmp 123)]) rfl sl_32 zero_27 rfl rfl rfl rfl) rfl rfl rfl (fun b124=>(RunK.toA (.cons .here rfl (.cons .here rfl (.cons .here rfl (.cons .here rfl (.cons .here rfl .nil))))) (.cons (.there .here) rfl (.cons (.there .here) rfl (.cons (.there .here) rfl (.cons (.there .here) rfl .nil)))) rfl ?_))
      refine RunA.one (i:=6) (by kernel_rfl) (by kernel_rfl) ?_
      refine RunI.bringT2 [(b124,_),(b118,_),(b4,_),(b2,_),(by39,_)] _ _ _ _ rfl ?_
      refine RunI.append (A:=[(b124,_),(b118,_),(b4,_),(b2,_),(by39,_)]) (B:=_) (x:=po) (ys:=intC n0) rfl ap_27 rfl rfl rfl hq.prices rfl (fun h=>by cases h) (fun w hm=>src_blk (hm.at (.tail _ (.head _)))) (one_of rfl) (by simp only [maxLen];show pl.length + 1≤_;omega) (by show (pl.length + 1) * 8≤140737488355328;omega) rfl (fun z119 hz119=>(RunK.toA (.cons .here rfl (.cons .here rfl (.cons .here rfl (.cons .here rfl (.cons .here rfl .nil))))) (.cons .here rfl (.cons .here rfl (.cons .here rfl (.cons .here rfl (.cons .here rfl .nil))))) rfl ?_))
      refine va 13 rfl (Val.fieldAddr rfl fld_35_1) rfl rfl rfl (.cons .here rfl (.cons .here rfl (.cons .here rfl (.cons .here rfl (.cons .here rfl .nil))))) rfl ?_
      refine RunA.one (i:=12) (by kernel_rfl) (by kernel_rfl) ?_
      refine RunI.bringT3 [(b124,_),(b118,_),(b4,_),(b2,_),(by39,_)] _ _ _ _ _ rfl ?_
      refine RunI.append (A:=[(b124,_),(b118,_),(b4,_),(b2,_),(by39,_)]) (B:=_) (x:=so) (ys:=row1C (some (by39,cy39,ry39),n0::ns)) rfl ap_32 rfl rfl rfl hq.shares rfl (fun h=>by cases h) (fun w hm=>src_blk (hm.at (.head _))) (one_of rfl) (by simp only [maxLen];show sl.length + 1≤_;omega) (by show (sl.length + 1) * 24≤140737488355328;omega) rfl (fun z125 hz125=>(RunK.toA (.cons .here rfl (.cons .here rfl (.cons .here rfl (.cons .here rfl (.cons .here rfl .nil))))) (.cons .here rfl (.cons .here rfl (.cons .here rfl (.cons .here rfl (.cons .here rfl .nil))))) rfl ?_))
      refine RunA.toB (by kernel_rfl) ?_
      refine RunB.one (i:=14) (by kernel_rfl) ?_
      refine RunI.sto rfl (Sto.storeOwn rfl rfl (.there (.there .here)) ty_27 rfl rfl) rfl rfl (RunK.toB ?_)
      refine RunB.one (i:=15) (by kernel_rfl) ?_
      refine RunI.val rfl (Val.fieldAddr rfl fld_35_2) rfl rfl rfl (RunK.toB ?_)
      refine RunB.one (i:=16) (by kernel_rfl) ?_
      refine RunI.sto rfl (Sto.storeOwn rfl rfl (.there (.there .here)) ty_32 rfl rfl) rfl rfl (RunK.toB ?_)
      refine RunB.done (by kernel_rfl) ?_
      exact RunE.joinX (z119,z125) ⟨hz119,hz125⟩ rfl (Sub.cons (t:=0) rfl (Sub.cons (t:=2) rfl (Sub.cons (t:=4) rfl (Sub.cons (t:=5) rfl (Sub.nil _))))) (.cons (.there (.there .here)) rfl (.cons (.there (.there (.there .here))) rfl (.cons (.there (.there .here)) rfl (Pick.cnt fun x=>by simp only [nC,List.nil_append,List.append_nil,ryQB,tmB,inB,rpB,ownB_none,ownB_some14,tm_flat,rp_flat,int_flat,row1_flat,inRows_snoc];omega))))
     refine RunI.new rfl (New.buildSlice (parts:=[(0,.tmp 123)]) rfl sl_32 zero_27 rfl rfl rfl rfl) rfl rfl rfl (fun b124=>(RunK.toA (.cons .here rfl (.cons .here rfl (.cons .here rfl (.cons .here rfl .nil)))) (.cons (.there .here) rfl (.cons (.there .here) rfl (.cons (.there .here) rfl .nil))) rfl ?_))
     refine RunA.one (i:=5) (by kernel_rfl) (by kernel_rfl) ?_
     refine RunI.new rfl (New.buildSlice (parts:=[(0,.tmp 117)]) rfl sl_27 zero_3 rfl rfl rfl rfl) rfl rfl rfl (fun b118=>(RunK.toA (.cons .here rfl (.cons .here rfl (.cons .here rfl (.cons .here rfl (.cons .here rfl .nil))))) (.cons (.there .here) rfl (.cons (.there .here) rfl (.cons (.there .here) rfl (.cons (.there .here) rfl .nil)))) rfl ?_))
     refine RunA.one (i:=6) (by kernel_rfl) (by kernel_rfl) ?_
     refine RunI.bringT2 [(b118,_),(b124,_),(b4,_),(b2,_),(by39,_)] _ _ _ _ rfl ?_
     refine RunI.append (A:=[(b118,_),(b124,_),(b4,_),(b2,_),(by39,_)]) (B:=_) (x:=po) (ys:=intC n0) rfl ap_27 rfl rfl rfl hq.prices rfl (fun h=>by cases h) (fun w hm=>src_blk (hm.at (.head _))) (one_of rfl) (by simp only [maxLen];show pl.length + 1≤_;omega) (by show (pl.length + 1) * 8≤140737488355328;omega) rfl (fun z119 hz119=>(RunK.toA (.cons .here rfl (.cons .here rfl (.cons .here rfl (.cons .here rfl (.cons .here rfl .nil))))) (.cons .here rfl (.cons .here rfl (.cons .here rfl (.cons .here rfl (.cons .here rfl .nil))))) rfl ?_))
     refine va 13 rfl (Val.fieldAddr rfl fld_35_1) rfl rfl rfl (.cons .here rfl (.cons .here rfl (.cons .here rfl (.cons .here rfl (.cons .here rfl .nil))))) rfl ?_
     refine RunA.one (i:=12) (by kernel_rfl) (by kernel_rfl) ?_
     refine RunI.bringT3 [(b118,_),(b124,_),(b4,_),(b2,_),(by39,_)] _ _ _ _ _ rfl ?_
     refine RunI.append (A:=[(b118,_),(b124,_),(b4,_),(b2,_),(by39,_)]) (B:=_) (x:=so) (ys:=row1C (some (by39,cy39,ry39),n0::ns)) rfl ap_32 rfl rfl rfl hq.shares rfl (fun h=>by cases h) (fun w hm=>src_blk (hm.at (.tail _ (.head _)))) (one_of rfl) (by simp only [maxLen];show sl.length + 1≤_;omega) (by show (sl.length + 1) * 24≤140737488355328;omega) rfl (fun z125 hz125=>(RunK.toA (.cons .here rfl (.cons .here rfl (.cons .here rfl (.cons .here rfl (.cons .here rfl .nil))))) (.cons .here rfl (.cons .here rfl (.cons .here rfl (.cons .here rfl (.cons .here rfl .nil))))) rfl ?_))
     refine RunA.toB (by kernel_rfl) ?_
     refine RunB.one (i:=14) (by kernel_rfl) ?_
     refine RunI.sto rfl (Sto.storeOwn rfl rfl (.there (.there .here)) ty_27 rfl rfl) rfl rfl (RunK.toB ?_)
     refine RunB.one (i:=15) (by kernel_rfl) ?_
     refine RunI.val rfl (Val.fieldAddr rfl fld_35_2) rfl rfl rfl (RunK.toB ?_)
     refine RunB.one (i:=16) (by kernel_rfl) ?_
     refine RunI.sto rfl (Sto.storeOwn rfl rfl (.there (.there .here)) ty_32 rfl rfl) rfl rfl (RunK.toB ?_)
     refine RunB.done (by kernel_rfl) ?_
     exact RunE.joinX (z119,z125) ⟨hz119,hz125⟩ rfl (Sub.cons (t:=0) rfl (Sub.cons (t:=2) rfl (Sub.cons (t:=4) rfl (Sub.cons (t:=5) rfl (Sub.nil _))))) (.cons (.there (.there .here)) rfl (.cons (.there (.there (.there .here))) rfl (.cons (.there (.there .here)) rfl (Pick.cnt fun x=>by simp only [nC,List.nil_append,List.append_nil,ryQB,tmB,inB,rpB,ownB_none,ownB_some14,tm_flat,rp_flat,int_flat,row1_flat,inRows_snoc];omega))))
    intro o oI
    obtain ⟨z119,z125⟩:=o
    obtain ⟨hz119,hz125⟩:=oI
    dsimp only at hz119 hz125 ⊢
    refine st ?_
    refine lv (Val.add rfl rfl (IntWalk.i64_in _ ⟨by omega,by omega⟩)) ?_
    exact RunE.roundX (RyQ.mk (to,tl) (z119,pl++[n0]) (z125,sl++[(some (by39,cy39,ry39),n0::ns)]) (ro,rl) (ao,al)) (by omega) ⟨hq.kind (p:=n0) (r:=(some (by39,cy39,ry39),n0::ns)) hz119 hz125 hy39 hl39,(run_snoc hk1 hat kI2).trans (hst.trans (by simp [RyQ.pl]))⟩ rfl (Sub.consE (t:=5) rfl (by rw [show 1 + (k + 1)=1 + k + 1 by omega];rfl) (Sub.cons (t:=0) rfl (Sub.cons (t:=2) rfl (Sub.cons (t:=4) rfl (Sub.nil _))))) (.cons .here (by simp) (.cons (.there .here) rfl (Pick.cnt fun x=>by simp only [nC,List.nil_append,List.append_nil,ryQB,tmB,inB,rpB,ownB_none,ownB_some14,tm_flat,rp_flat,int_flat,row1_flat,inRows_snoc];omega)))
   intro c4'
   refine st ?_
   refine lv (Val.indexAddr_slp rfl rfl sl_84 (by omega) (by omega) (Sl.ptrM hx.rows hk)) ?_
   refine lv (Val.load_gen rfl (fun w hm=>Sl.loadM1 hx.rows (by decide) hm (by simp) ty_166 (hk) (v:=r2.v) (by simp [SA.cell,hr2]))) ?_
   refine lv (Val.indexAddr_slp rfl rfl sl_166 (by omega) (by omega) (Sl.ptrM (hx.each r2 hr2m) h20)) ?_
   refine lv (Val.load_gen rfl (fun w hm=>Sl.loadM1 (hx.each r2 hr2m) (by decide) hm (by simp) ty_9 h20 (v:=.string (bs v0)) (by simp [strC,hv0]))) ?_
   refine lv (Val.eqlStr rfl rfl) ?_
   refine RunL.andPart (dj:=136) (dp:=140) 4 rfl (fun g136=>by
     have g136':=g136
     try simp only [nH] at g136'
     refine st ?_
     refine RunL.val (Val.len_own rfl sl_27 hy39) rfl rfl rfl ?_
     refine sv ?_
     exact RunL.segEnd (Sub.cons rfl (Sub.skip rfl (Sub.skip rfl (Sub.skip rfl (Sub.skip rfl (Sub.same rfl (by rw [g136]) (Sub.refl _))))))) (List.Sublist.refl _)
   ) (fun g136=>by
     have g136':=g136
     try simp only [nH] at g136'
     iterate 3 refine RunL.no rfl rfl rfl ?_
     refine sv ?_
     exact RunL.segEnd (Sub.cons rfl (Sub.skip rfl (Sub.skip rfl (Sub.skip rfl (Sub.skip rfl (Sub.same rfl (by rw [g136]) (Sub.refl _))))))) (List.Sublist.refl _)
   ) ?_
   refine st ?_
   refine cn rfl ?_ ?_
   ·intro c5'
    obtain ⟨hw1,hw2⟩:=c5'
    obtain ⟨na,nb,nc,nd,rfl⟩:=four (show l39.length=4 by omega)
    have hst:=stepR_r (x:=RyQ.pl (RyQ.mk (to,tl) (po,pl) (so,sl) (ro,rl) (ao,al))) hgv e39 hw1
    obtain ⟨by39,cy39,ry39,rfl,ly391,ly392,ly393⟩:=hy39.has (by simp)
    refine RunC.draw 16 fol_ (.cons .here rfl (.cons .here rfl (.cons .here rfl .nil))) ?_
    refine va 0 rfl (Val.fieldAddr rfl fld_35_3) rfl rfl rfl (.cons .here rfl (.cons .here rfl (.cons .here rfl .nil))) rfl ?_
    refine va 1 rfl (Val.load_one rfl (.head _) ty_33 rfl) rfl rfl rfl (.cons .here rfl (.cons .here rfl (.cons .here rfl .nil))) rfl ?_
    refine va 2 rfl (Val.pure rfl) rfl rfl rfl (.cons .here rfl (.cons .here rfl (.cons .here rfl .nil))) rfl ?_
    refine va 3 rfl (Val.indexAddr_sl rfl rfl sl_27 (by omega) (by omega)) rfl rfl rfl (.cons .here rfl (.cons .here rfl (.cons .here rfl .nil))) rfl ?_
    refine va 4 rfl (Val.load_gen rfl (fun w hm=>Sl.loadM1 (Sl.rowsR (xs:=[na,nb,nc,nd].map intC) (t:=ry39) (hm.at (.tail _ (.tail _ (.head _)))) (fun x hx=>by obtain ⟨y,_,rfl⟩:=List.mem_map.1 hx;rfl):Sl w _ by39 0 1 ([na,nb,nc,nd].map intC)) (by decide) (Mem.refl w) (by simp) ty_3 (i:=0) (by simp) (v:=.int .i64 na) (by simp [intC]))) rfl rfl rfl (.cons .here rfl (.cons .here rfl (.cons .here rfl .nil))) rfl ?_
    refine va 5 rfl (Val.pure rfl) rfl rfl rfl (.cons .here rfl (.cons .here rfl (.cons .here rfl .nil))) rfl ?_
    refine va 6 rfl (Val.indexAddr_sl rfl rfl sl_27 (by omega) (by omega)) rfl rfl rfl (.cons .here rfl (.cons .here rfl (.cons .here rfl .nil))) rfl ?_
    refine va 7 rfl (Val.load_gen rfl (fun w hm=>Sl.loadM1 (Sl.rowsR (xs:=[na,nb,nc,nd].map intC) (t:=ry39) (hm.at (.tail _ (.tail _ (.head _)))) (fun x hx=>by obtain ⟨y,_,rfl⟩:=List.mem_map.1 hx;rfl):Sl w _ by39 0 1 ([na,nb,nc,nd].map intC)) (by decide) (Mem.refl w) (by simp) ty_3 (i:=1) (by simp) (v:=.int .i64 nb) (by simp [intC]))) rfl rfl rfl (.cons .here rfl (.cons .here rfl (.cons .here rfl .nil))) rfl ?_
    refine va 8 rfl (Val.pure rfl) rfl rfl rfl (.cons .here rfl (.cons .here rfl (.cons .here rfl .nil))) rfl ?_
    refine va 9 rfl (Val.indexAddr_sl rfl rfl sl_27 (by omega) (by omega)) rfl rfl rfl (.cons .here rfl (.cons .here rfl (.cons .here rfl .nil))) rfl ?_
    refine va 10 rfl (Val.load_gen rfl (fun w hm=>Sl.loadM1 (Sl.rowsR (xs:=[na,nb,nc,nd].map intC) (t:=ry39) (hm.at (.tail _ (.tail _ (.head _)))) (fun x hx=>by obtain ⟨y,_,rfl⟩:=List.mem_map.1 hx;rfl):Sl w _ by39 0 1 ([na,nb,nc,nd].map intC)) (by decide) (Mem.refl w) (by simp) ty_3 (i:=2) (by simp) (v:=.int .i64 nc) (by simp [intC]))) rfl rfl rfl (.cons .here rfl (.cons .here rfl (.cons .here rfl .nil))) rfl ?_
    refine va 11 rfl (Val.pure rfl) rfl rfl rfl (.cons .here rfl (.cons .here rfl (.cons .here rfl .nil))) rfl ?_
    refine va 12 rfl (Val.indexAddr_sl rfl rfl sl_27 (by omega) (by omega)) rfl rfl rfl (.cons .here rfl (.cons .here rfl (.cons .here rfl .nil))) rfl ?_
    refine va 13 rfl (Val.load_gen rfl (fun w hm=>Sl.loadM1 (Sl.rowsR (xs:=[na,nb,nc,nd].map intC) (t:=ry39) (hm.at (.tail _ (.tail _ (.head _)))) (fun x hx=>by obtain ⟨y,_,rfl⟩:=List.mem_map.1 hx;rfl):Sl w _ by39 0 1 ([na,nb,nc,nd].map intC)) (by decide) (Mem.refl w) (by simp) ty_3 (i:=3) (by simp) (v:=.int .i64 nd) (by simp [intC]))) rfl rfl rfl (.cons .here rfl (.cons .here rfl (.cons .here rfl .nil))) rfl ?_
    refine va 14 rfl (Val.build (parts:=[(0,.tmp 145),(1,.tmp 148),(2,.tmp 151),(3,.tmp 154)]) rfl zero_111 places_111 rfl) rfl rfl rfl (.cons .here rfl (.cons .here rfl (.cons .here rfl .nil))) rfl ?_
    refine RunA.one (i:=15) (by kernel_rfl) (by kernel_rfl) ?_
    refine RunI.new rfl (New.buildSlice (parts:=[(0,.tmp 155)]) rfl sl_33 zero_111 rfl rfl rfl rfl) rfl rfl rfl (fun b156=>(RunK.toA (.cons .here rfl (.cons .here rfl (.cons .here rfl (.cons .here rfl .nil)))) (.cons (.there .here) rfl (.cons (.there .here) rfl (.cons (.there .here) rfl .nil))) rfl ?_))
    refine RunA.toB (by kernel_rfl) ?_
    refine RunB.one (i:=16) (by kernel_rfl) ?_
    refine RunI.bringT5 [(b156,_),(b4,_),(b2,_),(by39,_)] _ _ _ _ _ _ _ rfl ?_
    refine RunI.append (A:=[(b156,_),(b4,_),(b2,_),(by39,_)]) (B:=_) (x:=ro) (ys:=(Rp.mk na nb nc nd).cells) rfl ap_33 rfl rfl rfl hq.reports rfl (fun h=>by cases h) (fun w hm=>src_blk (hm.at (.head _))) (one_of rfl) (by simp only [maxLen];show rl.length + 1≤_;omega) (by show (rl.length + 1) * 32≤140737488355328;omega) rfl (fun z157 hz157=>(RunK.toB ?_))
    refine RunB.one (i:=17) (by kernel_rfl) ?_
    refine RunI.val rfl (Val.fieldAddr rfl fld_35_3) rfl rfl rfl (RunK.toB ?_)
    refine RunB.one (i:=18) (by kernel_rfl) ?_
    refine RunI.sto rfl (Sto.storeOwn rfl rfl (.there .here) ty_33 rfl rfl) rfl rfl (RunK.toB ?_)
    refine RunB.done (by kernel_rfl) ?_
    refine st ?_
    refine lv (Val.add rfl rfl (IntWalk.i64_in _ ⟨by omega,by omega⟩)) ?_
    exact RunE.roundX (RyQ.mk (to,tl) (po,pl) (so,sl) (z157,rl++[⟨na,nb,nc,nd⟩]) (ao,al)) (by omega) ⟨hq.report (t:=⟨na,nb,nc,nd⟩) hz157,(run_snoc hk1 hat kI2).trans (hst.trans (by simp [RyQ.pl]))⟩ rfl (Sub.consE (t:=5) rfl (by rw [show 1 + (k + 1)=1 + k + 1 by omega];rfl) (Sub.cons (t:=0) rfl (Sub.cons (t:=2) rfl (Sub.cons (t:=4) rfl (Sub.nil _))))) (.cons (.there .here) (by simp) (.cons (.there .here) rfl (Pick.cnt fun x=>by simp only [nC,List.nil_append,List.append_nil,ryQB,tmB,inB,rpB,ownB_none,ownB_some14,tm_flat,rp_flat,int_flat,row1_flat,inRows_snoc];omega)))
   intro c5'
   have hno:=royV_no (run_none hk1 hat kI2 (stepR_no hgv e39 (by rintro ⟨a1,a2,a3,a4⟩;have b3:pl.length=0:=a3;have b4:rl.length=0:=a4;rcases c3' with ((h | h) | h) | h;exact h a1;omega;omega;omega) (by rintro ⟨a1,a2,a3⟩;have b3:rl.length=0:=a3;rcases c4' with (h | h) | h;exact h a1;omega;omega) (by rintro ⟨a1,a2⟩;rcases c5' with h | h;exact h a1;omega)))
   refine st ?_
   refine lv (Val.load_agg rfl (.head _) ty_35 rfl) ?_
   refine RunL.sto (Sto.store (cs:=zsrdR) (cs':=(RyQ.mk (to,tl) (po,pl) (so,sl) (ro,rl) (ao,al)).cells) rfl rfl (.there .here) ty_35 rfl (paste_over rfl (one_ryQ (RyQ.mk (to,tl) (po,pl) (so,sl) (ro,rl) (ao,al))))) rfl rfl ?_
   refine st ?_
   refine RunC.ret ?_
   refine RunE.block_ret ?_
   refine RunE.block_ret ?_
   refine RunE.pass_ret ?_
   refine RunE.pass_ret ?_
   refine RunE.block_ret ?_
   refine RunE.pass_ret ?_
   exact RunE.retG ((RyQ.mk (to,tl) (po,pl) (so,sl) (ro,rl) (ao,al)),false) ⟨hq.le (by omega),hno.symm,fun h=>by cases h⟩ (.r2 rfl (.agg rfl (.tail _ (.head _)) ty_35 rfl) (.tmp rfl)) rfl (Pick.cnt fun x=>by simp only [nC,List.nil_append,List.append_nil,ryQB,tmB,inB,rpB,ownB_none,ownB_some14,tm_flat,rp_flat,int_flat,row1_flat,inRows_snoc];omega)
  intro c1'
  obtain rfl:k=ls.l.length - 1:=by omega
  rw [← hpl,List.take_of_length_le (by rw [List.length_drop];omega)] at kI2
  refine RunC.exit ?_
  refine RunE.pass_exit ?_
  refine RunE.pass_exit ?_
  refine RunE.block_here ?_
  refine st ?_
  refine RunC.draw 3 fol_ (.cons .here rfl (.cons .here rfl .nil)) ?_
  refine va 0 rfl (Val.load_agg rfl (.head _) ty_35 rfl) rfl rfl rfl (.cons .here rfl (.cons .here rfl .nil)) rfl ?_
  refine va 1 rfl (Val.load_agg rfl (.head _) ty_35 rfl) rfl rfl rfl (.cons .here rfl (.cons .here rfl .nil)) rfl ?_
  refine RunA.one (i:=2) (by kernel_rfl) (by kernel_rfl) ?_
  refine RunI.callP rfl (isCall_func rfl ent_35) rfl rfl rfl (fun w hm=>(rRoyQ_calls (RyQ.mk (to,tl) (po,pl) (so,sl) (ro,rl) (ao,al)) (hq.le (by omega)) [] W w (hm.pick (news':=ryQB (RyQ.mk (to,tl) (po,pl) (so,sl) (ro,rl) (ao,al))++[]) (Pick.cnt fun x=>by simp only [nC,List.nil_append,List.append_nil,ryQB,tmB,inB,rpB,ownB_none,ownB_some14,tm_flat,rp_flat,int_flat,row1_flat,inRows_snoc];omega)))) (RunK.toA (.cons .here rfl (.cons .here rfl .nil)) (.cons .here rfl (.cons .here rfl .nil)) rfl ?_)
  refine RunA.toB (by kernel_rfl) ?_
  refine RunB.one (i:=3) (by kernel_rfl) ?_
  refine RunI.sto rfl (Sto.store (cs:=zsrdR) (cs':=(RyQ.mk (to,tl) (po,pl) (so,sl) (ro,rl) (ao,al)).cells) rfl rfl (.there .here) ty_35 rfl (paste_over rfl (one_ryQ (RyQ.mk (to,tl) (po,pl) (so,sl) (ro,rl) (ao,al))))) rfl rfl (RunK.toB ?_)
  refine RunB.one (i:=4) (by kernel_rfl) ?_
  refine RunI.val rfl (Val.pure rfl) rfl rfl rfl (RunK.toB ?_)
  refine RunB.done (by kernel_rfl) ?_
  refine st ?_
  refine RunC.ret ?_
  exact RunE.retG ((RyQ.mk (to,tl) (po,pl) (so,sl) (ro,rl) (ao,al)),royalX (RyQ.pl (RyQ.mk (to,tl) (po,pl) (so,sl) (ro,rl) (ao,al)))) ⟨hq.le (by omega),by rw [royV_yes hroy kI2],fun _=>by rw [royV_yes hroy kI2]⟩ (.r2 rfl (.agg rfl (.tail _ (.head _)) ty_35 rfl) (.tmp rfl)) rfl (Pick.cnt fun x=>by simp only [nC,List.nil_append,List.append_nil,ryQB,tmB,inB,rpB,ownB_none,ownB_some14,tm_flat,rp_flat,int_flat,row1_flat,inRows_snoc];omega)
theorem royalO_calls (y:Eng.Own) (l:List (OL Str)) (s:Str) (i:Bool) (hs:s.length≤4096) (h:OL.ok (y,l) rowC 1) (hr:∀ r∈l,OL.ok r strC 1) (he:(l.map (·.2),i)=rowsR s) (hi:i=true) (w:World) (hL:Lw Tryz.prog w) (hat:∀ b o,(b,o)∈rwB (y,l)++stRows l→w.heap[b]? = some o):Calls Tryz.prog 57 #[ownV y l.length] w (Grow w [] (fun z:RyQ×Bool=>.tuple #[.agg z.1.cells.toArray,.bool z.2]) (fun z=>ryQB z.1++[]) (fun z=>RyQOk 10000 z.1∧LinesSay royalX royLs (rowsR s).1 z.1.pl z.2)):=by
  have e1:LsA.pl (lsA y l)=(rowsR s).1:=by rw [lsA_pl,← he]
  have hk:RowsOk (LsA.pl (lsA y l)):=by rw [e1];exact rows_rok hs
  have hls:(rowsR s).1 ≠ []:=(rows_ok (s:=s) (ls:=(rowsR s).1) (by rw [← hi,← he])).2.2
  have hl0:0 < (lsA y l).l.length:=by rw [← pl_len,e1];exact List.length_pos_iff.2 hls
  have h1:=royal_calls14 (lsA y l) w hl0 (lsA_ok h hr hat) hk hL
  rw [lsA_v h] at h1
  refine calls_mono h1 ?_
  rintro e w' ⟨z,⟨z1,z2,z3⟩,z4,z5⟩
  refine ⟨z,⟨z1,?_⟩,z4,z5⟩
  have h2:=roy_says (ls:=(rowsR s).1) hls (rows_ne s)
  rw [e1] at z2 z3
  refine ⟨fun h=>?_,fun h=>h2.no (z2 ▸ h)⟩
  rw [z3 h]
  exact h2.yes (z2 ▸ h)
theorem rReadRoyal_calls (s:Str) (hs:s.length≤10000) (W:World) (hL:Lw Tryz.prog W):Calls Tryz.prog 22 #[.string (bs s)] W (Grow W [] (fun z:RyQ×Int=>.tuple #[.agg z.1.cells.toArray,.int .i64 z.2]) (fun z=>ryQB z.1++[]) (RdX (readX royStep zeroR royalX royalS s) RyQ.pl (RyQOk 10000) zeroRQ)):=by
  refine calls_start Tryz.func22 rfl rfl ?_
  refine st ?_
  refine RunL.new (New.alloc zero_35) rfl rfl rfl (fun b2=>?_)
  refine st ?_
  refine lv (Val.lenS rfl und_9) ?_
  refine cn rfl ?_ ?_
  ·intro c0'
   refine st ?_
   refine lv (Val.build (parts:=[]) rfl zero_35 places_35 rfl) ?_
   refine RunL.sto (Sto.store rfl rfl .here ty_35 rfl rfl) rfl rfl ?_
   refine st ?_
   refine RunC.ret ?_
   refine RunE.pass_ret ?_
   exact RunE.retG (zeroRQ,3) (.inr ⟨3,read_long (by omega),rfl⟩) (.r2 rfl (.agg rfl (.head _) ty_35 rfl) (.tmp rfl)) rfl (show Pick [] _ from .nil)
  intro c0'
  have hs4:s.length≤4096:=by omega
  refine st ?_
  refine RunL.callNT (isCall_func rfl ent_46) rfl rfl rfl (fun w hm=>grow_news (rows_calls14 s hs w)) (fun z13=>?_)
  obtain ⟨⟨⟨y13,l13⟩,i13⟩,o13,a13,e13⟩:=z13
  dsimp only at a13 e13
  dsimp only [OL.v]
  refine st ?_
  refine cn rfl ?_ ?_
  ·intro c1'
   refine st ?_
   refine lv (Val.build (parts:=[]) rfl zero_35 places_35 rfl) ?_
   refine RunL.sto (Sto.store rfl rfl .here ty_35 rfl rfl) rfl rfl ?_
   refine st ?_
   refine RunC.ret ?_
   refine RunE.pass_ret ?_
   exact RunE.retG (zeroRQ,8) (.inr ⟨8,ref_no (x:=zeroR) roy_lines roy_lok roy_ne hs4 (.inl (by rw [← e13];exact c1')),rfl⟩) (.r2 rfl (.agg rfl (.head _) ty_35 rfl) (.tmp rfl)) rfl (show Pick [] _ from .nil)
  intro c1'
  refine st ?_
  refine RunL.callNA [(b2,_)] _ rfl (isCall_func rfl ent_57) rfl rfl rfl (fun w hm=>(grow_news (royalO_calls y13 l13 s i13 (by omega) o13 a13 e13 c1' w (hL.mono hm) (fun b o h=>hm.at (by rcases List.mem_append.1 h with h | h <;> simp [h]))))) (fun z21=>?_)
  obtain ⟨⟨x21,i21⟩,o21,f21⟩:=z21
  dsimp only at o21 f21 ⊢
  refine st ?_
  refine RunL.new (New.alloc zero_35) rfl rfl rfl (fun b6=>?_)
  refine RunL.sto (Sto.store (cs:=zsrdR) (cs':=x21.cells) rfl rfl .here ty_35 rfl (paste_over rfl (one_ryQ x21))) rfl rfl ?_
  refine st ?_
  refine cn rfl ?_ ?_
  ·intro c2'
   refine st ?_
   refine lv (Val.build (parts:=[]) rfl zero_35 places_35 rfl) ?_
   refine RunL.sto (Sto.store rfl rfl (.there .here) ty_35 rfl rfl) rfl rfl ?_
   refine st ?_
   refine RunC.ret ?_
   refine RunE.pass_ret ?_
   exact RunE.retG (zeroRQ,8) (.inr ⟨8,ref_no (x:=x21.pl) roy_lines roy_lok roy_ne hs4 (.inr (c2' ▸ f21)),rfl⟩) (.r2 rfl (.agg rfl (.tail _ (.head _)) ty_35 rfl) (.tmp rfl)) rfl (show Pick [] _ from .nil)
  intro c2'
  refine st ?_
  refine lv (Val.load_agg rfl (.head _) ty_35 rfl) ?_
  refine RunL.sto (Sto.store (cs:=zsrdR) (cs':=x21.cells) rfl rfl (.there .here) ty_35 rfl (paste_over rfl (one_ryQ x21))) rfl rfl ?_
  refine st ?_
  refine RunC.ret ?_
  exact RunE.retG (x21,0) (.inl ⟨x21.pl,ref_yes parse_roy roy_lines hs4 (by rw [← e13];exact c1') (c2' ▸ f21),rfl,rfl,o21⟩) (.r2 rfl (.agg rfl (.tail _ (.head _)) ty_35 rfl) (.tmp rfl)) rfl (Pick.cnt fun x=>by simp only [nC];omega)
end Go.Proofs.YtleamcmljcdapaaGreatDoor
namespace Go.Bk
open Go Go.Eng Go.RowKit
abbrev iSh:Sh:=.int .i64
abbrev lnSh:Sh:=.st [iSh,iSh,iSh,iSh]
abbrev tmSh:Sh:=.st [iSh,iSh,iSh]
abbrev cbSh:Sh:=.st [iSh,.sl iSh,iSh,.sl lnSh]
abbrev rySh:Sh:=.st [.sl tmSh,.sl iSh,.sl (.sl iSh),.sl lnSh,.sl iSh]
theorem rd_cons {w:World} {s:Sh} {l:List Sh} {cs:List Value} (h:Rd w (.st (s::l)) cs):∃ a b,cs=a++b∧Rd w s a∧Rd w (.st l) b:=by
  cases h with
  | recS h1 h2=>exact ⟨_,_,rfl,h1,h2⟩
theorem rd_nil {w:World} {cs:List Value} (h:Rd w (.st []) cs):cs=[]:=by cases h;rfl
theorem rd_int {w:World} {cs:List Value} (h:Rd w iSh cs):∃ n:Int,cs=[.int .i64 n]∧True:=by cases h;exact ⟨_,rfl,trivial⟩
theorem rd_str {w:World} {cs:List Value} (h:Rd w .str cs):∃ s:Str,cs=[.string (bs s)]∧True:=by
  cases h with
  | @str s _=>exact ⟨s.data.toList,by simp [bs],trivial⟩
theorem rd_tm {w:World} {cs:List Value} (h:Rd w tmSh cs):∃ s:Tm,cs=s.cells∧True:=by
  obtain ⟨a,b,rfl,h1,h⟩:=rd_cons h
  obtain ⟨c,d,rfl,h2,h⟩:=rd_cons h
  obtain ⟨e,f,rfl,h3,h⟩:=rd_cons h
  obtain rfl:=rd_nil h
  obtain ⟨n,rfl,_⟩:=rd_int h1
  obtain ⟨m,rfl,_⟩:=rd_int h2
  obtain ⟨k,rfl,_⟩:=rd_int h3
  exact ⟨⟨n,m,k⟩,rfl,trivial⟩
theorem rd_four {w:World} {cs:List Value} (h:Rd w lnSh cs):∃ a b c d:Int,cs=[.int .i64 a,.int .i64 b,.int .i64 c,.int .i64 d]:=by
  obtain ⟨a,b,rfl,h1,h⟩:=rd_cons h
  obtain ⟨c,d,rfl,h2,h⟩:=rd_cons h
  obtain ⟨e,f,rfl,h3,h⟩:=rd_cons h
  obtain ⟨i,j,rfl,h4,h⟩:=rd_cons h
  obtain rfl:=rd_nil h
  obtain ⟨n,rfl,_⟩:=rd_int h1
  obtain ⟨m,rfl,_⟩:=rd_int h2
  obtain ⟨k,rfl,_⟩:=rd_int h3
  obtain ⟨l,rfl,_⟩:=rd_int h4
  exact ⟨n,m,k,l,rfl⟩
theorem rd_ln {w:World} {cs:List Value} (h:Rd w lnSh cs):∃ s:Ln,cs=s.cells∧True:=by
  obtain ⟨a,b,c,d,rfl⟩:=rd_four h
  exact ⟨⟨a,b,c,d⟩,rfl,trivial⟩
theorem rd_rp {w:World} {cs:List Value} (h:Rd w lnSh cs):∃ s:Rp,cs=s.cells∧True:=by
  obtain ⟨a,b,c,d,rfl⟩:=rd_four h
  exact ⟨⟨a,b,c,d⟩,rfl,trivial⟩
theorem rowsH_of {α:Type} {f:α→List Value} {p:α→Prop}:∀ {xs:List (List Value)},(∀ x∈xs,∃ a,x=f a∧p a)→∃ l:List α,xs=l.map f∧∀ a∈l,p a
  | [],_=>⟨[],rfl,fun a h=>by cases h⟩
  | x::xs,h=>by
    obtain ⟨a,rfl,ha⟩:=h x (by simp)
    obtain ⟨l,rfl,hl⟩:=rowsH_of (xs:=xs) (fun y hy=>h y (List.mem_cons_of_mem _ hy))
    exact ⟨a::l,rfl,fun b hb=>by rcases List.mem_cons.1 hb with rfl | hb;exact ha;exact hl b hb⟩
structure SaIn {α:Type} (f:α→List Value) (sz:Nat) (p:α→Prop) (w:World) (s:SA α):Prop where
  ok:s.ok f sz w
  each:∀ a∈s.l,p a
  cap:s.l.length≤s.c
  few:s.c≤maxLen
  nq:s.q=none→s.l.length=0∧s.c=0
theorem rd_sa {α:Type} {f:α→List Value} {p:α→Prop} {w:World} {e:Sh} (hx:∀ {x},Rd w e x→∃ a,x=f a∧p a) {cs:List Value} (h:Rd w (.sl e) cs):∃ s:SA α,cs=[s.v]∧SaIn f e.size p w s:=by
  cases h with
  | slNil=>exact ⟨⟨[],none,0,0,0⟩,rfl,⟨Sl.emp,(fun a h=>by cases h),Nat.le_refl _,Nat.zero_le _,fun _=>⟨rfl,rfl⟩⟩⟩
  | sl hs hl hc h =>
    obtain ⟨l,rfl,hl2⟩:=rowsH_of (f:=f) (p:=p) (fun x hx'=>hx (h x hx'))
    rw [List.length_map] at hl
    exact ⟨⟨l,some _,_,_,_⟩,by rw [List.length_map];rfl,⟨hs,hl2,hl,hc,fun h=>by cases h⟩⟩
theorem rd_cb {w:World} {cs:List Value} (h:Rd w cbSh cs):∃ t:CbA,cs=t.cells∧CbOk w t:=by
  obtain ⟨_,_,rfl,h1,h⟩:=rd_cons h
  obtain ⟨_,_,rfl,h2,h⟩:=rd_cons h
  obtain ⟨_,_,rfl,h3,h⟩:=rd_cons h
  obtain ⟨_,_,rfl,h4,h⟩:=rd_cons h
  obtain rfl:=rd_nil h
  obtain ⟨n,rfl,_⟩:=rd_int h1
  obtain ⟨a,rfl,ha⟩:=rd_sa (f:=intC) rd_int h2
  obtain ⟨m,rfl,_⟩:=rd_int h3
  obtain ⟨b,rfl,hb⟩:=rd_sa rd_ln h4
  exact ⟨⟨n,a,m,b⟩,rfl,⟨ha.ok,hb.ok⟩⟩
theorem rd_ry {w:World} {cs:List Value} (h:Rd w rySh cs):∃ t:RyA,cs=t.cells∧RyOk w t∧t.shares.l.length≤maxLen:=by
  obtain ⟨_,_,rfl,h1,h⟩:=rd_cons h
  obtain ⟨_,_,rfl,h2,h⟩:=rd_cons h
  obtain ⟨_,_,rfl,h3,h⟩:=rd_cons h
  obtain ⟨_,_,rfl,h4,h⟩:=rd_cons h
  obtain ⟨_,_,rfl,h5,h⟩:=rd_cons h
  obtain rfl:=rd_nil h
  obtain ⟨a,rfl,ha⟩:=rd_sa rd_tm h1
  obtain ⟨b,rfl,hb⟩:=rd_sa (f:=intC) rd_int h2
  obtain ⟨c,rfl,hc⟩:=rd_sa (f:=SA.cell) (p:=fun s=>SaIn intC 1 (fun _=>True) w s) (rd_sa (f:=intC) rd_int) h3
  obtain ⟨d,rfl,hd⟩:=rd_sa rd_rp h4
  obtain ⟨e,rfl,he⟩:=rd_sa (f:=intC) rd_int h5
  exact ⟨⟨a,b,c,d,e⟩,rfl,⟨ha.ok,hb.ok,hc.ok,fun x hx=>(hc.each x hx).ok,hd.ok,he.ok⟩,Nat.le_trans hc.cap hc.few⟩
def nilTA:TrA:=⟨0,⟨[],none,0,0,0⟩,⟨[],none,0,0,0⟩,⟨[],none,0,0,0⟩,⟨[],none,0,0,0⟩⟩
def nilPA:PsA:=⟨⟨[],none,0,0,0⟩,⟨0,0⟩,⟨0,0⟩⟩
theorem nilTA_ok (w:World):TrOk w nilTA:=⟨Sl.emp,Sl.emp,(fun x h=>by cases h),Sl.emp,Sl.emp,fun _=>⟨rfl,rfl⟩⟩
theorem Few.sm {t:TrA} {c:CbA} {r:RyA} {p:PsA} (h:Few t.pl c.pl r.pl p.pl):TrSm t∧CbS c∧RySm r∧p.cards.l.length≤10000:=by
  obtain ⟨h1,h2,h3,h4,h5,h6,h7,h8,h9,h10,h11,h12,h13,h14⟩:=h
  have e1:t.pl.ways.length=t.ways.l.length:=by simp [TrA.pl]
  have e2:r.pl.shares.length=r.shares.l.length:=by simp [RyA.pl]
  rw [e1] at h2
  rw [e2] at h12
  refine ⟨⟨Nat.le_trans h1 (by decide),Nat.le_trans h2 (by decide),fun x hx=>Nat.le_trans (h3 x.l (List.mem_map.2 ⟨x,hx,rfl⟩)) (by decide),Nat.le_trans h4 (by decide),Nat.le_trans h5 (by decide)⟩,⟨Nat.le_trans h6 (by decide),Nat.le_trans h7 (by decide)⟩,
    ⟨Nat.le_trans h9 (by decide),Nat.le_trans h11 (by decide),Nat.le_trans h12 (by decide),fun x hx=>Nat.le_trans (h13 x.l (List.mem_map.2 ⟨x,hx,rfl⟩)) (by decide),Nat.le_trans h14 (by decide),Nat.le_trans h10 (by decide)⟩,Nat.le_trans h8 (by decide)⟩
end Go.Bk
namespace Go.Bk
open Go Go.Eng Go.RowKit
theorem rdx_oky {α β:Type} {x:Except Int α} {pl:β→α} {ok:β→Prop} {z0 z:β} {e:Int} (h:RdX x pl ok z0 (z,e)) (h0:ok z0):ok z:=by
  rcases h with ⟨t,_,_,_,h4⟩ | ⟨k,_,h2⟩
  · exact h4
  · cases h2;exact h0
theorem rdx_one {α β:Type} {x:Except Int α} {pl:β→α} {ok:β→Prop} {z0 z y:β} {e f:Int} (h:RdX x pl ok z0 (z,e)) (h2:RdX x pl ok z0 (y,f)):pl z=pl y∧e=f:=by
  rcases h with ⟨t,h1,h3,h4,_⟩ | ⟨k,h1,h3⟩
  · rcases h2 with ⟨u,g1,g3,g4,_⟩ | ⟨m,g1,g3⟩
    · rw [h1] at g1
      cases g1
      exact ⟨h3.trans g3.symm,h4.trans g4.symm⟩
    · rw [h1] at g1;cases g1
  · rcases h2 with ⟨u,g1,g3,g4,_⟩ | ⟨m,g1,g3⟩
    · rw [h1] at g1;cases g1
    · rw [h1] at g1
      cases g1
      cases h3
      cases g3
      exact ⟨rfl,rfl⟩
end Go.Bk
namespace Go.Proofs.YtleamcmljcdapaaGreatDoor
open Go Go.Eng Go.Bk Go.RowKit

end Go.Proofs.YtleamcmljcdapaaGreatDoor
namespace Go.Proofs.YtleamcmljcdapaaGreatDoor
open Go Go.Eng
theorem ent_16:Enters Tryz.prog 16:=enters_of Tryz.func16 (by kernel_rfl) rfl
theorem ent_18:Enters Tryz.prog 18:=enters_of Tryz.func18 (by kernel_rfl) rfl
theorem ent_20:Enters Tryz.prog 20:=enters_of Tryz.func20 (by kernel_rfl) rfl
theorem ent_22:Enters Tryz.prog 22:=enters_of Tryz.func22 (by kernel_rfl) rfl
end Go.Proofs.YtleamcmljcdapaaGreatDoor
namespace Go.Bk
open Go Go.Eng Go.RowKit
theorem rdx_two {α β γ:Type} {x:Except Int α} {pl:β→α} {ok:β→Prop} {z0 z:β} {pl':γ→α} {ok':γ→Prop} {z0' y:γ} {e f:Int} (h:RdX x pl ok z0 (z,e)) (h2:RdX x pl' ok' z0' (y,f)) (hz:pl z0=pl' z0'):pl z=pl' y∧e=f:=by
  rcases h with ⟨t,h1,h3,h4,_⟩ | ⟨k,h1,h3⟩
  · rcases h2 with ⟨u,g1,g3,g4,_⟩ | ⟨m,g1,g3⟩
    · rw [h1] at g1
      cases g1
      exact ⟨h3.trans g3.symm,h4.trans g4.symm⟩
    · rw [h1] at g1;cases g1
  · rcases h2 with ⟨u,g1,g3,g4,_⟩ | ⟨m,g1,g3⟩
    · rw [h1] at g1;cases g1
    · rw [h1] at g1
      cases g1
      cases h3
      cases g3
      exact ⟨hz,rfl⟩
end Go.Bk
namespace Go.Proofs.YtleamcmljcdapaaGreatDoor
open Go Go.Eng Go.Bk Go.RowKit

set_option maxHeartbeats 4000000 in
theorem texts_law (c:CbA) (r:RyA) (s:Str) (W:World) (hL:Lw Tryz.prog W) (hC:CbOk W c) (hR:RyOk W r) (hn2:r.shares.l.length≤9223372036854775807):Calls Tryz.prog 4 #[c.v,r.v,.string (bs s)] W (Pure (.bool true) W):=by
  refine calls_start Tryz.func4 rfl rfl ?_
  refine st ?_
  refine RunL.new (New.box rfl) rfl rfl rfl (fun b3=>?_)
  refine RunL.new (New.box rfl) rfl rfl rfl (fun b4=>?_)
  refine st ?_
  refine lv (Val.build (parts:=[]) rfl zero_25 places_25 rfl) ?_
  refine lv (Val.load_agg rfl (.tail _ (.head _)) ty_30 rfl) ?_
  refine lv (Val.load_agg rfl (.head _) ty_35 rfl) ?_
  refine lv (Val.build (parts:=[]) rfl zero_40 places_40 rfl) ?_
  refine RunL.callP (isCall_func rfl ent_8) rfl rfl rfl (fun w hm=>great_calls nilTA c r nilPA w (nilTA_ok w) (hR.mono0 hm) (by decide) hn2) ?_
  refine st ?_
  refine RunL.orPart (dj:=28) (dp:=32) 4 rfl (fun g28=>by
    have g28':=g28
    try simp only [nH] at g28'
    refine st ?_
    refine RunL.val (Val.lenS rfl und_9) rfl rfl rfl ?_
    refine sv ?_
    exact RunL.segEnd (Sub.cons rfl (Sub.skip rfl (Sub.skip rfl (Sub.skip rfl (Sub.skip rfl (Sub.same rfl (by rw [g28]) (Sub.refl _))))))) (List.Sublist.refl _)
  ) (fun g28=>by
    have g28':=g28
    try simp only [nH] at g28'
    iterate 3 refine RunL.no rfl rfl rfl ?_
    refine sv ?_
    exact RunL.segEnd (Sub.cons rfl (Sub.skip rfl (Sub.skip rfl (Sub.skip rfl (Sub.skip rfl (Sub.same rfl (by rw [g28]) (Sub.refl _))))))) (List.Sublist.refl _)
  ) ?_
  refine st ?_
  refine cn rfl ?_ ?_
  ·intro c0'
   refine st ?_
   refine RunL.callP (isCall_func rfl ent_9) rfl rfl rfl (fun w hm=>alive_calls w (hL.mono hm)) ?_
   refine st ?_
   refine RunC.ret ?_
   refine RunE.pass_ret ?_
   exact RunE.retP (.r1 rfl (.tmp rfl)) (by first | rfl | simp)
  intro c0'
  have hfw:Few nilTA.pl c.pl r.pl nilPA.pl:=few_of (by simpa using c0'.1)
  have hsc:CbS c:=hfw.sm.2.1
  have hsr:RySm r:=hfw.sm.2.2.1
  refine st ?_
  refine lv (Val.load_agg rfl (.tail _ (.head _)) ty_30 rfl) ?_
  refine RunL.callP (isCall_func rfl ent_15) rfl rfl rfl (fun w hm=>WriteCabinet_calls c hsc w (hL.mono hm) (hC.mono0 hm)) ?_
  refine st ?_
  refine lv (Val.load_agg rfl (.tail _ (.head _)) ty_30 rfl) ?_
  refine RunL.callP (isCall_func rfl ent_16) rfl rfl rfl (fun w hm=>rWriteCabinet_calls c hsc w (hL.mono hm) (hC.mono0 hm)) ?_
  refine st ?_
  refine RunL.callNT (isCall_func rfl ent_17) rfl rfl rfl (fun w hm=>grow_news (ReadCabinet_calls s w (hL.mono hm) (by omega))) (fun z46=>?_)
  obtain ⟨⟨x46,e46⟩,h46⟩:=z46
  have o46:=rdx_oky h46 (zeroCX_ok.le (by decide))
  dsimp only
  refine st ?_
  refine RunL.new (New.alloc zero_30) rfl rfl rfl (fun b11=>?_)
  refine RunL.sto (Sto.store (cs:=zsrdC) (cs':=x46.cells) rfl rfl .here ty_30 rfl (paste_over rfl (one_cbX x46))) rfl rfl ?_
  refine st ?_
  refine RunL.callNA [(b11,_),(b4,_),(b3,_)] _ rfl (isCall_func rfl ent_18) rfl rfl rfl (fun w hm=>grow_news (rReadCabinet_calls s (by omega) w (hL.mono hm))) (fun z51=>?_)
  obtain ⟨⟨x51,e51⟩,h51⟩:=z51
  have o51:=rdx_oky h51 (zeroCX_ok.le (by decide))
  dsimp only
  refine st ?_
  refine RunL.new (New.alloc zero_30) rfl rfl rfl (fun b13=>?_)
  refine RunL.sto (Sto.store (cs:=zsrdC) (cs':=x51.cells) rfl rfl .here ty_30 rfl (paste_over rfl (one_cbX x51))) rfl rfl ?_
  refine st ?_
  refine lv (Val.load_agg rfl (.tail _ (.tail _ (.head _))) ty_35 rfl) ?_
  refine RunL.callP (isCall_func rfl ent_19) rfl rfl rfl (fun w hm=>WriteRoyal_calls r hsr w (hL.mono hm) (hR.mono0 hm)) ?_
  refine st ?_
  refine lv (Val.load_agg rfl (.tail _ (.tail _ (.head _))) ty_35 rfl) ?_
  refine RunL.callP (isCall_func rfl ent_20) rfl rfl rfl (fun w hm=>rWriteRoyal_calls r hsr w (hL.mono hm) (hR.mono0 hm)) ?_
  refine st ?_
  refine RunL.callNA [(b13,_),(b11,_),(b4,_),(b3,_)] _ rfl (isCall_func rfl ent_21) rfl rfl rfl (fun w hm=>grow_news (ReadRoyal_calls s w (hL.mono hm) (by omega))) (fun z66=>?_)
  obtain ⟨⟨x66,e66⟩,h66⟩:=z66
  have o66:=rdx_oky h66 (zeroRX_ok.le (by decide))
  dsimp only
  refine st ?_
  refine RunL.new (New.alloc zero_35) rfl rfl rfl (fun b19=>?_)
  refine RunL.sto (Sto.store (cs:=zsrdR) (cs':=x66.cells) rfl rfl .here ty_35 rfl (paste_over rfl (one_ryX x66))) rfl rfl ?_
  refine st ?_
  refine RunL.callNA [(b19,_),(b13,_),(b11,_),(b4,_),(b3,_)] _ rfl (isCall_func rfl ent_22) rfl rfl rfl (fun w hm=>grow_news (rReadRoyal_calls s (by omega) w (hL.mono hm))) (fun z71=>?_)
  obtain ⟨⟨x71,e71⟩,h71⟩:=z71
  have o71:=rdx_oky h71 (zeroRQ_ok.le (by decide))
  dsimp only
  refine st ?_
  refine RunL.new (New.alloc zero_35) rfl rfl rfl (fun b21=>?_)
  refine RunL.sto (Sto.store (cs:=zsrdR) (cs':=x71.cells) rfl rfl .here ty_35 rfl (paste_over rfl (one_ryQ x71))) rfl rfl ?_
  refine st ?_
  refine lv (Val.eqlStr rfl rfl) ?_
  refine RunL.andPart (dj:=77) (dp:=81) 4 rfl (fun g77=>by
    have g77':=g77
    try simp only [nH] at g77'
    refine sv ?_
    exact RunL.segEnd (Sub.cons rfl (Sub.skip rfl (Sub.skip rfl (Sub.skip rfl (Sub.skip rfl (Sub.same rfl (by rw [g77]) (Sub.refl _))))))) (List.Sublist.refl _)
  ) (fun g77=>by
    have g77':=g77
    try simp only [nH] at g77'
    iterate 3 refine RunL.no rfl rfl rfl ?_
    refine sv ?_
    exact RunL.segEnd (Sub.cons rfl (Sub.skip rfl (Sub.skip rfl (Sub.skip rfl (Sub.skip rfl (Sub.same rfl (by rw [g77]) (Sub.refl _))))))) (List.Sublist.refl _)
  ) ?_
  refine st ?_
  refine RunL.andPart (dj:=82) (dp:=86) 4 rfl (fun g82=>by
    have g82':=g82
    try simp only [nH] at g82'
    refine lv (Val.load_agg rfl (.tail _ (.tail _ (.tail _ (.head _)))) ty_30 rfl) ?_
    refine lv (Val.load_agg rfl (.tail _ (.tail _ (.head _))) ty_30 rfl) ?_
    refine RunL.callP (isCall_func rfl ent_23) rfl rfl rfl (fun w hm=>(by have h9:=sameCX_calls x46 o46 x51.toA (o51.sm (by decide)) [] W w (hm.pick (news':=cbB x46++[]) (Pick.cnt fun x=>by simp only [nC];omega)) (cbX_ok o51 (hm.pick (news':=cbB x51++[]) (Pick.cnt fun x=>by simp only [nC];omega)));rw [show x51.toA.v = .agg x51.cells.toArray by (unfold CbA.v;rw [o51.cells])] at h9;exact pure_true h9 (by rw [CbX.toA_pl];exact (rdx_one h46 h51).1))) ?_
    refine sv ?_
    exact RunL.segEnd (Sub.cons rfl (Sub.skip rfl (Sub.skip rfl (Sub.skip rfl (Sub.skip rfl (Sub.same rfl (by rw [g82]) (Sub.refl _))))))) (List.Sublist.refl _)
  ) (fun g82=>by
    have g82':=g82
    try simp only [nH] at g82'
    iterate 3 refine RunL.no rfl rfl rfl ?_
    refine sv ?_
    exact RunL.segEnd (Sub.cons rfl (Sub.skip rfl (Sub.skip rfl (Sub.skip rfl (Sub.skip rfl (Sub.same rfl (by rw [g82]) (Sub.refl _))))))) (List.Sublist.refl _)
  ) ?_
  refine st ?_
  refine RunL.andPart (dj:=87) (dp:=91) 4 rfl (fun g87=>by
    have g87':=g87
    try simp only [nH] at g87'
    refine sv ?_
    exact RunL.segEnd (Sub.cons rfl (Sub.skip rfl (Sub.skip rfl (Sub.skip rfl (Sub.skip rfl (Sub.same rfl (by rw [g87]) (Sub.refl _))))))) (List.Sublist.refl _)
  ) (fun g87=>by
    have g87':=g87
    try simp only [nH] at g87'
    iterate 3 refine RunL.no rfl rfl rfl ?_
    refine sv ?_
    exact RunL.segEnd (Sub.cons rfl (Sub.skip rfl (Sub.skip rfl (Sub.skip rfl (Sub.skip rfl (Sub.same rfl (by rw [g87]) (Sub.refl _))))))) (List.Sublist.refl _)
  ) ?_
  refine st ?_
  refine RunL.andPart (dj:=92) (dp:=96) 4 rfl (fun g92=>by
    have g92':=g92
    try simp only [nH] at g92'
    refine st ?_
    refine RunL.val (Val.eqlStr rfl rfl) rfl rfl rfl ?_
    refine sv ?_
    exact RunL.segEnd (Sub.cons rfl (Sub.skip rfl (Sub.skip rfl (Sub.skip rfl (Sub.skip rfl (Sub.same rfl (by rw [g92]) (Sub.refl _))))))) (List.Sublist.refl _)
  ) (fun g92=>by
    have g92':=g92
    try simp only [nH] at g92'
    iterate 3 refine RunL.no rfl rfl rfl ?_
    refine sv ?_
    exact RunL.segEnd (Sub.cons rfl (Sub.skip rfl (Sub.skip rfl (Sub.skip rfl (Sub.skip rfl (Sub.same rfl (by rw [g92]) (Sub.refl _))))))) (List.Sublist.refl _)
  ) ?_
  refine st ?_
  refine RunL.andPart (dj:=97) (dp:=101) 4 rfl (fun g97=>by
    have g97':=g97
    try simp only [nH] at g97'
    refine sv ?_
    exact RunL.segEnd (Sub.cons rfl (Sub.skip rfl (Sub.skip rfl (Sub.skip rfl (Sub.skip rfl (Sub.same rfl (by rw [g97]) (Sub.refl _))))))) (List.Sublist.refl _)
  ) (fun g97=>by
    have g97':=g97
    try simp only [nH] at g97'
    iterate 3 refine RunL.no rfl rfl rfl ?_
    refine sv ?_
    exact RunL.segEnd (Sub.cons rfl (Sub.skip rfl (Sub.skip rfl (Sub.skip rfl (Sub.skip rfl (Sub.same rfl (by rw [g97]) (Sub.refl _))))))) (List.Sublist.refl _)
  ) ?_
  refine st ?_
  refine RunL.andPart (dj:=102) (dp:=106) 4 rfl (fun g102=>by
    have g102':=g102
    try simp only [nH] at g102'
    refine lv (Val.load_agg rfl (.tail _ (.head _)) ty_35 rfl) ?_
    refine lv (Val.load_agg rfl (.head _) ty_35 rfl) ?_
    refine RunL.callP (isCall_func rfl ent_24) rfl rfl rfl (fun w hm=>(by have h9:=sameRX_calls x66 o66 x71.toA (o71.sm (by decide)) [] W w (hm.pick (news':=ryB x66++[]) (Pick.cnt fun x=>by simp only [nC];omega)) (ryQ_ok o71 (hm.pick (news':=ryQB x71++[]) (Pick.cnt fun x=>by simp only [nC];omega)));rw [show x71.toA.v = .agg x71.cells.toArray by (unfold RyA.v;rw [o71.cells])] at h9;exact pure_true h9 (by rw [RyQ.toA_pl];exact (rdx_two h66 h71 rfl).1))) ?_
    refine sv ?_
    exact RunL.segEnd (Sub.cons rfl (Sub.skip rfl (Sub.skip rfl (Sub.skip rfl (Sub.skip rfl (Sub.same rfl (by rw [g102]) (Sub.refl _))))))) (List.Sublist.refl _)
  ) (fun g102=>by
    have g102':=g102
    try simp only [nH] at g102'
    iterate 3 refine RunL.no rfl rfl rfl ?_
    refine sv ?_
    exact RunL.segEnd (Sub.cons rfl (Sub.skip rfl (Sub.skip rfl (Sub.skip rfl (Sub.skip rfl (Sub.same rfl (by rw [g102]) (Sub.refl _))))))) (List.Sublist.refl _)
  ) ?_
  refine st ?_
  refine RunL.andPart (dj:=107) (dp:=111) 4 rfl (fun g107=>by
    have g107':=g107
    try simp only [nH] at g107'
    refine sv ?_
    exact RunL.segEnd (Sub.cons rfl (Sub.skip rfl (Sub.skip rfl (Sub.skip rfl (Sub.skip rfl (Sub.same rfl (by rw [g107]) (Sub.refl _))))))) (List.Sublist.refl _)
  ) (fun g107=>by
    have g107':=g107
    try simp only [nH] at g107'
    iterate 3 refine RunL.no rfl rfl rfl ?_
    refine sv ?_
    exact RunL.segEnd (Sub.cons rfl (Sub.skip rfl (Sub.skip rfl (Sub.skip rfl (Sub.skip rfl (Sub.same rfl (by rw [g107]) (Sub.refl _))))))) (List.Sublist.refl _)
  ) ?_
  refine st ?_
  refine RunL.andPart (dj:=112) (dp:=114) 2 rfl (fun g112=>by
    have g112':=g112
    try simp only [nH] at g112'
    refine RunL.callP (isCall_func rfl ent_9) rfl rfl rfl (fun w hm=>alive_calls w (hL.mono hm)) ?_
    refine sv ?_
    exact RunL.segEnd (Sub.cons rfl (Sub.skip rfl (Sub.skip rfl (Sub.same rfl (by rw [g112]) (Sub.refl _))))) (List.Sublist.refl _)
  ) (fun g112=>by
    have g112':=g112
    try simp only [nH] at g112'
    refine RunL.no rfl rfl rfl ?_
    refine sv ?_
    exact RunL.segEnd (Sub.cons rfl (Sub.skip rfl (Sub.skip rfl (Sub.same rfl (by rw [g112]) (Sub.refl _))))) (List.Sublist.refl _)
  ) ?_
  refine st ?_
  refine RunC.ret ?_
  exact RunE.retP (.r1 rfl (.tmp rfl)) (by rw [(rdx_one h46 h51).2,(rdx_two h66 h71 rfl).2];simp)
theorem bookTexts_walk (W:World) (vs:List Value) (hL:Lw Tryz.prog W) (h:RdAll W [cbSh,rySh,.str] vs):Calls Tryz.prog 4 vs.toArray W (Pure (.bool true) W):=by
  cases h with
  | cons h1 h =>
  cases h with
  | cons h2 h =>
  cases h with
  | cons h3 h =>
  cases h
  obtain ⟨c,rfl,hc⟩:=rd_cb h1
  obtain ⟨r,rfl,hr,hn2⟩:=rd_ry h2
  obtain ⟨s,rfl,_⟩:=rd_str h3
  exact texts_law c r s W hL hc hr (Nat.le_trans hn2 (by decide))
end Go.Proofs.YtleamcmljcdapaaGreatDoor
