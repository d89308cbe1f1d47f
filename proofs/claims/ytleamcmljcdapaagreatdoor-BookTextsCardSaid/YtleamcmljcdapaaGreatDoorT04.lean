/- Walks of package book: a cabinet, and royalties, are read. -/
import Derived.Test.YtleamcmljcdapaaGreatDoorT03
set_option linter.unusedSimpArgs false
set_option linter.unusedVariables false
namespace Go.Bk
open Go Go.Eng Go.RowKit
def CbX.toA (x:CbX):CbA:=⟨x.slots,OL.sa x.homes,x.wrong,OL.sa x.loans⟩
theorem CbX.toA_pl (x:CbX):x.toA.pl=x.pl:=rfl
theorem CbXOk.cells {n:Nat} {x:CbX} (h:CbXOk n x):x.toA.cells=x.cells:=by
  show [Value.int .i64 x.slots,(OL.sa x.homes).v,Value.int .i64 x.wrong,(OL.sa x.loans).v]=_
  rw [OL.sa_v h.homes,OL.sa_v h.loans]
  rfl
theorem CbXOk.sm {n:Nat} {x:CbX} (h:CbXOk n x) (hn:n≤10000):CbS x.toA:=⟨h.s1,by have:=h.few;show x.loans.2.length≤10000;omega⟩
def zeroCX:CbX:=⟨0,(none,[]),0,(none,[])⟩
theorem zeroCX_ok:CbXOk 0 zeroCX:=⟨ol_nil,ol_nil,Nat.le_refl _,by decide⟩
def zeroC:Cb:=⟨0,[],0,[]⟩
theorem paste_cbX (x:CbX):paste x.cells 0 (cellsL (.agg x.cells.toArray))=some x.cells:=by
  show paste x.cells 0 x.cells=some x.cells
  have h:=paste_self (cs:=x.cells) (fun v hv=>by
    simp only [CbX.cells,List.mem_cons,List.not_mem_nil,or_false] at hv
    rcases hv with rfl | rfl | rfl | rfl <;> first | rfl | exact own_one _ _)
  exact h
def RyX.toA (x:RyX):RyA:=⟨OL.sa x.terms,OL.sa x.prices,⟨x.shares.2.map OL.sa,ownQ x.shares.1,ownK x.shares.1,0,ownC x.shares.1⟩,OL.sa x.reports,OL.sa x.paid⟩
theorem RyX.toA_pl (x:RyX):x.toA.pl=x.pl:=by simp [RyX.toA,RyA.pl,RyX.pl,OL.sa,List.map_map,Function.comp_def]
theorem RyXOk.cells {n:Nat} {x:RyX} (h:RyXOk n x):x.toA.cells=x.cells:=by
  have e:x.toA.shares.v=ownV x.shares.1 x.shares.2.length:=by
    unfold SA.v RyX.toA
    rw [List.length_map]
    exact (ownV_slice h.shares).symm
  show [(OL.sa x.terms).v,(OL.sa x.prices).v,x.toA.shares.v,(OL.sa x.reports).v,(OL.sa x.paid).v]=_
  rw [e,OL.sa_v h.terms,OL.sa_v h.prices,OL.sa_v h.reports,OL.sa_v h.paid]
  rfl
theorem RyXOk.sm {n:Nat} {x:RyX} (h:RyXOk n x) (hn:n≤10000):RySm x.toA :=
  ⟨by have:=h.f1;show x.terms.2.length≤10000;omega,by have:=h.f2;show x.prices.2.length≤10000;omega,by have:=h.f3;show (x.shares.2.map OL.sa).length≤10000;rw [List.length_map];omega,fun y hy=>by
    obtain ⟨r,hr,rfl⟩:=List.mem_map.1 hy
    exact h.s3 r hr,by have:=h.f4;show x.reports.2.length≤10000;omega,by have:=h.f5;show x.paid.2.length≤10000;omega⟩
def zeroRX:RyX:=⟨(none,[]),(none,[]),(none,[]),(none,[]),(none,[])⟩
theorem zeroRX_ok:RyXOk 0 zeroRX:=⟨ol_nil,ol_nil,ol_nil,fun r h=>(by cases h),ol_nil,ol_nil,Nat.le_refl _,Nat.le_refl _,Nat.le_refl _,Nat.le_refl _,Nat.le_refl _,fun r h=>(by cases h)⟩
def zeroR:Ry:=⟨[],[],[],[],[]⟩
theorem rowsI_eq {l:List (OL Int)} (h:∀ r∈l,OL.ok r intC 1):(l.map rowC)=(l.map OL.sa).map SA.cell:=by
  rw [List.map_map]
  refine List.map_congr_left fun r hr=>?_
  show [ownV r.1 r.2.length]=[(OL.sa r).v]
  rw [OL.sa_v (h r hr)]
theorem paste_ryX (x:RyX):paste x.cells 0 (cellsL (.agg x.cells.toArray))=some x.cells:=by
  show paste x.cells 0 x.cells=some x.cells
  have h:=paste_self (cs:=x.cells) (fun v hv=>by
    simp only [RyX.cells,List.mem_cons,List.not_mem_nil,or_false] at hv
    rcases hv with rfl | rfl | rfl | rfl | rfl <;> first | rfl | exact own_one _ _)
  exact h
end Go.Bk
namespace Go.Proofs.YtleamcmljcdapaaGreatDoor
open Go Go.Eng Go.Bk Go.RowKit

abbrev nO (k:Int):Obj:=.cells [.int .i64 k].toArray 3 (0,0)
def cbB (x:CbX):Blks:=inB x.homes++lnB x.loans
theorem cbX_ok {n:Nat} {x:CbX} {w W0:World} {tl:Blks} (h:CbXOk n x) (hm:Mem W0 [] (cbB x++tl) w):CbOk w x.toA:=by
  have hat:∀ b o,(b,o)∈cbB x→w.heap[b]? = some o:=fun b o hb=>(hm.newd b o (List.mem_append_left _ hb)).2
  exact ⟨own_sl (f:=intC) (e:=3) (fun _=>rfl) (by decide) h.homes (fun b o hb=>hat b o (by unfold cbB;exact List.mem_append_left _ hb)),own_sl (f:=Ln.cells) (e:=98) (fun _=>rfl) (by decide) h.loans (fun b o hb=>hat b o (by unfold cbB;exact List.mem_append_right _ hb))⟩
theorem writeCX_calls (x:CbX) (n:Nat) (h:CbXOk n x) (hs:CbS x.toA) (m:Nat) (tl:Blks) (W0 w:World) (hm:Mem W0 [] (cbB x++tl) w) (hL:Lw Tryz.prog w):Calls Tryz.prog 49 #[.agg x.cells.toArray,kindV 109 116 m] w (Pure (writeV (cabX x.pl) (cabS x.pl)) w):=by
  have h1:=writeC_calls x.toA hs m w hL (cbX_ok h hm)
  rw [CbX.toA_pl] at h1
  have e:x.toA.v = .agg x.cells.toArray:=by unfold CbA.v;rw [h.cells]
  rw [e] at h1
  exact h1
abbrev kCO (m:Nat):Obj:=.cells [fnV 109,.map (some m),fnV 116].toArray 94 (0,0)
abbrev kCB (m n0 n1:Nat):Nat×Obj:=(m,mapS (cabinetsL n0 n1))
theorem lineC_calls {v:Value} (wb sb:Nat) (all:List Str) (xb:Nat) (x:CbX) (n:Nat) (rest:Blks) (n0 n1:Nat) (W0:World) (hL:Lw Tryz.prog W0) (hj:WdOk all 1) (hx:CbXOk n x) (hn:n≤10000) (hv:sFind (cabinetsL n0 n1) (all.getD 0 [])=some v) :
    ∃ gf cap,v = .func (.func gf) #[] cap∧Enters Tryz.prog gf∧∀ w,Mem W0 [] ((wb,wdO sb all.length 1)::(sb,stO all)::cbM xb x (((n0,nO 0)::(n1,nO 1)::rest)++[])) w→Calls Tryz.prog gf ([pV xb,pV wb]++cap.toList).toArray w (LineC W0 xb n (cabStep x.pl all) ((n0,nO 0)::(n1,nO 1)::rest)):=by
  unfold sFind cabinetsL at hv
  simp only [sIdx] at hv
  unfold cabStep
  split at hv
  · rename_i h0
    simp at hv
    rw [if_pos h0.symm]
    exact ⟨_,#[],hv.symm,ent_111,fun w hm=>hCab_calls wb sb all xb x n _ W0 w hL hm hj hx hn⟩
  · rename_i h0
    rw [if_neg (fun h=>h0 h.symm)]
    split at hv
    · rename_i h1
      simp at hv
      rw [if_pos h1.symm]
      exact ⟨_,#[],hv.symm,ent_112,fun w hm=>hHomes_calls wb sb all xb x n _ W0 w hL hm hj hx hn⟩
    · rename_i h1
      rw [if_neg (fun h=>h1 h.symm)]
      split at hv
      · rename_i h2
        simp at hv
        rw [if_pos h2.symm]
        exact ⟨_,#[],hv.symm,ent_114,fun w hm=>hLook_calls wb sb all xb x n _ W0 w hL hm hj hx hn⟩
      · rename_i h2
        rw [if_neg (fun h=>h2 h.symm)]
        split at hv
        · rename_i h3
          simp at hv
          rw [if_pos h3.symm]
          exact ⟨_,#[pV n0],hv.symm,ent_118,fun w hm=>hLoan_calls wb sb all xb x n _ W0 w hL hj hx hn 0 n0 hm⟩
        · rename_i h3
          rw [if_neg (fun h=>h3 h.symm)]
          split at hv
          · rename_i h4
            simp at hv
            rw [if_pos h4.symm]
            refine ⟨_,#[pV n1],hv.symm,ent_118,fun w hm=>calls_reG (hLoan_calls wb sb all xb x n ((n0,nO 0)::rest) W0 w hL hj hx hn 1 n1 (hm.pick ?_)) (fun z=>?_) (fun z=>?_)⟩ <;>
              exact Pick.cnt fun x=>by simp only [nO,nC];omega
          · simp at hv
theorem lineC_none (all:List Str) (x:Cb) {n0 n1:Nat} (hv:sFind (cabinetsL n0 n1) (all.getD 0 [])=none):cabStep x all=none:=by
  unfold sFind cabinetsL at hv
  simp only [sIdx] at hv
  unfold cabStep
  repeat' split at hv
  all_goals first | (simp at hv;done) | skip
  rename_i h0 h1 h2 h3 h4
  rw [if_neg (fun h=>h0 h.symm),if_neg (fun h=>h1 h.symm),if_neg (fun h=>h2 h.symm),if_neg (fun h=>h3 h.symm),if_neg (fun h=>h4 h.symm)]
def ryB (x:RyX):Blks:=tmB x.terms++(inB x.prices++(shB x.shares++(inRows x.shares.2++(rpB x.reports++inB x.paid))))
theorem in_ok {z:OL Int} {w:World} (h:z.ok intC 1) (hm:∀ b o,(b,o)∈inB z→w.heap[b]? = some o):(OL.sa z).ok intC 1 w:=own_sl (f:=intC) (fun _=>rfl) (by decide) h hm
theorem ryX_ok {n:Nat} {x:RyX} {w W0:World} {tl:Blks} (h:RyXOk n x) (hm:Mem W0 [] (ryB x++tl) w):RyOk w x.toA:=by
  have hat:∀ b o,(b,o)∈ryB x→w.heap[b]? = some o:=fun b o hb=>(hm.newd b o (List.mem_append_left _ hb)).2
  unfold ryB at hat
  refine ⟨own_sl (f:=Tm.cells) (e:=109) (fun _=>rfl) (by decide) h.terms fun b o hb=>hat b o (List.mem_append_left _ hb),in_ok h.prices fun b o hb=>hat b o (List.mem_append_right _ (List.mem_append_left _ hb)),?_,fun y hy=>?_,own_sl (f:=Rp.cells) (e:=111) (fun _=>rfl) (by decide) h.reports fun b o hb=>hat b o (List.mem_append_right _ (List.mem_append_right _ (List.mem_append_right _ (List.mem_append_right _ (List.mem_append_left _ hb))))),in_ok h.paid fun b o hb=>hat b o (List.mem_append_right _ (List.mem_append_right _ (List.mem_append_right _ (List.mem_append_right _ (List.mem_append_right _ hb)))))⟩
  · show Sl w (ownQ x.shares.1) (ownK x.shares.1) 0 1 ((x.shares.2.map OL.sa).map SA.cell)
    rw [← rowsI_eq h.rows]
    exact own_sl (f:=rowC) (e:=27) (fun _=>rfl) (by decide) h.shares (fun b o hb=>hat b o (List.mem_append_right _ (List.mem_append_right _ (List.mem_append_left _ hb))))
  · obtain ⟨r,hr,rfl⟩:=List.mem_map.1 hy
    refine in_ok (h.rows r hr) fun b o hb=>hat b o ?_
    refine List.mem_append_right _ (List.mem_append_right _ (List.mem_append_right _ (List.mem_append_left _ ?_)))
    exact List.mem_flatten.2 ⟨_,List.mem_map.2 ⟨r,hr,rfl⟩,hb⟩
theorem writeRX_calls (x:RyX) (n:Nat) (h:RyXOk n x) (hs:RySm x.toA) (m:Nat) (tl:Blks) (W0 w:World) (hm:Mem W0 [] (ryB x++tl) w) (hL:Lw Tryz.prog w):Calls Tryz.prog 54 #[.agg x.cells.toArray,kindV 121 126 m] w (Pure (writeV (royalX x.pl) (royalS x.pl)) w):=by
  have h1:=writeR_calls x.toA hs m w hL (ryX_ok h hm)
  rw [RyX.toA_pl] at h1
  have e:x.toA.v = .agg x.cells.toArray:=by unfold RyA.v;rw [h.cells]
  rw [e] at h1
  exact h1
abbrev kRO (m:Nat):Obj:=.cells [fnV 121,.map (some m),fnV 126].toArray 106 (0,0)
abbrev kRB (m:Nat):Nat×Obj:=(m,mapS royaltiesL)
theorem lineR_calls {v:Value} (wb sb:Nat) (all:List Str) (xb:Nat) (x:RyX) (n:Nat) (rest:Blks) (W0:World) (hL:Lw Tryz.prog W0) (hj:WdOk all 1) (hx:RyXOk n x) (hn:n≤10000) (hv:sFind royaltiesL (all.getD 0 [])=some v) :
    ∃ gf,v = .func (.func gf) #[] #[]∧Enters Tryz.prog gf∧∀ w,Mem W0 [] ((wb,wdO sb all.length 1)::(sb,stO all)::ryM xb x (rest++[])) w→Calls Tryz.prog gf #[pV xb,pV wb] w (LineR W0 xb n (royStep x.pl all) rest):=by
  unfold sFind royaltiesL at hv
  simp only [sIdx] at hv
  unfold royStep
  split at hv
  · rename_i h0
    simp at hv
    rw [if_pos h0.symm]
    exact ⟨_,hv.symm,ent_122,fun w hm=>hRoyal_calls wb sb all xb x n rest W0 w hL hm hj hx hn⟩
  · rename_i h0
    rw [if_neg (fun h=>h0 h.symm)]
    split at hv
    · rename_i h1
      simp at hv
      rw [if_pos h1.symm]
      exact ⟨_,hv.symm,ent_123,fun w hm=>hAgent_calls wb sb all xb x n rest W0 w hL hm hj hx hn⟩
    · rename_i h1
      rw [if_neg (fun h=>h1 h.symm)]
      split at hv
      · rename_i h2
        simp at hv
        rw [if_pos h2.symm]
        exact ⟨_,hv.symm,ent_124,fun w hm=>hKind_calls wb sb all xb x n rest W0 w hL hm hj hx hn⟩
      · rename_i h2
        rw [if_neg (fun h=>h2 h.symm)]
        split at hv
        · rename_i h3
          simp at hv
          rw [if_pos h3.symm]
          exact ⟨_,hv.symm,ent_125,fun w hm=>hReport_calls wb sb all xb x n rest W0 w hL hm hj hx hn⟩
        · simp at hv
theorem lineR_none (all:List Str) (x:Ry) (hv:sFind royaltiesL (all.getD 0 [])=none):royStep x all=none:=by
  unfold sFind royaltiesL at hv
  simp only [sIdx] at hv
  unfold royStep
  repeat' split at hv
  all_goals first | (simp at hv;done) | skip
  rename_i h0 h1 h2 h3
  rw [if_neg (fun h=>h0 h.symm),if_neg (fun h=>h1 h.symm),if_neg (fun h=>h2 h.symm),if_neg (fun h=>h3 h.symm)]
set_option maxHeartbeats 1000000 in
theorem readC_calls (s:Str) (m n0 n1:Nat) (rest:Blks) (W0 w0:World) (hL:Lw Tryz.prog W0) (hm0:Mem W0 [] (kCB m n0 n1::(n0,nO 0)::(n1,nO 1)::(rest++[])) w0) (hsl:s.length≤100000) :
    Calls Tryz.prog 52 #[.string (bs s),kindV 109 116 m] w0 (Grow W0 [] (fun z:CbX×Int=>.tuple #[.agg z.1.cells.toArray,.int .i64 z.2]) (fun z=>cbB z.1++(rest++[])) (RdX (readX cabStep zeroC cabX cabS s) CbX.pl (CbXOk 10000) zeroCX)):=by
  refine calls_start_F hm0 Tryz.func52 rfl rfl ?_
  refine RunCF.seq ?_
  refine RunCF.of ?_
  refine st ?_
  refine RunL.new (New.box rfl) rfl rfl rfl (fun b3=>?_)
  refine RunL.new (New.alloc zero_30) rfl rfl rfl (fun b4=>?_)
  refine RunL.new (New.alloc zero_42) rfl rfl rfl (fun b5=>?_)
  refine st ?_
  refine RunEF.next ?_
  refine RunCF.seq ?_
  refine RunCF.of ?_
  refine st ?_
  refine RunL.deferC rfl ?_
  refine st ?_
  refine RunEF.next ?_
  refine RunCF.seq ?_
  refine RunCF.of ?_
  refine st ?_
  refine lv (Val.lenS rfl und_9) ?_
  refine RunL.callT (isCall_func rfl ent_67) rfl rfl rfl (fun w hm=>need_calls _ _ w) (fun e15 he15=>?_) (fun v15 hv15=>?_)
  ·obtain ⟨er15,rfl⟩:=need_err he15
   have hlong:4096 < s.length:=by have:=of_decide_eq_false er15;omega
   refine RunE.pass_panic ?_
   exact RunE.panC2 (k:=3) (cs:=zsrdC) (rest:=rest++[]) [] rdC_catches ent_119 (by decide) rfl (.cons .here rfl (.cons .here rfl (Pick.cnt fun x=>by simp only [nC,List.map_cons,List.map_nil,markB,dfrO,cbB,inB,lnB,erO,cbXO];omega))) (.r2 rfl (.agg rfl (.tail _ (.head _)) ty_30 rfl) (.one rfl (.head _) ty_42 rfl)) (fun w hm=>⟨(zeroCX,3),.inr ⟨3,read_long hlong,rfl⟩,rfl,hm.pick (news':=rest++[]) (Pick.cnt fun x=>by simp only [nC,List.map_cons,List.map_nil,markB,dfrO,cbB,inB,lnB,erO,cbXO];omega)⟩)
  obtain ⟨ok15,rfl⟩:=need_ok hv15
  have hlen40:s.length≤4096:=by have:=of_decide_eq_true ok15;omega
  refine st ?_
  refine RunEF.next ?_
  refine RunCF.seq ?_
  refine RunCF.seq ?_
  refine RunCF.of ?_
  refine st ?_
  refine RunL.callN (isCall_func rfl ent_103) rfl rfl rfl (fun w hm=>(lines_calls s w)) (fun b17=>?_)
  refine st ?_
  refine RunEF.next ?_
  refine RunCF.block ?_
  refine RunCF.range Tryz.func52 (α:=LW) (X:=CbX) (enc:=fun x:LW=>pV x.wb) (eb:=lwB) (itb:=[(b17,strO s)]) (mis:=misf) (S:=fun xs=>Lib.hasSuffix s [10]=true∧xs.map (·.ws)=(linesL s).map lineW) (Sp:=fun xs=>Lib.hasSuffix s [10]=true∧xs.map (·.ws) <+: (linesL s).map lineW) (Sq:=fun k xs=>k=8∧xs=[]∧Lib.hasSuffix s [10]=false) (N:=s.length + 1) (fun x=>(b3,kCO m)::kCB m n0 n1::(n0,nO 0)::(n1,nO 1)::(b4,cbXO x)::cbB x) (fun pre x=>CbXOk pre.length x∧runL cabStep zeroC (pre.map (·.ws))=some x.pl) (fun _ _=>False) (fun c x=>c=[{ v:=misf 8,recovered:=false }]∧parseX cabStep zeroC s=none) zeroCX ⟨zeroCX_ok,rfl⟩ ((b5,erO 0)::rest) (.cons (.there (.there (.there .here))) rfl (.cons (.there (.there (.there .here))) rfl (.cons (.there (.there (.there .here))) rfl (.cons (.there (.there (.there .here))) rfl (.cons (.there (.there .here)) rfl (.cons (.here) rfl (.cons .here rfl (Pick.cnt fun x=>by simp only [List.append_eq,List.append_nil,List.nil_append];exact Nat.le_refl _)))))))) rfl ent_145 (wordsIt s hsl b17 W0 hL) rfl rfl (fun _=>rfl) rfl rfl rfl ?_ ?_ ?_ ?_ ?_
  ·intro l D ob pre v x tl hI hsp hlen
   obtain ⟨hx,hrun⟩:=hI
   obtain ⟨hsf,hspp⟩:=hsp
   have hwm:v.ws∈(linesL s).map lineW:=hspp.subset (by simp)
   have hwd:WdOk v.ws 0:=⟨Nat.zero_le _,(words_ok hlen40 hwm).1,(words_ok hlen40 hwm).2⟩
   have hpl:pre.length≤10000:=by omega
   have hbad:cabStep x.pl v.ws=none→parseX cabStep zeroC s=none:=fun h=>by (rw [parse_of hsf];exact runL_bad hrun h (by rw [List.map_append] at hspp;exact hspp))
   refine RunCR.keep (Sub.refl _) (news':=(l,ob)::(D,dfrO)::(v.wb,wdO v.sb v.ws.length 0)::(v.sb,stO v.ws)::(b3,kCO m)::kCB m n0 n1::(n0,nO 0)::(n1,nO 1)::(b4,cbXO x)::(cbB x++(tl++[]))) (Pick.cnt fun x=>by simp only [nC,List.map_cons,List.map_nil,markB,dfrO,cbB,inB,lnB,erO,cbXO];omega) ?_
   refine RunCR.block ?_
   refine RunCR.seq ?_
   refine RunCR.draw 9 fol_ (.cons .here rfl (.cons .here rfl (.cons (.there (.there .here)) rfl (.cons (.there (.there .here)) rfl (.cons (.there (.there .here)) rfl (.cons (.there (.there .here)) rfl (.cons (.there (.there .here)) rfl .nil))))))) ?_
   refine va 0 rfl (Val.fieldAddr rfl fld_94_1) rfl rfl rfl (.cons .here rfl (.cons .here rfl (.cons (.there (.there .here)) rfl (.cons (.there (.there .here)) rfl (.cons (.there (.there .here)) rfl (.cons (.there (.there .here)) rfl (.cons (.there (.there .here)) rfl .nil))))))) rfl ?_
   refine va 1 rfl (Val.load_one rfl (.tail _ (.tail _ (.head _))) ty_92 rfl) rfl rfl rfl (.cons .here rfl (.cons .here rfl (.cons (.there (.there .here)) rfl (.cons (.there (.there .here)) rfl (.cons (.there (.there .here)) rfl (.cons (.there (.there .here)) rfl (.cons (.there (.there .here)) rfl .nil))))))) rfl ?_
   refine va 2 rfl (Val.pure rfl) rfl rfl rfl (.cons .here rfl (.cons .here rfl (.cons (.there (.there .here)) rfl (.cons (.there (.there .here)) rfl (.cons (.there (.there .here)) rfl (.cons (.there (.there .here)) rfl (.cons (.there (.there .here)) rfl .nil))))))) rfl ?_
   refine RunA.one (i:=3) (by kernel_rfl) (by kernel_rfl) ?_
   refine RunI.callGT rfl (isCall_func rfl ent_104) rfl rfl rfl (fun w hm=>(calls_reG (nw':=fun _=>(l,ob)::(D,dfrO)::(v.wb,wdO v.sb v.ws.length 1)::(v.sb,stO v.ws)::(b3,kCO m)::kCB m n0 n1::(n0,nO 0)::(n1,nO 1)::(b4,cbXO x)::(cbB x++(tl++[]))) (np':=fun _=>(l,ob)::(D,dfrO)::(b3,kCO m)::kCB m n0 n1::(n0,nO 0)::(n1,nO 1)::(b4,cbXO x)::(cbB x++(tl++[]))) (word_calls v.wb v.sb v.ws 0 ((l,ob)::(D,dfrO)::(b3,kCO m)::kCB m n0 n1::(n0,nO 0)::(n1,nO 1)::(b4,cbXO x)::(cbB x++tl)) W0 w (hm.pick (Pick.cnt fun x=>by simp only [nC,List.map_cons,List.map_nil,markB,dfrO,cbB,inB,lnB,erO,cbXO];omega)) hwd) (fun _=>by simp only [Nat.zero_add];exact (Pick.cnt fun x=>by simp only [nC,List.map_cons,List.map_nil,markB,dfrO,cbB,inB,lnB,erO,cbXO];omega)) (fun _=>(Pick.cnt fun x=>by simp only [nC,List.map_cons,List.map_nil,markB,dfrO,cbB,inB,lnB,erO,cbXO];omega)))) (fun p23 hp23=>?_) (fun z23 hz23=>(RunK.toA (.cons .here rfl (.cons .here rfl (.cons (.there (.there .here)) rfl (.cons (.there (.there .here)) rfl (.cons (.there (.there .here)) rfl (.cons (.there (.there .here)) rfl (.cons (.there (.there .here)) rfl .nil))))))) (.cons .here rfl (.cons .here rfl (.cons .here rfl (.cons .here rfl (.cons .here rfl (.cons .here rfl (.cons .here rfl .nil))))))) rfl ?_))
   ·refine RunE.pass_panic ?_
    refine RunE.block_panic ?_
    exact RunE.bodyQ_panic x ⟨rfl,hbad (by rw [List.eq_nil_of_length_eq_zero (Nat.le_zero.1 hp23)];rfl)⟩ (Pick.cnt fun x=>by simp only [nC,List.map_cons,List.map_nil,markB,dfrO,cbB,inB,lnB,erO,cbXO];omega)
   refine RunA.one (i:=4) (by kernel_rfl) (by kernel_rfl) ?_
   refine RunI.val rfl (Val.lookupOkS rfl rfl (fun w hm=>hm.at (.tail _ (.tail _ (.tail _ (.tail _ (.tail _ (.head _))))))) mapSB_92 zeroV_173) rfl rfl rfl (RunK.toA (.cons .here rfl (.cons .here rfl (.cons (.there (.there .here)) rfl (.cons (.there (.there .here)) rfl (.cons (.there (.there .here)) rfl (.cons (.there (.there .here)) rfl (.cons (.there (.there .here)) rfl .nil))))))) (.cons .here rfl (.cons .here rfl (.cons .here rfl (.cons .here rfl (.cons .here rfl (.cons .here rfl (.cons .here rfl .nil))))))) rfl ?_)
   refine va 5 rfl (Val.pure rfl) rfl rfl rfl (.cons .here rfl (.cons .here rfl (.cons (.there (.there .here)) rfl (.cons (.there (.there .here)) rfl (.cons (.there (.there .here)) rfl (.cons (.there (.there .here)) rfl (.cons (.there (.there .here)) rfl .nil))))))) rfl ?_
   refine va 6 rfl (Val.pure rfl) rfl rfl rfl (.cons .here rfl (.cons .here rfl (.cons (.there (.there .here)) rfl (.cons (.there (.there .here)) rfl (.cons (.there (.there .here)) rfl (.cons (.there (.there .here)) rfl (.cons (.there (.there .here)) rfl .nil))))))) rfl ?_
   refine va 7 rfl (Val.pure rfl) rfl rfl rfl (.cons .here rfl (.cons .here rfl (.cons (.there (.there .here)) rfl (.cons (.there (.there .here)) rfl (.cons (.there (.there .here)) rfl (.cons (.there (.there .here)) rfl (.cons (.there (.there .here)) rfl .nil))))))) rfl ?_
   refine va 8 rfl (Val.pure rfl) rfl rfl rfl (.cons .here rfl (.cons .here rfl (.cons (.there (.there .here)) rfl (.cons (.there (.there .here)) rfl (.cons (.there (.there .here)) rfl (.cons (.there (.there .here)) rfl (.cons (.there (.there .here)) rfl .nil))))))) rfl ?_
   refine RunA.toB (by kernel_rfl) ?_
   refine RunB.one (i:=9) (by kernel_rfl) ?_
   refine RunI.val rfl (Val.pure rfl) rfl rfl rfl (RunK.toB ?_)
   refine RunB.done (by kernel_rfl) ?_
   refine RunER.next ?_
   refine RunCR.seq ?_
   refine RunCR.regionP ?_
   refine st ?_
   refine RunL.callT (isCall_func rfl ent_67) rfl rfl rfl (fun w hm=>need_calls _ _ w) (fun e28 he28=>?_) (fun v28 hv28=>?_)
   ·obtain ⟨er28,rfl⟩:=need_err he28
    have hnone:=Option.isNone_iff_eq_none.1 (Option.isSome_eq_false_iff.1 er28)
    refine RunE.pass_panic ?_
    refine RunE.block_panic ?_
    exact RunE.bodyQ_panic x ⟨rfl,hbad (lineC_none _ _ hnone)⟩ (Pick.cnt fun x=>by simp only [nC,List.map_cons,List.map_nil,markB,dfrO,cbB,inB,lnB,erO,cbXO];omega)
   obtain ⟨ok28,rfl⟩:=need_ok hv28
   obtain ⟨fv,hfv⟩:=Option.isSome_iff_exists.1 ok28
   refine st ?_
   refine RunER.next ?_
   refine RunCR.regionP ?_
   refine vp rfl rfl rfl rfl ?_
   refine vp rfl rfl rfl rfl ?_
   obtain ⟨gf,cap,rfl,hent,hcall⟩:=lineC_calls v.wb v.sb v.ws b4 x pre.length ((l,ob)::(D,dfrO)::(b3,kCO m)::kCB m n0 n1::tl) n0 n1 W0 hL (hwd.next hz23) hx hpl hfv
   rw [hfv]
   simp only [Option.getD_some]
   refine RunL.callGT (isCall_value rfl rfl hent) rfl rfl rfl (fun w hm=>(calls_reG (nw':=fun z=>(l,ob)::(D,dfrO)::(b3,kCO m)::kCB m n0 n1::(n0,nO 0)::(n1,nO 1)::(b4,cbXO z)::(cbB z++(tl++[]))) (np':=fun z=>(l,ob)::(D,dfrO)::(b3,kCO m)::kCB m n0 n1::(n0,nO 0)::(n1,nO 1)::(b4,cbXO z)::(cbB z++(tl++[]))) (hcall w (hm.pick (Pick.cnt fun x=>by simp only [nC,List.map_cons,List.map_nil,markB,dfrO,cbB,inB,lnB,erO,cbXO];omega))) (fun _=>(Pick.cnt fun x=>by simp only [nC,List.map_cons,List.map_nil,markB,dfrO,cbB,inB,lnB,erO,cbXO];omega)) (fun _=>(Pick.cnt fun x=>by simp only [nC,List.map_cons,List.map_nil,markB,dfrO,cbB,inB,lnB,erO,cbXO];omega)))) (fun p31 hp31=>?_) (fun z31 hz31=>?_)
   ·refine RunE.block_panic ?_
    exact RunE.bodyQ_panic p31 ⟨rfl,hbad hp31.2⟩ (Pick.cnt fun x=>by simp only [nC,List.map_cons,List.map_nil,markB,dfrO,cbB,inB,lnB,erO,cbXO];omega)
   refine st ?_
   exact RunE.bodyQ z31 ⟨by rw [List.length_append];exact hz31.1,by rw [List.map_append];exact (runL_snoc hrun).trans hz31.2⟩ (Pick.cnt fun x=>by simp only [nC,List.map_cons,List.map_nil,markB,dfrO,cbB,inB,lnB,erO,cbXO];omega)
  ·intro D xs x hS hI
   obtain ⟨hsf,hws⟩:=hS
   have hx:=hI
   have hpar:parseX cabStep zeroC s=some x.pl:=by (rw [parse_of hsf,← hws];exact hx.2)
   have hxn:xs.length≤10000:=by (have h1:=congrArg List.length hws;have h2:=linesL_len s;simp only [List.length_map] at h1;omega)
   refine RunE.keep (Sub.refl _) (news':=(D,dfrO)::(b3,kCO m)::kCB m n0 n1::(n0,nO 0)::(n1,nO 1)::(b4,cbXO x)::(b5,erO 0)::(cbB x++(rest++[]))) (Pick.cnt fun x=>by simp only [nC,List.map_cons,List.map_nil,markB,dfrO,cbB,inB,lnB,erO,cbXO];omega) ?_
   refine st ?_
   refine RunEF.next ?_
   refine RunCF.seq ?_
   refine RunCF.of ?_
   refine st ?_
   refine lv (Val.load_agg rfl (.tail _ (.tail _ (.tail _ (.tail _ (.tail _ (.head _)))))) ty_30 rfl) ?_
   refine lv (Val.load_agg rfl (.tail _ (.head _)) ty_94 rfl) ?_
   refine RunL.callP (isCall_func rfl ent_49) rfl rfl rfl (fun w hm=>(writeCX_calls x xs.length hx.1 (hx.1.sm hxn) m _ W0 w (hm.pick (news':=cbB x++(rest++[])) (Pick.cnt fun x=>by simp only [nC,List.map_cons,List.map_nil,markB,dfrO,cbB,inB,lnB,erO,cbXO];omega)) (hL.mono hm))) ?_
   refine st ?_
   refine RunEF.next ?_
   refine RunCF.seq ?_
   refine RunCF.of ?_
   refine st ?_
   refine RunL.ways (dj:=40) rfl ?_ ?_
   ·intro g40
    have g40':=g40;clear g40
    try simp only [nH] at g40'
    refine st ?_
    refine lv (Val.eqlStr rfl rfl) ?_
    refine RunL.callT (isCall_func rfl ent_67) rfl rfl rfl (fun w hm=>need_calls _ _ w) (fun e45 he45=>?_) (fun v45 hv45=>?_)
    ·obtain ⟨er45,rfl⟩:=need_err he45
     refine RunE.pass_panic ?_
     exact RunE.panC2 (k:=8) (cs:=x.cells) (rest:=cbB x++(rest++[])) [D] rdC_catches ent_119 (by decide) rfl (Pick.cnt fun x=>by simp only [nC,List.map_cons,List.map_nil,markB,dfrO,cbB,inB,lnB,erO,cbXO];omega) (.r2 rfl (.agg rfl (.tail _ (.head _)) ty_30 rfl) (.one rfl (.head _) ty_42 rfl)) (fun w hm=>⟨(zeroCX,8),.inr ⟨8,read_no (by omega) hpar (fun h=>by have h2:=of_decide_eq_false er45;rw [if_pos h] at h2;exact h2),rfl⟩,rfl,hm.pick (news':=rest++[]) (Pick.cnt fun x=>by simp only [nC,List.map_cons,List.map_nil,markB,dfrO,cbB,inB,lnB,erO,cbXO];omega)⟩)
    obtain ⟨ok45,rfl⟩:=need_ok hv45
    first | (have htx:cabX x.pl=true:=if01 g40') | skip
    refine st ?_
    refine RunEF.next ?_
    refine RunCF.seq ?_
    refine RunCF.of ?_
    refine st ?_
    refine lv (Val.load_agg rfl (.tail _ (.tail _ (.tail _ (.tail _ (.tail _ (.head _)))))) ty_30 rfl) ?_
    refine RunL.sto (Sto.store (cs:=x.cells) (cs':=x.cells) rfl rfl (.there (.there (.there (.there (.there .here))))) ty_30 rfl (paste_cbX x)) rfl rfl ?_
    refine RunL.sto (Sto.store rfl rfl (.there (.there (.there (.there (.there (.there .here)))))) ty_42 rfl rfl) rfl rfl ?_
    refine st ?_
    refine RunEF.next ?_
    refine RunCF.of ?_
    refine RunC.ret ?_
    exact RunE.outC2 (news2:=(b5,erO 0)::(b4,cbXO x)::(cbB x++(rest++[]))) [D] rdC_catches ent_119 (Pick.cnt fun x=>by simp only [nC,List.map_cons,List.map_nil,markB,dfrO,cbB,inB,lnB,erO,cbXO];omega) (.head _) (.r2 rfl (.agg rfl (.tail _ (.head _)) ty_30 rfl) (.one rfl (.head _) ty_42 rfl)) (fun w hm=>⟨(x,0),.inl ⟨x.pl,read_yes (by omega) hpar htx (by have h2:=of_decide_eq_true ok45;rw [if_pos htx] at h2;exact h2),rfl,rfl,hx.1.le hxn⟩,rfl,hm.pick (Pick.cnt fun x=>by simp only [nC,List.map_cons,List.map_nil,markB,dfrO,cbB,inB,lnB,erO,cbXO];omega)⟩)
   intro g40
   have g40':=g40;clear g40
   try simp only [nH] at g40'
   iterate 3 refine RunL.no rfl rfl rfl ?_
   refine st ?_
   refine RunL.callT (isCall_func rfl ent_67) rfl rfl rfl (fun w hm=>need_calls _ _ w) (fun e45 he45=>?_) (fun v45 hv45=>?_)
   ·obtain ⟨er45,rfl⟩:=need_err he45
    refine RunE.pass_panic ?_
    exact RunE.panC2 (k:=8) (cs:=x.cells) (rest:=cbB x++(rest++[])) [D] rdC_catches ent_119 (by decide) rfl (Pick.cnt fun x=>by simp only [nC,List.map_cons,List.map_nil,markB,dfrO,cbB,inB,lnB,erO,cbXO];omega) (.r2 rfl (.agg rfl (.tail _ (.head _)) ty_30 rfl) (.one rfl (.head _) ty_42 rfl)) (fun w hm=>⟨(zeroCX,8),.inr ⟨8,read_no (by omega) hpar (fun h=>by rw [if_pos h] at g40';exact absurd rfl g40'),rfl⟩,rfl,hm.pick (news':=rest++[]) (Pick.cnt fun x=>by simp only [nC,List.map_cons,List.map_nil,markB,dfrO,cbB,inB,lnB,erO,cbXO];omega)⟩)
   obtain ⟨ok45,rfl⟩:=need_ok hv45
   first | (have htx:cabX x.pl=true:=if01 g40') | skip
   refine st ?_
   refine RunEF.next ?_
   refine RunCF.seq ?_
   refine RunCF.of ?_
   refine st ?_
   refine lv (Val.load_agg rfl (.tail _ (.tail _ (.tail _ (.tail _ (.tail _ (.head _)))))) ty_30 rfl) ?_
   refine RunL.sto (Sto.store (cs:=x.cells) (cs':=x.cells) rfl rfl (.there (.there (.there (.there (.there .here))))) ty_30 rfl (paste_cbX x)) rfl rfl ?_
   refine RunL.sto (Sto.store rfl rfl (.there (.there (.there (.there (.there (.there .here)))))) ty_42 rfl rfl) rfl rfl ?_
   refine st ?_
   refine RunEF.next ?_
   refine RunCF.of ?_
   refine RunC.ret ?_
   exact absurd ok45 (by decide)
  ·intro D c x hst
   exact hst.elim
  ·intro D c x hp
   obtain ⟨rfl,hnop⟩:=hp
   refine RunE.keep (Sub.refl _) (news':=(D,dfrO)::(b3,kCO m)::kCB m n0 n1::(n0,nO 0)::(n1,nO 1)::(b4,cbXO x)::(b5,erO 0)::(cbB x++(rest++[]))) (Pick.cnt fun x=>by simp only [nC,List.map_cons,List.map_nil,markB,dfrO,cbB,inB,lnB,erO,cbXO];omega) ?_
   refine RunE.block_panic ?_
   refine RunE.pass_panic ?_
   exact RunE.panC2 (k:=8) (cs:=x.cells) (rest:=cbB x++(rest++[])) [D] rdC_catches ent_119 (by decide) rfl (Pick.cnt fun x=>by simp only [nC,List.map_cons,List.map_nil,markB,dfrO,cbB,inB,lnB,erO,cbXO];omega) (.r2 rfl (.agg rfl (.tail _ (.head _)) ty_30 rfl) (.one rfl (.head _) ty_42 rfl)) (fun w hm=>⟨(zeroCX,8),.inr ⟨8,read_bad (by omega) hnop,rfl⟩,rfl,hm.pick (news':=rest++[]) (Pick.cnt fun x=>by simp only [nC,List.map_cons,List.map_nil,markB,dfrO,cbB,inB,lnB,erO,cbXO];omega)⟩)
  intro D k xs x hq hI
  obtain ⟨rfl,rfl,hsf⟩:=hq
  have hnop:parseX cabStep zeroC s=none:=parse_no hsf
  refine RunE.keep (Sub.refl _) (news':=(D,dfrO)::(b3,kCO m)::kCB m n0 n1::(n0,nO 0)::(n1,nO 1)::(b4,cbXO x)::(b5,erO 0)::(cbB x++(rest++[]))) (Pick.cnt fun x=>by simp only [nC,List.map_cons,List.map_nil,markB,dfrO,cbB,inB,lnB,erO,cbXO];omega) ?_
  refine RunE.block_panic ?_
  refine RunE.pass_panic ?_
  exact RunE.panC2 (k:=8) (cs:=x.cells) (rest:=cbB x++(rest++[])) [D] rdC_catches ent_119 (by decide) rfl (Pick.cnt fun x=>by simp only [nC,List.map_cons,List.map_nil,markB,dfrO,cbB,inB,lnB,erO,cbXO];omega) (.r2 rfl (.agg rfl (.tail _ (.head _)) ty_30 rfl) (.one rfl (.head _) ty_42 rfl)) (fun w hm=>⟨(zeroCX,8),.inr ⟨8,read_bad (by omega) hnop,rfl⟩,rfl,hm.pick (news':=rest++[]) (Pick.cnt fun x=>by simp only [nC,List.map_cons,List.map_nil,markB,dfrO,cbB,inB,lnB,erO,cbXO];omega)⟩)
set_option maxHeartbeats 1000000 in
theorem readR_calls (s:Str) (m:Nat) (rest:Blks) (W0 w0:World) (hL:Lw Tryz.prog W0) (hm0:Mem W0 [] (kRB m::(rest++[])) w0) (hsl:s.length≤100000) :
    Calls Tryz.prog 56 #[.string (bs s),kindV 121 126 m] w0 (Grow W0 [] (fun z:RyX×Int=>.tuple #[.agg z.1.cells.toArray,.int .i64 z.2]) (fun z=>ryB z.1++(rest++[])) (RdX (readX royStep zeroR royalX royalS s) RyX.pl (RyXOk 10000) zeroRX)):=by
  refine calls_start_F hm0 Tryz.func56 rfl rfl ?_
  refine RunCF.seq ?_
  refine RunCF.of ?_
  refine st ?_
  refine RunL.new (New.box rfl) rfl rfl rfl (fun b3=>?_)
  refine RunL.new (New.alloc zero_35) rfl rfl rfl (fun b4=>?_)
  refine RunL.new (New.alloc zero_42) rfl rfl rfl (fun b5=>?_)
  refine st ?_
  refine RunEF.next ?_
  refine RunCF.seq ?_
  refine RunCF.of ?_
  refine st ?_
  refine RunL.deferC rfl ?_
  refine st ?_
  refine RunEF.next ?_
  refine RunCF.seq ?_
  refine RunCF.of ?_
  refine st ?_
  refine lv (Val.lenS rfl und_9) ?_
  refine RunL.callT (isCall_func rfl ent_67) rfl rfl rfl (fun w hm=>need_calls _ _ w) (fun e15 he15=>?_) (fun v15 hv15=>?_)
  ·obtain ⟨er15,rfl⟩:=need_err he15
   have hlong:4096 < s.length:=by have:=of_decide_eq_false er15;omega
   refine RunE.pass_panic ?_
   exact RunE.panC2 (k:=3) (cs:=zsrdR) (rest:=rest++[]) [] rdR_catches ent_127 (by decide) rfl (.cons .here rfl (.cons .here rfl (Pick.cnt fun x=>by simp only [nC,List.map_cons,List.map_nil,markB,dfrO,ryB,tmB,inB,shB,rpB,erO,ryXO];omega))) (.r2 rfl (.agg rfl (.tail _ (.head _)) ty_35 rfl) (.one rfl (.head _) ty_42 rfl)) (fun w hm=>⟨(zeroRX,3),.inr ⟨3,read_long hlong,rfl⟩,rfl,hm.pick (news':=rest++[]) (Pick.cnt fun x=>by simp only [nC,List.map_cons,List.map_nil,markB,dfrO,ryB,tmB,inB,shB,rpB,erO,ryXO];omega)⟩)
  obtain ⟨ok15,rfl⟩:=need_ok hv15
  have hlen40:s.length≤4096:=by have:=of_decide_eq_true ok15;omega
  refine st ?_
  refine RunEF.next ?_
  refine RunCF.seq ?_
  refine RunCF.seq ?_
  refine RunCF.of ?_
  refine st ?_
  refine RunL.callN (isCall_func rfl ent_103) rfl rfl rfl (fun w hm=>(lines_calls s w)) (fun b17=>?_)
  refine st ?_
  refine RunEF.next ?_
  refine RunCF.block ?_
  refine RunCF.range Tryz.func56 (α:=LW) (X:=RyX) (enc:=fun x:LW=>pV x.wb) (eb:=lwB) (itb:=[(b17,strO s)]) (mis:=misf) (S:=fun xs=>Lib.hasSuffix s [10]=true∧xs.map (·.ws)=(linesL s).map lineW) (Sp:=fun xs=>Lib.hasSuffix s [10]=true∧xs.map (·.ws) <+: (linesL s).map lineW) (Sq:=fun k xs=>k=8∧xs=[]∧Lib.hasSuffix s [10]=false) (N:=s.length + 1) (fun x=>(b3,kRO m)::kRB m::(b4,ryXO x)::ryB x) (fun pre x=>RyXOk pre.length x∧runL royStep zeroR (pre.map (·.ws))=some x.pl) (fun _ _=>False) (fun c x=>c=[{ v:=misf 8,recovered:=false }]∧parseX royStep zeroR s=none) zeroRX ⟨zeroRX_ok,rfl⟩ ((b5,erO 0)::rest) (.cons (.there (.there (.there .here))) rfl (.cons (.there (.there (.there .here))) rfl (.cons (.there (.there .here)) rfl (.cons (.here) rfl (.cons .here rfl (Pick.cnt fun x=>by simp only [List.append_eq,List.append_nil,List.nil_append];exact Nat.le_refl _)))))) rfl ent_145 (wordsIt s hsl b17 W0 hL) rfl rfl (fun _=>rfl) rfl rfl rfl ?_ ?_ ?_ ?_ ?_
  ·intro l D ob pre v x tl hI hsp hlen
   obtain ⟨hx,hrun⟩:=hI
   obtain ⟨hsf,hspp⟩:=hsp
   have hwm:v.ws∈(linesL s).map lineW:=hspp.subset (by simp)
   have hwd:WdOk v.ws 0:=⟨Nat.zero_le _,(words_ok hlen40 hwm).1,(words_ok hlen40 hwm).2⟩
   have hpl:pre.length≤10000:=by omega
   have hbad:royStep x.pl v.ws=none→parseX royStep zeroR s=none:=fun h=>by (rw [parse_of hsf];exact runL_bad hrun h (by rw [List.map_append] at hspp;exact hspp))
   refine RunCR.keep (Sub.refl _) (news':=(l,ob)::(D,dfrO)::(v.wb,wdO v.sb v.ws.length 0)::(v.sb,stO v.ws)::(b3,kRO m)::kRB m::(b4,ryXO x)::(ryB x++(tl++[]))) (Pick.cnt fun x=>by simp only [nC,List.map_cons,List.map_nil,markB,dfrO,ryB,tmB,inB,shB,rpB,erO,ryXO];omega) ?_
   refine RunCR.block ?_
   refine RunCR.seq ?_
   refine RunCR.draw 9 fol_ (.cons .here rfl (.cons .here rfl (.cons (.there (.there .here)) rfl (.cons (.there (.there .here)) rfl (.cons (.there (.there .here)) rfl .nil))))) ?_
   refine va 0 rfl (Val.fieldAddr rfl fld_106_1) rfl rfl rfl (.cons .here rfl (.cons .here rfl (.cons (.there (.there .here)) rfl (.cons (.there (.there .here)) rfl (.cons (.there (.there .here)) rfl .nil))))) rfl ?_
   refine va 1 rfl (Val.load_one rfl (.tail _ (.tail _ (.head _))) ty_104 rfl) rfl rfl rfl (.cons .here rfl (.cons .here rfl (.cons (.there (.there .here)) rfl (.cons (.there (.there .here)) rfl (.cons (.there (.there .here)) rfl .nil))))) rfl ?_
   refine va 2 rfl (Val.pure rfl) rfl rfl rfl (.cons .here rfl (.cons .here rfl (.cons (.there (.there .here)) rfl (.cons (.there (.there .here)) rfl (.cons (.there (.there .here)) rfl .nil))))) rfl ?_
   refine RunA.one (i:=3) (by kernel_rfl) (by kernel_rfl) ?_
   refine RunI.callGT rfl (isCall_func rfl ent_104) rfl rfl rfl (fun w hm=>(calls_reG (nw':=fun _=>(l,ob)::(D,dfrO)::(v.wb,wdO v.sb v.ws.length 1)::(v.sb,stO v.ws)::(b3,kRO m)::kRB m::(b4,ryXO x)::(ryB x++(tl++[]))) (np':=fun _=>(l,ob)::(D,dfrO)::(b3,kRO m)::kRB m::(b4,ryXO x)::(ryB x++(tl++[]))) (word_calls v.wb v.sb v.ws 0 ((l,ob)::(D,dfrO)::(b3,kRO m)::kRB m::(b4,ryXO x)::(ryB x++tl)) W0 w (hm.pick (Pick.cnt fun x=>by simp only [nC,List.map_cons,List.map_nil,markB,dfrO,ryB,tmB,inB,shB,rpB,erO,ryXO];omega)) hwd) (fun _=>by simp only [Nat.zero_add];exact (Pick.cnt fun x=>by simp only [nC,List.map_cons,List.map_nil,markB,dfrO,ryB,tmB,inB,shB,rpB,erO,ryXO];omega)) (fun _=>(Pick.cnt fun x=>by simp only [nC,List.map_cons,List.map_nil,markB,dfrO,ryB,tmB,inB,shB,rpB,erO,ryXO];omega)))) (fun p23 hp23=>?_) (fun z23 hz23=>(RunK.toA (.cons .here rfl (.cons .here rfl (.cons (.there (.there .here)) rfl (.cons (.there (.there .here)) rfl (.cons (.there (.there .here)) rfl .nil))))) (.cons .here rfl (.cons .here rfl (.cons .here rfl (.cons .here rfl (.cons .here rfl .nil))))) rfl ?_))
   ·refine RunE.pass_panic ?_
    refine RunE.block_panic ?_
    exact RunE.bodyQ_panic x ⟨rfl,hbad (by rw [List.eq_nil_of_length_eq_zero (Nat.le_zero.1 hp23)];rfl)⟩ (Pick.cnt fun x=>by simp only [nC,List.map_cons,List.map_nil,markB,dfrO,ryB,tmB,inB,shB,rpB,erO,ryXO];omega)
   refine RunA.one (i:=4) (by kernel_rfl) (by kernel_rfl) ?_
   refine RunI.val rfl (Val.lookupOkS rfl rfl (fun w hm=>hm.at (.tail _ (.tail _ (.tail _ (.tail _ (.tail _ (.head _))))))) mapSB_104 zeroV_182) rfl rfl rfl (RunK.toA (.cons .here rfl (.cons .here rfl (.cons (.there (.there .here)) rfl (.cons (.there (.there .here)) rfl (.cons (.there (.there .here)) rfl .nil))))) (.cons .here rfl (.cons .here rfl (.cons .here rfl (.cons .here rfl (.cons .here rfl .nil))))) rfl ?_)
   refine va 5 rfl (Val.pure rfl) rfl rfl rfl (.cons .here rfl (.cons .here rfl (.cons (.there (.there .here)) rfl (.cons (.there (.there .here)) rfl (.cons (.there (.there .here)) rfl .nil))))) rfl ?_
   refine va 6 rfl (Val.pure rfl) rfl rfl rfl (.cons .here rfl (.cons .here rfl (.cons (.there (.there .here)) rfl (.cons (.there (.there .here)) rfl (.cons (.there (.there .here)) rfl .nil))))) rfl ?_
   refine va 7 rfl (Val.pure rfl) rfl rfl rfl (.cons .here rfl (.cons .here rfl (.cons (.there (.there .here)) rfl (.cons (.there (.there .here)) rfl (.cons (.there (.there .here)) rfl .nil))))) rfl ?_
   refine va 8 rfl (Val.pure rfl) rfl rfl rfl (.cons .here rfl (.cons .here rfl (.cons (.there (.there .here)) rfl (.cons (.there (.there .here)) rfl (.cons (.there (.there .here)) rfl .nil))))) rfl ?_
   refine RunA.toB (by kernel_rfl) ?_
   refine RunB.one (i:=9) (by kernel_rfl) ?_
   refine RunI.val rfl (Val.pure rfl) rfl rfl rfl (RunK.toB ?_)
   refine RunB.done (by kernel_rfl) ?_
   refine RunER.next ?_
   refine RunCR.seq ?_
   refine RunCR.regionP ?_
   refine st ?_
   refine RunL.callT (isCall_func rfl ent_67) rfl rfl rfl (fun w hm=>need_calls _ _ w) (fun e28 he28=>?_) (fun v28 hv28=>?_)
   ·obtain ⟨er28,rfl⟩:=need_err he28
    have hnone:=Option.isNone_iff_eq_none.1 (Option.isSome_eq_false_iff.1 er28)
    refine RunE.pass_panic ?_
    refine RunE.block_panic ?_
    exact RunE.bodyQ_panic x ⟨rfl,hbad (lineR_none _ _ hnone)⟩ (Pick.cnt fun x=>by simp only [nC,List.map_cons,List.map_nil,markB,dfrO,ryB,tmB,inB,shB,rpB,erO,ryXO];omega)
   obtain ⟨ok28,rfl⟩:=need_ok hv28
   obtain ⟨fv,hfv⟩:=Option.isSome_iff_exists.1 ok28
   refine st ?_
   refine RunER.next ?_
   refine RunCR.regionP ?_
   refine vp rfl rfl rfl rfl ?_
   refine vp rfl rfl rfl rfl ?_
   obtain ⟨gf,rfl,hent,hcall⟩:=lineR_calls v.wb v.sb v.ws b4 x pre.length ((l,ob)::(D,dfrO)::(b3,kRO m)::kRB m::tl) W0 hL (hwd.next hz23) hx hpl hfv
   rw [hfv]
   simp only [Option.getD_some]
   refine RunL.callGT (isCall_value rfl rfl hent) rfl rfl rfl (fun w hm=>(calls_reG (nw':=fun z=>(l,ob)::(D,dfrO)::(b3,kRO m)::kRB m::(b4,ryXO z)::(ryB z++(tl++[]))) (np':=fun z=>(l,ob)::(D,dfrO)::(b3,kRO m)::kRB m::(b4,ryXO z)::(ryB z++(tl++[]))) (hcall w (hm.pick (Pick.cnt fun x=>by simp only [nC,List.map_cons,List.map_nil,markB,dfrO,ryB,tmB,inB,shB,rpB,erO,ryXO];omega))) (fun _=>(Pick.cnt fun x=>by simp only [nC,List.map_cons,List.map_nil,markB,dfrO,ryB,tmB,inB,shB,rpB,erO,ryXO];omega)) (fun _=>(Pick.cnt fun x=>by simp only [nC,List.map_cons,List.map_nil,markB,dfrO,ryB,tmB,inB,shB,rpB,erO,ryXO];omega)))) (fun p31 hp31=>?_) (fun z31 hz31=>?_)
   ·refine RunE.block_panic ?_
    exact RunE.bodyQ_panic p31 ⟨rfl,hbad hp31.2⟩ (Pick.cnt fun x=>by simp only [nC,List.map_cons,List.map_nil,markB,dfrO,ryB,tmB,inB,shB,rpB,erO,ryXO];omega)
   refine st ?_
   exact RunE.bodyQ z31 ⟨by rw [List.length_append];exact hz31.1,by rw [List.map_append];exact (runL_snoc hrun).trans hz31.2⟩ (Pick.cnt fun x=>by simp only [nC,List.map_cons,List.map_nil,markB,dfrO,ryB,tmB,inB,shB,rpB,erO,ryXO];omega)
  ·intro D xs x hS hI
   obtain ⟨hsf,hws⟩:=hS
   have hx:=hI
   have hpar:parseX royStep zeroR s=some x.pl:=by (rw [parse_of hsf,← hws];exact hx.2)
   have hxn:xs.length≤10000:=by (have h1:=congrArg List.length hws;have h2:=linesL_len s;simp only [List.length_map] at h1;omega)
   refine RunE.keep (Sub.refl _) (news':=(D,dfrO)::(b3,kRO m)::kRB m::(b4,ryXO x)::(b5,erO 0)::(ryB x++(rest++[]))) (Pick.cnt fun x=>by simp only [nC,List.map_cons,List.map_nil,markB,dfrO,ryB,tmB,inB,shB,rpB,erO,ryXO];omega) ?_
   refine st ?_
   refine RunEF.next ?_
   refine RunCF.seq ?_
   refine RunCF.of ?_
   refine st ?_
   refine lv (Val.load_agg rfl (.tail _ (.tail _ (.tail _ (.head _)))) ty_35 rfl) ?_
   refine lv (Val.load_agg rfl (.tail _ (.head _)) ty_106 rfl) ?_
   refine RunL.callP (isCall_func rfl ent_54) rfl rfl rfl (fun w hm=>(writeRX_calls x xs.length hx.1 (hx.1.sm hxn) m _ W0 w (hm.pick (news':=ryB x++(rest++[])) (Pick.cnt fun x=>by simp only [nC,List.map_cons,List.map_nil,markB,dfrO,ryB,tmB,inB,shB,rpB,erO,ryXO];omega)) (hL.mono hm))) ?_
   refine st ?_
   refine RunEF.next ?_
   refine RunCF.seq ?_
   refine RunCF.of ?_
   refine st ?_
   refine RunL.ways (dj:=40) rfl ?_ ?_
   ·intro g40
    have g40':=g40;clear g40
    try simp only [nH] at g40'
    refine st ?_
    refine lv (Val.eqlStr rfl rfl) ?_
    refine RunL.callT (isCall_func rfl ent_67) rfl rfl rfl (fun w hm=>need_calls _ _ w) (fun e45 he45=>?_) (fun v45 hv45=>?_)
    ·obtain ⟨er45,rfl⟩:=need_err he45
     refine RunE.pass_panic ?_
     exact RunE.panC2 (k:=8) (cs:=x.cells) (rest:=ryB x++(rest++[])) [D] rdR_catches ent_127 (by decide) rfl (Pick.cnt fun x=>by simp only [nC,List.map_cons,List.map_nil,markB,dfrO,ryB,tmB,inB,shB,rpB,erO,ryXO];omega) (.r2 rfl (.agg rfl (.tail _ (.head _)) ty_35 rfl) (.one rfl (.head _) ty_42 rfl)) (fun w hm=>⟨(zeroRX,8),.inr ⟨8,read_no (by omega) hpar (fun h=>by have h2:=of_decide_eq_false er45;rw [if_pos h] at h2;exact h2),rfl⟩,rfl,hm.pick (news':=rest++[]) (Pick.cnt fun x=>by simp only [nC,List.map_cons,List.map_nil,markB,dfrO,ryB,tmB,inB,shB,rpB,erO,ryXO];omega)⟩)
    obtain ⟨ok45,rfl⟩:=need_ok hv45
    first | (have htx:royalX x.pl=true:=if01 g40') | skip
    refine st ?_
    refine RunEF.next ?_
    refine RunCF.seq ?_
    refine RunCF.of ?_
    refine st ?_
    refine lv (Val.load_agg rfl (.tail _ (.tail _ (.tail _ (.head _)))) ty_35 rfl) ?_
    refine RunL.sto (Sto.store (cs:=x.cells) (cs':=x.cells) rfl rfl (.there (.there (.there .here))) ty_35 rfl (paste_ryX x)) rfl rfl ?_
    refine RunL.sto (Sto.store rfl rfl (.there (.there (.there (.there .here)))) ty_42 rfl rfl) rfl rfl ?_
    refine st ?_
    refine RunEF.next ?_
    refine RunCF.of ?_
    refine RunC.ret ?_
    exact RunE.outC2 (news2:=(b5,erO 0)::(b4,ryXO x)::(ryB x++(rest++[]))) [D] rdR_catches ent_127 (Pick.cnt fun x=>by simp only [nC,List.map_cons,List.map_nil,markB,dfrO,ryB,tmB,inB,shB,rpB,erO,ryXO];omega) (.head _) (.r2 rfl (.agg rfl (.tail _ (.head _)) ty_35 rfl) (.one rfl (.head _) ty_42 rfl)) (fun w hm=>⟨(x,0),.inl ⟨x.pl,read_yes (by omega) hpar htx (by have h2:=of_decide_eq_true ok45;rw [if_pos htx] at h2;exact h2),rfl,rfl,hx.1.le hxn⟩,rfl,hm.pick (Pick.cnt fun x=>by simp only [nC,List.map_cons,List.map_nil,markB,dfrO,ryB,tmB,inB,shB,rpB,erO,ryXO];omega)⟩)
   intro g40
   have g40':=g40;clear g40
   try simp only [nH] at g40'
   iterate 3 refine RunL.no rfl rfl rfl ?_
   refine st ?_
   refine RunL.callT (isCall_func rfl ent_67) rfl rfl rfl (fun w hm=>need_calls _ _ w) (fun e45 he45=>?_) (fun v45 hv45=>?_)
   ·obtain ⟨er45,rfl⟩:=need_err he45
    refine RunE.pass_panic ?_
    exact RunE.panC2 (k:=8) (cs:=x.cells) (rest:=ryB x++(rest++[])) [D] rdR_catches ent_127 (by decide) rfl (Pick.cnt fun x=>by simp only [nC,List.map_cons,List.map_nil,markB,dfrO,ryB,tmB,inB,shB,rpB,erO,ryXO];omega) (.r2 rfl (.agg rfl (.tail _ (.head _)) ty_35 rfl) (.one rfl (.head _) ty_42 rfl)) (fun w hm=>⟨(zeroRX,8),.inr ⟨8,read_no (by omega) hpar (fun h=>by rw [if_pos h] at g40';exact absurd rfl g40'),rfl⟩,rfl,hm.pick (news':=rest++[]) (Pick.cnt fun x=>by simp only [nC,List.map_cons,List.map_nil,markB,dfrO,ryB,tmB,inB,shB,rpB,erO,ryXO];omega)⟩)
   obtain ⟨ok45,rfl⟩:=need_ok hv45
   first | (have htx:royalX x.pl=true:=if01 g40') | skip
   refine st ?_
   refine RunEF.next ?_
   refine RunCF.seq ?_
   refine RunCF.of ?_
   refine st ?_
   refine lv (Val.load_agg rfl (.tail _ (.tail _ (.tail _ (.head _)))) ty_35 rfl) ?_
   refine RunL.sto (Sto.store (cs:=x.cells) (cs':=x.cells) rfl rfl (.there (.there (.there .here))) ty_35 rfl (paste_ryX x)) rfl rfl ?_
   refine RunL.sto (Sto.store rfl rfl (.there (.there (.there (.there .here)))) ty_42 rfl rfl) rfl rfl ?_
   refine st ?_
   refine RunEF.next ?_
   refine RunCF.of ?_
   refine RunC.ret ?_
   exact absurd ok45 (by decide)
  ·intro D c x hst
   exact hst.elim
  ·intro D c x hp
   obtain ⟨rfl,hnop⟩:=hp
   refine RunE.keep (Sub.refl _) (news':=(D,dfrO)::(b3,kRO m)::kRB m::(b4,ryXO x)::(b5,erO 0)::(ryB x++(rest++[]))) (Pick.cnt fun x=>by simp only [nC,List.map_cons,List.map_nil,markB,dfrO,ryB,tmB,inB,shB,rpB,erO,ryXO];omega) ?_
   refine RunE.block_panic ?_
   refine RunE.pass_panic ?_
   exact RunE.panC2 (k:=8) (cs:=x.cells) (rest:=ryB x++(rest++[])) [D] rdR_catches ent_127 (by decide) rfl (Pick.cnt fun x=>by simp only [nC,List.map_cons,List.map_nil,markB,dfrO,ryB,tmB,inB,shB,rpB,erO,ryXO];omega) (.r2 rfl (.agg rfl (.tail _ (.head _)) ty_35 rfl) (.one rfl (.head _) ty_42 rfl)) (fun w hm=>⟨(zeroRX,8),.inr ⟨8,read_bad (by omega) hnop,rfl⟩,rfl,hm.pick (news':=rest++[]) (Pick.cnt fun x=>by simp only [nC,List.map_cons,List.map_nil,markB,dfrO,ryB,tmB,inB,shB,rpB,erO,ryXO];omega)⟩)
  intro D k xs x hq hI
  obtain ⟨rfl,rfl,hsf⟩:=hq
  have hnop:parseX royStep zeroR s=none:=parse_no hsf
  refine RunE.keep (Sub.refl _) (news':=(D,dfrO)::(b3,kRO m)::kRB m::(b4,ryXO x)::(b5,erO 0)::(ryB x++(rest++[]))) (Pick.cnt fun x=>by simp only [nC,List.map_cons,List.map_nil,markB,dfrO,ryB,tmB,inB,shB,rpB,erO,ryXO];omega) ?_
  refine RunE.block_panic ?_
  refine RunE.pass_panic ?_
  exact RunE.panC2 (k:=8) (cs:=x.cells) (rest:=ryB x++(rest++[])) [D] rdR_catches ent_127 (by decide) rfl (Pick.cnt fun x=>by simp only [nC,List.map_cons,List.map_nil,markB,dfrO,ryB,tmB,inB,shB,rpB,erO,ryXO];omega) (.r2 rfl (.agg rfl (.tail _ (.head _)) ty_35 rfl) (.one rfl (.head _) ty_42 rfl)) (fun w hm=>⟨(zeroRX,8),.inr ⟨8,read_bad (by omega) hnop,rfl⟩,rfl,hm.pick (news':=rest++[]) (Pick.cnt fun x=>by simp only [nC,List.map_cons,List.map_nil,markB,dfrO,ryB,tmB,inB,shB,rpB,erO,ryXO];omega)⟩)
end Go.Proofs.YtleamcmljcdapaaGreatDoor
namespace Go.Proofs.YtleamcmljcdapaaGreatDoor
open Go Go.Eng
theorem ent_71:Enters Tryz.prog 71:=enters_of Tryz.func71 (by kernel_rfl) rfl
theorem fld_131_0:fieldB Tryz.prog 131 0=some 0:=by kernel_rfl
theorem fld_131_1:fieldB Tryz.prog 131 1=some 1:=by kernel_rfl
theorem sls_58:Tryz.prog.underlying 58=some (.slice 5):=by kernel_rfl
end Go.Proofs.YtleamcmljcdapaaGreatDoor
namespace Go.Bk
open Go Go.Eng Go.RowKit
def numB (l:Str) (at':Nat):Option Int:=if at' + 2≤l.length then some (((l.getD at' 0).toNat * 256 + (l.getD (at' + 1) 0).toNat:Nat):Int) else none
def widthB (l:Str) (at':Nat):Option Sp:=match numB l at',numB l (at' + 2) with
  | some a,some b=>some ⟨a,a + b⟩
  | _,_=>none
theorem numB_ok {l:Str} {j:Nat} (h:j + 2≤l.length):numB l j=some (((l.getD j 0).toNat * 256 + (l.getD (j + 1) 0).toNat:Nat):Int):=by unfold numB;rw [if_pos h]
theorem numB_no {l:Str} {j:Nat} (h:¬ j + 2≤l.length):numB l j=none:=by unfold numB;rw [if_neg h]
theorem numB_lt {l:Str} {j:Nat} {n:Int} (h:numB l j=some n):0≤n∧n < 65536∧j + 2≤l.length:=by
  unfold numB at h
  split at h
  · cases h
    have h1:=(l.getD j 0).toNat_lt
    have h2:=(l.getD (j + 1) 0).toNat_lt
    omega
  · cases h
theorem byc_at {l:Str} {j:Nat} (h:j < l.length):(byc l)[j]? = some (.int .u8 ((l.getD j 0).toNat:Int)):=by
  unfold byc
  rw [List.getElem?_map,List.getElem?_eq_getElem h,List.getD_eq_getElem?_getD,List.getElem?_eq_getElem h]
  rfl
end Go.Bk
namespace Go.Proofs.YtleamcmljcdapaaGreatDoor
open Go Go.Eng Go.Bk Go.RowKit

abbrev byO (l:Str):Obj:=.cells (byc l).toArray 5 (0,0)
abbrev rdO (ob n at':Nat):Obj:=.cells [.slice (some ⟨ob,0,none⟩) n n,.int .i64 (at':Int)].toArray 131 (0,0)
theorem cloneB_calls (l:Str) (a:Addr) (c:Nat) (W:World) (hS:Sl W (some a) a.block a.off 1 (l.map byC)) (hl:l.length≤1000000):Calls Tryz.prog 68 #[.slice (some a) l.length c] W
    (News (fun z:{ y:Eng.Own // OwnOk 1 y l.length (byc l) }=>ownV z.1 l.length) (fun z=>ownB 5 z.1 (byc l)++[]) W):=by
  refine calls_start Tryz.func68 rfl rfl ?_
  refine st ?_
  refine lv (Val.eqlSlNil rfl sls_58) ?_
  refine RunC.cond rfl (fun h=>absurd h (by simp)) ?_
  intro c0
  clear c0
  refine st ?_
  refine RunL.new (New.buildSlice0 sl_58) rfl rfl rfl (fun b5=>?_)
  refine st ?_
  refine RunL.append (A:=[]) (B:=_) (x:=(some (b5,0,[]))) (ys:=byc l) ap_58 rfl rfl rfl OwnOk.empty (by rw [byc_len,Nat.mul_one]) (fun h=>by cases h) (fun w hm=>by have h:=(Sl.mono hS (by decide) hm (by simp)).flat (by decide);rw [← byc_flat] at h;exact h) (byc_one l) (by simp only [maxLen];omega) (by omega) rfl (fun z7 hz7=>?_)
  refine st ?_
  refine RunC.ret ?_
  exact RunE.ret (chg:=[]) (.r1 rfl (.tmp rfl)) (fun _ hm=>⟨⟨z7,by simpa using hz7⟩,by simp,hm.pick (Pick.refl _)⟩)
theorem equalB_calls (l m:Str) (q q2:Option Addr) (b o c b2 o2 c2:Nat) (W:World) (hS:Sl W q b o 1 (l.map byC)) (hS2:Sl W q2 b2 o2 1 (m.map byC)) (hl:l.length≤1000000):Calls Tryz.prog 69 #[.slice q l.length c,.slice q2 m.length c2] W (Pure (.bool (decide (l=m))) W):=by
  refine calls_start Tryz.func69 rfl rfl ?_
  refine st ?_
  refine lv (Val.len_sl rfl sl_58) ?_
  refine lv (Val.len_sl rfl sl_58) ?_
  refine cn rfl ?_ ?_
  ·intro c0'
   have hne:l.length ≠ m.length:=by omega
   refine st ?_
   refine RunC.ret ?_
   refine RunE.pass_ret ?_
   exact RunE.retP (.r1 rfl (.tmp rfl)) (by rw [decide_eq_false (fun h=>hne (by rw [h]))])
  intro c0'
  have heq:l.length=m.length:=by omega
  refine st ?_
  refine lv (Val.len_sl rfl sl_58) ?_
  refine RunC.loopK (l.length) (fun k q=>(13,.int .i64 (k:Int))::q) (fun _=>_) (fun _=>[]) (fun k=>l.take k=m.take k) (by simp) rfl (Sub.consE (t:=13) rfl rfl (Sub.cons (t:=0) rfl (Sub.cons (t:=1) rfl (Sub.cons (t:=12) rfl (Sub.nil _))))) .nil ?_
  intro k kN kI
  refine st ?_
  refine cn rfl ?_ ?_
  ·intro c1'
   have hk:k < l.length:=by omega
   have hk2:k < m.length:=by omega
   obtain ⟨y,hy⟩:∃ y,l[k]=y:=⟨_,rfl⟩
   obtain ⟨y2,hy2⟩:∃ y,m[k]=y:=⟨_,rfl⟩
   refine st ?_
   refine RunC.draw 8 fol_ .nil ?_
   refine va 0 rfl (Val.pure rfl) rfl rfl rfl .nil rfl ?_
   refine va 1 rfl (Val.pure rfl) rfl rfl rfl .nil rfl ?_
   refine va 2 rfl (Val.indexAddr_slp rfl rfl sl_58 (by omega) (by omega) (Sl.ptrM hS hk)) rfl rfl rfl .nil rfl ?_
   refine va 3 rfl (Val.load_gen rfl (fun w hm=>Sl.loadM1 hS (by decide) hm (by simp) ty_5 hk (v:=byteV y) (by simp [byC,hy]))) rfl rfl rfl .nil rfl ?_
   refine va 4 rfl (Val.pure rfl) rfl rfl rfl .nil rfl ?_
   refine va 5 rfl (Val.pure rfl) rfl rfl rfl .nil rfl ?_
   refine va 6 rfl (Val.indexAddr_slp rfl rfl sl_58 (by omega) (by omega) (Sl.ptrM hS2 hk2)) rfl rfl rfl .nil rfl ?_
   refine va 7 rfl (Val.load_gen rfl (fun w hm=>Sl.loadM1 hS2 (by decide) hm (by simp) ty_5 hk2 (v:=byteV y2) (by simp [byC,hy2]))) rfl rfl rfl .nil rfl ?_
   refine RunA.toB (by kernel_rfl) ?_
   refine RunB.one (i:=8) (by kernel_rfl) ?_
   refine RunI.val rfl (Val.pure rfl) rfl rfl rfl (RunK.toB ?_)
   refine RunB.done (by kernel_rfl) ?_
   refine st ?_
   refine cn rfl ?_ ?_
   ·intro c2'
    refine st ?_
    refine RunC.ret ?_
    refine RunE.block_ret ?_
    refine RunE.pass_ret ?_
    refine RunE.pass_ret ?_
    refine RunE.block_ret ?_
    refine RunE.pass_ret ?_
    exact RunE.retP (.r1 rfl (.tmp rfl)) (by rw [decide_eq_false (fun h=>by subst h;rw [hy] at hy2;subst hy2;omega)])
   intro c2'
   refine st ?_
   refine lv (Val.add rfl rfl (IntWalk.i64_in _ ⟨by omega,by omega⟩)) ?_
   exact RunE.round (by omega) (by rw [List.take_succ_eq_append_getElem hk,List.take_succ_eq_append_getElem hk2,kI,hy,hy2];have e:y=y2:=(UInt8.toNat_inj.1 (by omega));rw [e]) rfl (Sub.consE (t:=13) rfl rfl (Sub.cons (t:=0) rfl (Sub.cons (t:=1) rfl (Sub.cons (t:=12) rfl (Sub.nil _))))) .nil
  intro c1'
  obtain rfl:k=l.length:=by omega
  refine RunC.exit ?_
  refine RunE.pass_exit ?_
  refine RunE.pass_exit ?_
  refine RunE.block_here ?_
  refine st ?_
  refine RunC.ret ?_
  exact RunE.retP (.r1 rfl (.tmp rfl)) (by rw [decide_eq_true (by have h:=kI;rw [List.take_length,heq,List.take_length] at h;exact h)])
theorem take_calls (rb ob:Nat) (l:Str) (at':Nat) (rest:Blks) (W0 w:World) (hm0:Mem W0 [] ((rb,rdO ob l.length at')::(ob,byO l)::(rest++[])) w) (ha:at'≤l.length) (hl:l.length≤1000000) :
    Calls Tryz.prog 71 #[pV rb] w (GrowT W0 [] (fun n:Int=>.int .i64 n) (fun _=>(rb,rdO ob l.length (at' + 2))::(ob,byO l)::(rest++[])) (fun n=>numB l at'=some n) misf (fun _:Unit=>8) (fun _=>(rb,rdO ob l.length at')::(ob,byO l)::(rest++[])) (fun _=>numB l at'=none)):=by
  refine calls_from hm0 Tryz.func71 rfl rfl ?_
  refine st ?_
  refine RunC.draw 10 fol_ (.cons .here rfl (.cons .here rfl .nil)) ?_
  refine va 0 rfl (Val.pure rfl) rfl rfl rfl (.cons .here rfl (.cons .here rfl .nil)) rfl ?_
  refine va 1 rfl (Val.pure rfl) rfl rfl rfl (.cons .here rfl (.cons .here rfl .nil)) rfl ?_
  refine va 2 rfl (Val.fieldAddr rfl fld_131_0) rfl rfl rfl (.cons .here rfl (.cons .here rfl .nil)) rfl ?_
  refine va 3 rfl (Val.fieldAddr rfl fld_118_0) rfl rfl rfl (.cons .here rfl (.cons .here rfl .nil)) rfl ?_
  refine va 4 rfl (Val.load_one rfl (.head _) ty_58 rfl) rfl rfl rfl (.cons .here rfl (.cons .here rfl .nil)) rfl ?_
  refine va 5 rfl (Val.len_sl rfl sl_58) rfl rfl rfl (.cons .here rfl (.cons .here rfl .nil)) rfl ?_
  refine va 6 rfl (Val.pure rfl) rfl rfl rfl (.cons .here rfl (.cons .here rfl .nil)) rfl ?_
  refine va 7 rfl (Val.pure rfl) rfl rfl rfl (.cons .here rfl (.cons .here rfl .nil)) rfl ?_
  refine va 8 rfl (Val.fieldAddr rfl fld_131_1) rfl rfl rfl (.cons .here rfl (.cons .here rfl .nil)) rfl ?_
  refine va 9 rfl (Val.load_one rfl (.head _) ty_3 rfl) rfl rfl rfl (.cons .here rfl (.cons .here rfl .nil)) rfl ?_
  refine RunA.toB (by kernel_rfl) ?_
  refine RunB.one (i:=10) (by kernel_rfl) ?_
  refine RunI.val rfl (Val.sub' rfl rfl (IntWalk.i64_in _ ⟨by omega,by omega⟩)) rfl rfl rfl (RunK.toB ?_)
  refine RunB.one (i:=11) (by kernel_rfl) ?_
  refine RunI.val rfl (Val.pure rfl) rfl rfl rfl (RunK.toB ?_)
  refine RunB.one (i:=12) (by kernel_rfl) ?_
  refine RunI.callT rfl (isCall_func rfl ent_67) rfl rfl rfl (fun w hm=>need_calls _ _ w) (fun e16 he16=>?_) (fun v16 hv16=>(RunK.toB ?_))
  ·obtain ⟨er16,rfl⟩:=need_err he16
   have hge:¬ at' + 2≤l.length:=by have:=of_decide_eq_false er16;omega
   refine RunE.pass_panic ?_
   exact RunE.panGT () (numB_no hge) rfl (.cons .here rfl (.cons .here rfl (Pick.refl _)))
  obtain ⟨ok16,rfl⟩:=need_ok hv16
  have hlt:at' + 2≤l.length:=by have:=of_decide_eq_true ok16;omega
  have hb1:=(l.getD at' 0).toNat_lt
  have hb2:=(l.getD (at' + 1) 0).toNat_lt
  refine RunB.done (by kernel_rfl) ?_
  refine st ?_
  refine RunC.draw 26 fol_ (.cons .here rfl (.cons .here rfl .nil)) ?_
  refine va 0 rfl (Val.pure rfl) rfl rfl rfl (.cons .here rfl (.cons .here rfl .nil)) rfl ?_
  refine va 1 rfl (Val.pure rfl) rfl rfl rfl (.cons .here rfl (.cons .here rfl .nil)) rfl ?_
  refine va 2 rfl (Val.fieldAddr rfl fld_131_0) rfl rfl rfl (.cons .here rfl (.cons .here rfl .nil)) rfl ?_
  refine va 3 rfl (Val.fieldAddr rfl fld_118_0) rfl rfl rfl (.cons .here rfl (.cons .here rfl .nil)) rfl ?_
  refine va 4 rfl (Val.load_one rfl (.head _) ty_58 rfl) rfl rfl rfl (.cons .here rfl (.cons .here rfl .nil)) rfl ?_
  refine va 5 rfl (Val.pure rfl) rfl rfl rfl (.cons .here rfl (.cons .here rfl .nil)) rfl ?_
  refine va 6 rfl (Val.pure rfl) rfl rfl rfl (.cons .here rfl (.cons .here rfl .nil)) rfl ?_
  refine va 7 rfl (Val.fieldAddr rfl fld_131_1) rfl rfl rfl (.cons .here rfl (.cons .here rfl .nil)) rfl ?_
  refine va 8 rfl (Val.load_one rfl (.head _) ty_3 rfl) rfl rfl rfl (.cons .here rfl (.cons .here rfl .nil)) rfl ?_
  refine va 9 rfl (Val.indexAddr_sl rfl rfl sl_58 (by omega) (by omega)) rfl rfl rfl (.cons .here rfl (.cons .here rfl .nil)) rfl ?_
  refine va 10 rfl (Val.load_gen rfl (fun w hm=>(run_loadVar_one ty_5 (by rw [cell_of_cells (hm.at (.tail _ (.head _)))];have e:0 + (at':Int).toNat * 1=at':=(by simp);rw [e];simpa using byc_at (l:=l) (j:=at') (by omega)):(loadVar 5 ⟨ob,0 + (at':Int).toNat * 1,none⟩).run Tryz.prog w = .ok (.int .u8 ((l.getD at' 0).toNat:Int)) w))) rfl rfl rfl (.cons .here rfl (.cons .here rfl .nil)) rfl ?_
  refine va 11 rfl (Val.convInt rfl und_5 und_3 (IntWalk.i64_in _ ⟨by omega,by omega⟩)) rfl rfl rfl (.cons .here rfl (.cons .here rfl .nil)) rfl ?_
  refine va 12 rfl (Val.shlN (b:=8) rfl rfl (by decide) (IntWalk.i64_in _ ⟨by omega,by omega⟩)) rfl rfl rfl (.cons .here rfl (.cons .here rfl .nil)) rfl ?_
  refine va 13 rfl (Val.pure rfl) rfl rfl rfl (.cons .here rfl (.cons .here rfl .nil)) rfl ?_
  refine va 14 rfl (Val.pure rfl) rfl rfl rfl (.cons .here rfl (.cons .here rfl .nil)) rfl ?_
  refine va 15 rfl (Val.fieldAddr rfl fld_131_0) rfl rfl rfl (.cons .here rfl (.cons .here rfl .nil)) rfl ?_
  refine va 16 rfl (Val.fieldAddr rfl fld_118_0) rfl rfl rfl (.cons .here rfl (.cons .here rfl .nil)) rfl ?_
  refine va 17 rfl (Val.load_one rfl (.head _) ty_58 rfl) rfl rfl rfl (.cons .here rfl (.cons .here rfl .nil)) rfl ?_
  refine va 18 rfl (Val.pure rfl) rfl rfl rfl (.cons .here rfl (.cons .here rfl .nil)) rfl ?_
  refine va 19 rfl (Val.pure rfl) rfl rfl rfl (.cons .here rfl (.cons .here rfl .nil)) rfl ?_
  refine va 20 rfl (Val.fieldAddr rfl fld_131_1) rfl rfl rfl (.cons .here rfl (.cons .here rfl .nil)) rfl ?_
  refine va 21 rfl (Val.load_one rfl (.head _) ty_3 rfl) rfl rfl rfl (.cons .here rfl (.cons .here rfl .nil)) rfl ?_
  refine va 22 rfl (Val.add rfl rfl (IntWalk.i64_in _ ⟨by omega,by omega⟩)) rfl rfl rfl (.cons .here rfl (.cons .here rfl .nil)) rfl ?_
  refine va 23 rfl (Val.indexAddr_sl rfl rfl sl_58 (by omega) (by omega)) rfl rfl rfl (.cons .here rfl (.cons .here rfl .nil)) rfl ?_
  refine va 24 rfl (Val.load_gen rfl (fun w hm=>(run_loadVar_one ty_5 (by rw [cell_of_cells (hm.at (.tail _ (.head _)))];have e:0 + ((at':Int) + 1).toNat * 1=at' + 1:=(by simp);rw [e];simpa using byc_at (l:=l) (j:=at' + 1) (by omega)):(loadVar 5 ⟨ob,0 + ((at':Int) + 1).toNat * 1,none⟩).run Tryz.prog w = .ok (.int .u8 ((l.getD (at' + 1) 0).toNat:Int)) w))) rfl rfl rfl (.cons .here rfl (.cons .here rfl .nil)) rfl ?_
  refine va 25 rfl (Val.convInt rfl und_5 und_3 (IntWalk.i64_in _ ⟨by omega,by omega⟩)) rfl rfl rfl (.cons .here rfl (.cons .here rfl .nil)) rfl ?_
  refine RunA.toB (by kernel_rfl) ?_
  refine RunB.one (i:=26) (by kernel_rfl) ?_
  refine RunI.val rfl (Val.orE rfl rfl (by have:IntKind.i64.bits=64:=rfl;rw [this];omega) (by have:IntKind.i64.bits=64:=rfl;rw [this];omega) (or_bytes hb2) (IntWalk.i64_in _ ⟨by omega,by omega⟩)) rfl rfl rfl (RunK.toB ?_)
  refine RunB.one (i:=27) (by kernel_rfl) ?_
  refine RunI.val rfl (Val.pure rfl) rfl rfl rfl (RunK.toB ?_)
  refine RunB.done (by kernel_rfl) ?_
  refine st ?_
  refine lv (Val.fieldAddr rfl fld_131_1) ?_
  refine lv (Val.load_one rfl (.head _) ty_3 rfl) ?_
  refine lv (Val.add rfl rfl (IntWalk.i64_in _ ⟨by omega,by omega⟩)) ?_
  refine lv (Val.fieldAddr rfl fld_131_1) ?_
  refine RunL.sto (Sto.store rfl rfl .here ty_3 rfl rfl) rfl rfl ?_
  refine st ?_
  refine RunC.ret ?_
  exact RunE.retGT _ (numB_ok hlt) (.r1 rfl (.tmp rfl)) rfl (.cons .here rfl (.cons .here rfl (Pick.refl _)))
theorem width_calls (rb ob:Nat) (l:Str) (at':Nat) (rest:Blks) (W0 w:World) (hm0:Mem W0 [] ((rb,rdO ob l.length at')::(ob,byO l)::(rest++[])) w) (ha:at'≤l.length) (hl:l.length≤1000000) :
    Calls Tryz.prog 70 #[pV rb] w (GrowT W0 [] (fun n:Sp=>.agg n.cells.toArray) (fun _=>(rb,rdO ob l.length (at' + 2 + 2))::(ob,byO l)::(rest++[])) (fun n=>widthB l at'=some n) misf (fun _:Nat=>8) (fun j=>(rb,rdO ob l.length j)::(ob,byO l)::(rest++[])) (fun _=>widthB l at'=none)):=by
  refine calls_from hm0 Tryz.func70 rfl rfl ?_
  refine st ?_
  refine RunL.new (New.alloc zero_38) rfl rfl rfl (fun b2=>?_)
  refine st ?_
  refine RunL.callGT (isCall_func rfl ent_71) rfl rfl rfl (fun w hm=>(calls_reG (nw':=fun _=>(b2,.cells [.int .i64 0,.int .i64 0].toArray 38 (0,0))::(rb,rdO ob l.length (at' + 2))::(ob,byO l)::(rest++[])) (np':=fun _=>(rb,rdO ob l.length at')::(ob,byO l)::(rest++[])) (take_calls rb ob l at' ((b2,.cells [.int .i64 0,.int .i64 0].toArray 38 (0,0))::rest) W0 w (hm.pick (Pick.cnt fun x=>by simp only [nC];omega)) ha hl) (fun _=>(Pick.cnt fun x=>by simp only [nC];omega)) (fun _=>(Pick.cnt fun x=>by simp only [nC];omega)))) (fun p5 hp5=>?_) (fun z5 hz5=>?_)
  ·refine RunE.pass_panic ?_
   exact RunE.panGT at' (by unfold widthB;rw [hp5]) rfl (.cons .here rfl (.cons .here rfl (Pick.refl _)))
  refine st ?_
  refine RunL.callGT (isCall_func rfl ent_71) rfl rfl rfl (fun w hm=>(calls_reG (nw':=fun _=>(b2,.cells [.int .i64 0,.int .i64 0].toArray 38 (0,0))::(rb,rdO ob l.length (at' + 2 + 2))::(ob,byO l)::(rest++[])) (np':=fun _=>(rb,rdO ob l.length (at' + 2))::(ob,byO l)::(rest++[])) (take_calls rb ob l (at' + 2) ((b2,.cells [.int .i64 0,.int .i64 0].toArray 38 (0,0))::rest) W0 w (hm.pick (Pick.cnt fun x=>by simp only [nC];omega)) (numB_lt hz5).2.2 hl) (fun _=>(Pick.cnt fun x=>by simp only [nC];omega)) (fun _=>(Pick.cnt fun x=>by simp only [nC];omega)))) (fun p9 hp9=>?_) (fun z9 hz9=>?_)
  ·refine RunE.pass_panic ?_
   exact RunE.panGT (at' + 2) (by unfold widthB;rw [hz5,hp9]) rfl (.cons .here rfl (.cons .here rfl (Pick.refl _)))
  have hb1:=numB_lt hz5
  have hb2:=numB_lt hz9
  refine lv (Val.add rfl rfl (IntWalk.i64_in _ ⟨by omega,by omega⟩)) ?_
  refine lv (Val.build (parts:=[(0,.tmp 6),(1,.tmp 10)]) rfl zero_38 places_38 rfl) ?_
  refine RunL.sto (Sto.store rfl rfl .here ty_38 rfl rfl) rfl rfl ?_
  refine st ?_
  refine RunC.ret ?_
  exact RunE.retGT ⟨z5,z5 + z9⟩ (by unfold widthB;rw [hz5,hz9]) (.r1 rfl (.agg rfl (.head _) ty_38 rfl)) rfl (.cons (.there .here) rfl (.cons (.there .here) rfl (Pick.skip (Pick.refl _))))
end Go.Proofs.YtleamcmljcdapaaGreatDoor
namespace Go.Bk
open Go Go.Eng Go.RowKit
def cardP (l:Str) (j:Nat):Option Pt:=match widthB l j,widthB l (j + 4),numB l (j + 8) with
  | some a,some b,some m=>some ⟨a,b,m⟩
  | _,_,_=>none
def cardsN (l:Str):Nat→Option (List Pt)
  | 0=>some []
  | k + 1=>match cardsN l k,cardP l (2 + 10 * k) with
    | some xs,some c=>some (xs++[c])
    | _,_=>none
theorem cardsN_no {l:Str} {k:Nat} (h:cardsN l k=none):∀ {m:Nat},k≤m→cardsN l m=none
  | 0,hm=>by
    have:k=0:=by omega
    subst this;exact h
  | m + 1,hm=>by
    rcases Nat.lt_or_ge m k with hk | hk
    · have:k=m + 1:=by omega
      subst this;exact h
    · rw [cardsN,cardsN_no h hk]
theorem cardsN_s {l:Str} {k:Nat} {xs:List Pt} {a b:Sp} {m:Int} (h:cardsN l k=some xs) (h1:widthB l (2 + 10 * k)=some a) (h2:widthB l (2 + 10 * k + 2 + 2)=some b) (h3:numB l (2 + 10 * k + 2 + 2 + 2 + 2)=some m):cardsN l (k + 1)=some (xs++[⟨a,b,m⟩]):=by
  have e:cardP l (2 + 10 * k)=some ⟨a,b,m⟩:=by
    unfold cardP
    rw [h1,show 2 + 10 * k + 4=2 + 10 * k + 2 + 2 by omega,h2,show 2 + 10 * k + 8=2 + 10 * k + 2 + 2 + 2 + 2 by omega,h3]
  rw [cardsN,h,e]
theorem cardsN_b1 {l:Str} {k:Nat} {xs:List Pt} (h:cardsN l k=some xs) (h1:widthB l (2 + 10 * k)=none):cardsN l (k + 1)=none:=by
  have e:cardP l (2 + 10 * k)=none:=by unfold cardP;rw [h1]
  rw [cardsN,h,e]
theorem cardsN_b2 {l:Str} {k:Nat} {xs:List Pt} {a:Sp} (h:cardsN l k=some xs) (h1:widthB l (2 + 10 * k)=some a) (h2:widthB l (2 + 10 * k + 2 + 2)=none):cardsN l (k + 1)=none:=by
  have e:cardP l (2 + 10 * k)=none:=by
    unfold cardP
    rw [h1,show 2 + 10 * k + 4=2 + 10 * k + 2 + 2 by omega,h2]
  rw [cardsN,h,e]
theorem cardsN_b3 {l:Str} {k:Nat} {xs:List Pt} {a b:Sp} (h:cardsN l k=some xs) (h1:widthB l (2 + 10 * k)=some a) (h2:widthB l (2 + 10 * k + 2 + 2)=some b) (h3:numB l (2 + 10 * k + 2 + 2 + 2 + 2)=none):cardsN l (k + 1)=none:=by
  have e:cardP l (2 + 10 * k)=none:=by
    unfold cardP
    rw [h1,show 2 + 10 * k + 4=2 + 10 * k + 2 + 2 by omega,h2,show 2 + 10 * k + 8=2 + 10 * k + 2 + 2 + 2 + 2 by omega,h3]
  rw [cardsN,h,e]
theorem width_le {l:Str} {j:Nat} {s:Sp} (h:widthB l j=some s):j + 2 + 2≤l.length:=by
  unfold widthB at h
  split at h
  · rename_i a b h1 h2
    exact (numB_lt h2).2.2
  · cases h
def ownP (b:Str):Str:=b.take (b.length - 2)
def bodyP (o:Str):Except Int Ps:=if o.length < 2∨o.getD 0 0 ≠ 80 then .error 8 else
  match cardsN o (o.getD 1 0).toNat with
  | none=>.error 8
  | some cs=>match widthB o (2 + 10 * (o.getD 1 0).toNat),widthB o (2 + 10 * (o.getD 1 0).toNat + 2 + 2) with
    | some less,some loss=>if 2 + 10 * (o.getD 1 0).toNat + 2 + 2 + 2 + 2=o.length∧printsX ⟨cs,less,loss⟩=true then .ok ⟨cs,less,loss⟩ else .error 8
    | _,_=>.error 8
def readPs (b:Str):Except Int Ps:=if 4096 < b.length then .error 3 else if b.length < 2 then .error 11 else
  if ownP b++putS (checkN (ownP b):Int)=b then bodyP (ownP b) else .error 11
theorem readPs_body {b:Str} (h1:¬ 4096 < b.length) (h2:¬ b.length < 2) (h3:ownP b++putS (checkN (ownP b):Int)=b):readPs b=bodyP (ownP b):=by unfold readPs;rw [if_neg h1,if_neg h2,if_pos h3]
theorem bodyP_head {o:Str} (h:o.length < 2∨o.getD 0 0 ≠ 80):bodyP o = .error 8:=by unfold bodyP;rw [if_pos h]
theorem bodyP_cards {o:Str} (h:¬ (o.length < 2∨o.getD 0 0 ≠ 80)) (hc:cardsN o (o.getD 1 0).toNat=none):bodyP o = .error 8:=by unfold bodyP;rw [if_neg h,hc]
theorem bodyP_less {o:Str} {cs:List Pt} (h:¬ (o.length < 2∨o.getD 0 0 ≠ 80)) (hc:cardsN o (o.getD 1 0).toNat=some cs) (h1:widthB o (2 + 10 * (o.getD 1 0).toNat)=none):bodyP o = .error 8:=by unfold bodyP;rw [if_neg h,hc];dsimp only;rw [h1]
theorem bodyP_loss {o:Str} {cs:List Pt} {a:Sp} (h:¬ (o.length < 2∨o.getD 0 0 ≠ 80)) (hc:cardsN o (o.getD 1 0).toNat=some cs) (h1:widthB o (2 + 10 * (o.getD 1 0).toNat)=some a) (h2:widthB o (2 + 10 * (o.getD 1 0).toNat + 2 + 2)=none):bodyP o = .error 8:=by unfold bodyP;rw [if_neg h,hc];dsimp only;rw [h1,h2]
theorem bodyP_end {o:Str} {cs:List Pt} {a b:Sp} (h:¬ (o.length < 2∨o.getD 0 0 ≠ 80)) (hc:cardsN o (o.getD 1 0).toNat=some cs) (h1:widthB o (2 + 10 * (o.getD 1 0).toNat)=some a) (h2:widthB o (2 + 10 * (o.getD 1 0).toNat + 2 + 2)=some b):bodyP o=if 2 + 10 * (o.getD 1 0).toNat + 2 + 2 + 2 + 2=o.length∧printsX ⟨cs,a,b⟩=true then .ok ⟨cs,a,b⟩ else .error 8:=by unfold bodyP;rw [if_neg h,hc];dsimp only;rw [h1,h2]
structure PsX where
  cards:OL Pt
  less:Sp
  loss:Sp
def PsX.cells (x:PsX):List Value:=[ownV x.cards.1 x.cards.2.length,.int .i64 x.less.lo,.int .i64 x.less.hi,.int .i64 x.loss.lo,.int .i64 x.loss.hi]
def PsX.pl (x:PsX):Ps:=⟨x.cards.2,x.less,x.loss⟩
def PsX.toA (x:PsX):PsA:=⟨OL.sa x.cards,x.less,x.loss⟩
def PsXOk (x:PsX):Prop:=x.cards.ok Pt.cells 5
def zeroPX:PsX:=⟨(none,[]),⟨0,0⟩,⟨0,0⟩⟩
theorem paste_psX (x:PsX):paste x.cells 0 (cellsL (.agg x.cells.toArray))=some x.cells:=by
  show paste x.cells 0 x.cells=some x.cells
  have h:=paste_self (cs:=x.cells) (fun v hv=>by
    simp only [PsX.cells,List.mem_cons,List.not_mem_nil,or_false] at hv
    rcases hv with rfl | rfl | rfl | rfl | rfl <;> first | rfl | exact own_one _ _)
  exact h
end Go.Bk
namespace Go.Proofs.YtleamcmljcdapaaGreatDoor
open Go Go.Eng Go.Bk Go.RowKit

abbrev ptB (z:OL Pt):Blks:=ownB 120 z.1 (z.2.map Pt.cells).flatten
abbrev psXO (x:PsX):Obj:=.cells x.cells.toArray 40 (0,0)
theorem isPrintsX_calls (x:PsX) (hx:PsXOk x) (hl:x.cards.2.length≤10000) (tl:Blks) (W0 w:World) (hm:Mem W0 [] (ptB x.cards++tl) w):Calls Tryz.prog 59 #[.agg x.cells.toArray] w (Pure (.bool (printsX x.pl)) w):=by
  have h1:=isPrints_calls x.toA hl w (own_sl (f:=Pt.cells) (e:=120) (fun _=>rfl) (by decide) hx (fun b o hb=>(hm.newd b o (List.mem_append_left _ hb)).2))
  have e:x.toA.v = .agg x.cells.toArray:=by
    show Value.agg [(OL.sa x.cards).v,_,_,_,_].toArray=_
    rw [OL.sa_v hx]
    rfl
  rw [e] at h1
  exact h1
end Go.Proofs.YtleamcmljcdapaaGreatDoor
namespace Go.Bk
open Go Go.Eng Go.RowKit
theorem dig_byte {m:Nat} (h:m < 10):(UInt8.ofNat (48 + m)).toNat=48 + m:=by
  simp only [UInt8.toNat_ofNat']
  omega
theorem dec_dig:∀ (u:Nat),∀ c∈Lib.decDigits u,48≤c.toNat∧c.toNat≤57:=by
  intro u
  induction u using Nat.strongRecOn with
  | _ u ih =>
    intro c hc
    rw [Lib.decDigits] at hc
    split at hc
    · simp only [List.mem_singleton] at hc
      subst hc
      rw [dig_byte (by omega)]
      omega
    · rcases List.mem_append.1 hc with h | h
      · exact ih _ (by omega) c h
      · simp only [List.mem_singleton] at h
        subst h
        rw [dig_byte (by omega)]
        omega
theorem dec_ne (u:Nat):Lib.decDigits u ≠ []:=by
  rw [Lib.decDigits]
  split <;> simp
theorem parse_app:∀ (a b:Str) (acc:Nat),Lib.parseUint10 acc (a++b)=match Lib.parseUint10 acc a with
    | .ok u=>Lib.parseUint10 u b
    | x=>x
  | [],b,acc=>rfl
  | c::a,b,acc=>by
    simp only [List.cons_append,Lib.parseUint10]
    split
    · split
      · rfl
      · split
        · rfl
        · exact parse_app a b _
    · rfl
theorem parse_dig {acc m:Nat} (hm:m < 10) (ha:acc * 10 + m≤9223372036854775808):Lib.parseUint10 acc [UInt8.ofNat (48 + m)] = .ok (acc * 10 + m):=by
  have hd:=dig_byte hm
  simp only [Lib.parseUint10,hd]
  rw [if_pos (by omega),if_neg (by omega),if_neg (by omega)]
  simp
theorem parse_dec:∀ (u:Nat),u≤9223372036854775808→Lib.parseUint10 0 (Lib.decDigits u) = .ok u:=by
  intro u
  induction u using Nat.strongRecOn with
  | _ u ih =>
    intro hu
    rw [Lib.decDigits]
    split
    · rw [parse_dig (by omega) (by omega)]
      simp
    · rw [parse_app,ih _ (by omega) (by omega)]
      dsimp only
      rw [parse_dig (by omega) (by omega)]
      congr 1
      omega
theorem numP_itoa {n:Int} (h:In64 n):numP (Lib.itoa n)=some n:=by
  obtain ⟨h1,h2⟩:=h
  have key:∀ u:Nat,u≤9223372036854775808→Lib.parseMag (Lib.decDigits u) = .ok u:=fun u hu=>by
    unfold Lib.parseMag
    rw [if_neg (dec_ne u),parse_dec u hu]
  have e:Lib.atoiAll (Lib.itoa n) = .ok n:=by
    unfold Lib.itoa
    split
    · rename_i hn
      unfold Lib.atoiAll
      simp only []
      have e45:(45:UInt8).toNat=45:=rfl
      rw [e45,if_pos (.inr rfl),key _ (by omega)]
      simp only [not_true_eq_false,false_and,if_false,true_and,if_true]
      rw [if_neg (by omega)]
      congr 1
      omega
    · rename_i hn
      have hd:=dec_dig n.toNat
      have hk:=key n.toNat (by omega)
      cases hl:Lib.decDigits n.toNat with
      | nil=>exact absurd hl (dec_ne _)
      | cons c r =>
        rw [hl] at hd hk
        have hc:=hd c (List.mem_cons_self ..)
        unfold Lib.atoiAll
        simp only []
        rw [if_neg (by omega),hk]
        have hc45:¬ c.toNat=45:=by omega
        simp only [hc45,not_false_eq_true,true_and,false_and,if_false]
        rw [if_neg (by omega)]
        congr 1
        omega
  unfold numP
  rw [e]
def clean (w:Str):Prop:=(32:UInt8) ∉ w∧(10:UInt8) ∉ w
theorem itoa_bytes {n:Int}:∀ c∈Lib.itoa n,c.toNat=45∨(48≤c.toNat∧c.toNat≤57):=fun c hc=>by
  unfold Lib.itoa at hc
  split at hc
  · rcases List.mem_cons.1 hc with rfl | hc
    · exact .inl rfl
    · exact .inr (dec_dig _ c hc)
  · exact .inr (dec_dig _ c hc)
theorem itoa_no {n:Int} {b:UInt8} (h:b.toNat < 45∨b.toNat=46):b ∉ Lib.itoa n:=fun hb=>by
  have:=itoa_bytes b hb
  omega
theorem clean_itoa (n:Int):clean (Lib.itoa n):=⟨itoa_no (.inl (by decide)),itoa_no (.inl (by decide))⟩
theorem clean_span (s:Sp):clean (spS s):=by
  unfold spS clean
  refine ⟨fun h=>?_,fun h=>?_⟩ <;> simp only [List.mem_append] at h <;> rcases h with (h | h) | h
  · exact itoa_no (.inl (by decide)) h
  · revert h;decide
  · exact itoa_no (.inl (by decide)) h
  · exact itoa_no (.inl (by decide)) h
  · revert h;decide
  · exact itoa_no (.inl (by decide)) h
theorem index_dots:∀ (a b:Str),(46:UInt8) ∉ a→Lib.index (a++46::46::b) [46,46]=(a.length:Int)
  | [],b,_=>by
    unfold Lib.index
    simp
  | c::a,b,h=>by
    have hc:c ≠ 46:=fun e=>h (by rw [e];exact List.mem_cons_self ..)
    have ih:=index_dots a b (fun hm=>h (List.mem_cons_of_mem _ hm))
    rw [List.cons_append,Lib.index]
    have hp:List.isPrefixOf [46,46] (c::(a++46::46::b))=false:=by
      simp only [List.isPrefixOf]
      have:((46:UInt8) == c)=false:=by simpa using fun e=>hc e.symm
      rw [this]
      rfl
    rw [hp,ih]
    simp only [Bool.false_eq_true,if_false]
    rw [if_neg (by simp)]
    simp only [List.length_cons]
    omega
theorem spanP_text {s:Sp} (h1:In64 s.lo) (h2:In64 s.hi):spanP (spS s)=some s:=by
  have e:spS s=Lib.itoa s.lo++46::46::Lib.itoa s.hi:=by simp [spS]
  have hi:Lib.index (spS s) [46,46]=((Lib.itoa s.lo).length:Int):=by rw [e];exact index_dots _ _ (itoa_no (.inr rfl))
  have hc:Lib.cut (spS s) [46,46]=(Lib.itoa s.lo,Lib.itoa s.hi,true):=by
    unfold Lib.cut
    rw [hi,if_pos (by omega)]
    have h3:((Lib.itoa s.lo).length:Int).toNat=(Lib.itoa s.lo).length:=by omega
    rw [h3,e]
    simp
  unfold spanP
  rw [hc]
  simp only [numP_itoa h1,numP_itoa h2,if_true]
theorem linesL_one:∀ (a r:Str),(10:UInt8) ∉ a→linesL (a++10::r)=(a++[10])::linesL r
  | [],r,_=>by rw [List.nil_append,linesL_cons,if_pos rfl];rfl
  | c::a,r,h=>by
    have hc:c ≠ 10:=fun e=>h (by rw [e];exact List.mem_cons_self ..)
    rw [List.cons_append,linesL_cons,if_neg hc,linesL_one a r (fun hm=>h (List.mem_cons_of_mem _ hm))]
    rfl
theorem trim_nl (a:Str):Lib.trimSuffix (a++[10]) [10]=a:=by
  unfold Lib.trimSuffix
  have h:Lib.hasSuffix (a++[10]) [10]=true:=by
    unfold Lib.hasSuffix
    exact List.isSuffixOf_iff_suffix.2 ⟨a,rfl⟩
  simp [h]
theorem indexByte_at:∀ (a r:Str) (c:UInt8),c ∉ a→Lib.indexByte (a++c::r) c=(a.length:Int)
  | [],r,c,_=>by
    rw [List.nil_append,Lib.indexByte]
    simp
  | b::a,r,c,h=>by
    have hb:b ≠ c:=fun e=>h (by rw [e];exact List.mem_cons_self ..)
    have ih:=indexByte_at a r c (fun hm=>h (List.mem_cons_of_mem _ hm))
    rw [List.cons_append,Lib.indexByte]
    have h1:(b == c)=false:=by simpa using hb
    rw [h1,ih]
    simp only [Bool.false_eq_true,if_false]
    rw [if_neg (by simp)]
    simp only [List.length_cons]
    omega
theorem indexByte_out:∀ (a:Str) (c:UInt8),c ∉ a→Lib.indexByte a c = -1
  | [],c,_=>rfl
  | b::a,c,h=>by
    have hb:b ≠ c:=fun e=>h (by rw [e];exact List.mem_cons_self ..)
    have ih:=indexByte_out a c (fun hm=>h (List.mem_cons_of_mem _ hm))
    rw [Lib.indexByte]
    have h1:(b == c)=false:=by simpa using hb
    rw [h1,ih]
    rfl
theorem split_join:∀ (ws:List Str),ws ≠ []→(∀ w∈ws,clean w)→splitL (Lib.join ws [32])=ws
  | [],h,_=>absurd rfl h
  | [w],_,hc=>by
    rw [Lib.join_one]
    exact splitL_miss (indexByte_out _ _ (hc w (by simp)).1)
  | w::v::ws,_,hc=>by
    have e:Lib.join (w::v::ws) [32]=w++32::Lib.join (v::ws) [32]:=by simp [Lib.join,List.intercalate]
    have hi:=indexByte_at w (Lib.join (v::ws) [32]) 32 (hc w (by simp)).1
    rw [e,splitL_hit hi]
    have h1:(w++32::Lib.join (v::ws) [32]).take w.length=w:=by simp
    have h2:(w++32::Lib.join (v::ws) [32]).drop (w.length + 1)=Lib.join (v::ws) [32]:=by
      rw [← List.drop_drop]
      simp
    rw [h1,h2,split_join (v::ws) (by simp) (fun x hx=>hc x (List.mem_cons_of_mem _ hx))]
theorem join_no:∀ (ws:List Str),(∀ w∈ws,clean w)→(10:UInt8) ∉ Lib.join ws [32]
  | [],_,h=>by cases h
  | [w],hc,h=>by rw [Lib.join_one] at h;exact (hc w (by simp)).2 h
  | w::v::ws,hc,h=>by
    have e:Lib.join (w::v::ws) [32]=w++32::Lib.join (v::ws) [32]:=by simp [Lib.join,List.intercalate]
    rw [e] at h
    rcases List.mem_append.1 h with h | h
    · exact (hc w (by simp)).2 h
    · rcases List.mem_cons.1 h with h | h
      · revert h;decide
      · exact join_no (v::ws) (fun x hx=>hc x (List.mem_cons_of_mem _ hx)) h
def LinesOk (ls:List (List Str)):Prop:=∀ ws∈ls,ws ≠ []∧∀ w∈ws,clean w
theorem lines_text:∀ {ls:List (List Str)},LinesOk ls→(linesL ((ls.map lineS).flatten)).map lineW=ls
  | [],_=>rfl
  | ws::ls,h=>by
    obtain ⟨h1,h2⟩:=h ws (by simp)
    have e:((ws::ls).map lineS).flatten=Lib.join ws [32]++10::(ls.map lineS).flatten:=by simp [lineS,nl]
    rw [e,linesL_one _ _ (join_no ws h2),List.map_cons,lines_text (fun x hx=>h x (List.mem_cons_of_mem _ hx))]
    unfold lineW
    rw [trim_nl,split_join ws h1 h2]
theorem suffix_text:∀ {ls:List (List Str)},ls ≠ []→Lib.hasSuffix ((ls.map lineS).flatten) [10]=true
  | [],h=>absurd rfl h
  | [ws],_=>by
    unfold Lib.hasSuffix
    exact List.isSuffixOf_iff_suffix.2 ⟨Lib.join ws [32],by simp [lineS,nl]⟩
  | ws::vs::ls,_=>by
    have h:=suffix_text (ls:=vs::ls) (by simp)
    unfold Lib.hasSuffix at h ⊢
    obtain ⟨t,ht⟩:=List.isSuffixOf_iff_suffix.1 h
    exact List.isSuffixOf_iff_suffix.2 ⟨lineS ws++t,by rw [List.append_assoc,ht];rfl⟩
theorem parse_text {α:Type} {step:α→List Str→Option α} {z:α} {ls:List (List Str)} (h:LinesOk ls) (hne:ls ≠ []):parseX step z ((ls.map lineS).flatten)=runL step z ls:=by
  rw [parse_of (suffix_text hne),lines_text h]
theorem allP_text {α:Type} {f:Str→Option α} {g:α→Str}:∀ {l:List α},(∀ x∈l,f (g x)=some x)→allP f (l.map g)=some l
  | [],_=>rfl
  | x::l,h=>by
    rw [List.map_cons,allP,h x (by simp),allP_text (fun y hy=>h y (List.mem_cons_of_mem _ hy))]
end Go.Bk
namespace Go.Bk
open Go Go.Eng Go.RowKit
theorem readX_ok {α:Type} {step:α→List Str→Option α} {z x:α} {ok:α→Bool} {text:α→Str} {s:Str} (hp:∀ x,ok x=true→parseX step z (text x)=some x) (h1:ok x=true) (h2:text x=s) (hl:¬ 4096 < s.length):readX step z ok text s = .ok x :=
  read_yes hl (by rw [← h2];exact hp x h1) h1 h2
theorem readX_inv {α:Type} {step:α→List Str→Option α} {z x:α} {ok:α→Bool} {text:α→Str} {s:Str} (h:readX step z ok text s = .ok x):ok x=true∧text x=s∧¬ 4096 < s.length:=by
  unfold readX at h
  split at h
  · cases h
  · rename_i hl
    split at h
    · rename_i y hy
      split at h
      · rename_i hc
        cases h
        rw [Bool.and_eq_true,decide_eq_true_eq] at hc
        exact ⟨hc.1,hc.2,hl⟩
      · cases h
    · cases h
theorem clean_w {w:Str} (h:w.contains 32=false) (h2:w.contains 10=false):clean w:=⟨by simpa using h,by simpa using h2⟩
theorem numAt1 {w a:Str} {r:List Str}:numAt (w::a::r) 1=numP a:=by unfold numAt;rw [if_pos (by simp)];rfl
theorem numAt2 {w a b:Str} {r:List Str}:numAt (w::a::b::r) 2=numP b:=by unfold numAt;rw [if_pos (by simp)];rfl
theorem numAt3 {w a b c:Str} {r:List Str}:numAt (w::a::b::c::r) 3=numP c:=by unfold numAt;rw [if_pos (by simp)];rfl
theorem numAt4 {w a b c d:Str} {r:List Str}:numAt (w::a::b::c::d::r) 4=numP d:=by unfold numAt;rw [if_pos (by simp)];rfl
theorem tourStep_cons (x:Tr) (w:Str) (r:List Str):tourStep x (w::r) =
  if w=wTour then (numAt (w::r) 1).map fun n=>{ x with dawn:=n }
  else if w=wFrom then (allP spanP r).map fun l=>{ x with fr:=l }
  else if w=wWays then (allP spanP r).map fun l=>{ x with ways:=x.ways++[l] }
  else if w=wStay then (allP spanP r).map fun l=>{ x with stay:=l }
  else if w=wLight then (allP spanP r).map fun l=>{ x with light:=l }
  else none:=rfl
theorem cabStep_cons (x:Cb) (w:Str) (r:List Str):cabStep x (w::r) =
  if w=wCab then sizesAt x (w::r)
  else if w=wHomes then (allP numP r).map fun l=>{ x with homes:=l }
  else if w=wLook then (lookAt (w::r) 1).map fun l=>{ x with loans:=x.loans++[l] }
  else if w=wTake then (loanAt 0 (w::r) 1).map fun l=>{ x with loans:=x.loans++[l] }
  else if w=wBack then (loanAt 1 (w::r) 1).map fun l=>{ x with loans:=x.loans++[l] }
  else none:=rfl
/-! ### Tours -/
def Tr.toA (t:Tr):TrA:=⟨t.dawn,⟨t.fr,none,0,0,0⟩,⟨t.ways.map fun l=>⟨l,none,0,0,0⟩,none,0,0,0⟩,⟨t.stay,none,0,0,0⟩,⟨t.light,none,0,0,0⟩⟩
theorem Tr.toA_pl (t:Tr):t.toA.pl=t:=by simp [Tr.toA,TrA.pl,List.map_map,Function.comp_def]
def rowL (w:Str) (l:List Sp):List Str:=w::l.map spS
def tourLs (t:Tr):List (List Str):=[[wTour,Lib.itoa t.dawn],rowL wFrom t.fr]++t.ways.map (rowL wWays)++[rowL wStay t.stay,rowL wLight t.light]
theorem tour_lines (t:Tr):tourS t=((tourLs t).map lineS).flatten:=by
  unfold tourS tourLs rowS rowL
  simp [List.map_map,Function.comp_def]
theorem row_ok {w:Str} {l:List Sp} (hw:clean w):rowL w l ≠ []∧∀ x∈rowL w l,clean x:=by
  refine ⟨by simp [rowL],fun x hx=>?_⟩
  rcases List.mem_cons.1 hx with rfl | hx
  · exact hw
  · obtain ⟨s,_,rfl⟩:=List.mem_map.1 hx
    exact clean_span s
theorem tour_lok (t:Tr):LinesOk (tourLs t):=fun ws hw=>by
  unfold tourLs at hw
  simp only [List.mem_append,List.mem_cons,List.not_mem_nil,or_false,List.mem_map] at hw
  rcases hw with ((rfl | rfl) | ⟨l,_,rfl⟩) | rfl | rfl
  · refine ⟨by simp,fun x hx=>?_⟩
    simp only [List.mem_cons,List.not_mem_nil,or_false] at hx
    rcases hx with rfl | rfl
    · exact clean_w rfl rfl
    · exact clean_itoa _
  · exact row_ok (clean_w rfl rfl)
  · exact row_ok (clean_w rfl rfl)
  · exact row_ok (clean_w rfl rfl)
  · exact row_ok (clean_w rfl rfl)
def SpsOk (l:List Sp):Prop:=∀ s∈l,In64 s.lo∧In64 s.hi
theorem sps_text {l:List Sp} (h:SpsOk l):allP spanP (l.map spS)=some l:=allP_text fun s hs=>spanP_text (h s hs).1 (h s hs).2
theorem step_from {x:Tr} {l:List Sp} (h:SpsOk l):tourStep x (rowL wFrom l)=some { x with fr:=l }:=by
  unfold rowL
  rw [tourStep_cons,if_neg (by decide),if_pos rfl]
  simp [sps_text h]
theorem step_ways {x:Tr} {l:List Sp} (h:SpsOk l):tourStep x (rowL wWays l)=some { x with ways:=x.ways++[l] }:=by
  unfold rowL
  rw [tourStep_cons,if_neg (by decide),if_neg (by decide),if_pos rfl]
  simp [sps_text h]
theorem step_stay {x:Tr} {l:List Sp} (h:SpsOk l):tourStep x (rowL wStay l)=some { x with stay:=l }:=by
  unfold rowL
  rw [tourStep_cons,if_neg (by decide),if_neg (by decide),if_neg (by decide),if_pos rfl]
  simp [sps_text h]
theorem step_light {x:Tr} {l:List Sp} (h:SpsOk l):tourStep x (rowL wLight l)=some { x with light:=l }:=by
  unfold rowL
  rw [tourStep_cons,if_neg (by decide),if_neg (by decide),if_neg (by decide),if_neg (by decide),if_pos rfl]
  simp [sps_text h]
theorem step_dawn {x:Tr} {n:Int} (h:In64 n):tourStep x [wTour,Lib.itoa n]=some { x with dawn:=n }:=by
  rw [tourStep_cons,if_pos rfl,numAt1,numP_itoa h]
  rfl
theorem run_ways:∀ {ls:List (List Sp)} {x:Tr},(∀ l∈ls,SpsOk l)→runL tourStep x (ls.map (rowL wWays))=some { x with ways:=x.ways++ls }
  | [],x,_=>by simp [runL]
  | l::ls,x,h=>by
    rw [List.map_cons,runL,step_ways (h l (by simp))]
    dsimp only
    rw [run_ways (fun y hy=>h y (List.mem_cons_of_mem _ hy))]
    simp
theorem parse_tour (t:Tr) (h:tourX t=true):parseX tourStep zeroT (tourS t)=some t:=by
  have hv:=tour_v (t:=t.toA) (by rw [Tr.toA_pl];exact h)
  have hfr:SpsOk t.fr:=(hv.all t.toA.fr (all_fr _)).2
  have hst:SpsOk t.stay:=(hv.all t.toA.stay (all_stay _)).2
  have hli:SpsOk t.light:=(hv.all t.toA.light (all_light _)).2
  have hwa:∀ l∈t.ways,SpsOk l:=fun l hl=>(hv.all ⟨l,none,0,0,0⟩ (all_way (List.mem_map.2 ⟨l,hl,rfl⟩))).2
  have hda:In64 t.dawn:=hv.dawn
  rw [tour_lines,parse_text (tour_lok t) (by simp [tourLs])]
  unfold tourLs
  rw [runL_app,runL_app]
  simp only [runL,step_dawn hda,step_from hfr,run_ways hwa,step_stay hst,step_light hli]
  simp [zeroT]
/-! ### Cabinets -/
def Cb.toA (c:Cb):CbA:=⟨c.slots,⟨c.homes,none,0,0,0⟩,c.wrong,⟨c.loans,none,0,0,0⟩⟩
def loanL (l:Ln):List Str:=if l.kind=2 then (if l.card = -1 then [wLook,Lib.itoa l.slot,wNone] else [wLook,Lib.itoa l.slot,Lib.itoa l.card])
  else [if l.kind=1 then wBack else wTake,Lib.itoa l.card,Lib.itoa l.person]
theorem loan_line (l:Ln):loanS l=lineS (loanL l):=by
  unfold loanS loanL
  split
  · split <;> rfl
  · rfl
def cabLs (c:Cb):List (List Str):=[[wCab,Lib.itoa c.slots,Lib.itoa c.wrong],wHomes::c.homes.map Lib.itoa]++c.loans.map loanL
theorem cab_lines (c:Cb):cabS c=((cabLs c).map lineS).flatten:=by
  unfold cabS cabLs
  have e:c.loans.map loanS=(c.loans.map loanL).map lineS:=by
    rw [List.map_map]
    exact List.map_congr_left fun l _=>loan_line l
  rw [e]
  simp
theorem clean_none:clean wNone:=clean_w rfl rfl
theorem cab_lok (c:Cb):LinesOk (cabLs c):=fun ws hw=>by
  unfold cabLs at hw
  simp only [List.mem_append,List.mem_cons,List.not_mem_nil,or_false,List.mem_map] at hw
  rcases hw with (rfl | rfl) | ⟨l,_,rfl⟩
  · refine ⟨by simp,fun x hx=>?_⟩
    simp only [List.mem_cons,List.not_mem_nil,or_false] at hx
    rcases hx with rfl | rfl | rfl
    · exact clean_w rfl rfl
    · exact clean_itoa _
    · exact clean_itoa _
  · refine ⟨by simp,fun x hx=>?_⟩
    rcases List.mem_cons.1 hx with rfl | hx
    · exact clean_w rfl rfl
    · obtain ⟨n,_,rfl⟩:=List.mem_map.1 hx
      exact clean_itoa _
  · have key:∀ a b d:Str,clean a→clean b→clean d→∀ x∈[a,b,d],clean x:=fun a b d ha hb hd x hx=>by
      simp only [List.mem_cons,List.not_mem_nil,or_false] at hx
      rcases hx with rfl | rfl | rfl <;> assumption
    unfold loanL
    split
    · split
      · exact ⟨by simp,key _ _ _ (clean_w rfl rfl) (clean_itoa _) clean_none⟩
      · exact ⟨by simp,key _ _ _ (clean_w rfl rfl) (clean_itoa _) (clean_itoa _)⟩
    · refine ⟨by simp,key _ _ _ ?_ (clean_itoa _) (clean_itoa _)⟩
      split <;> exact clean_w rfl rfl
theorem itoa_none (n:Int):Lib.itoa n ≠ wNone:=fun h=>by
  have:=itoa_bytes (n:=n) 110 (by rw [h];decide)
  revert this
  decide
theorem loan_use {c:Cb} {l:Ln} (h:loanX c l=true):(l.kind=2→l.person=0)∧(l.kind ≠ 2→l.slot=0):=by
  unfold loanX at h
  split at h
  · simp only [Bool.and_eq_true,decide_eq_true_eq] at h
    exact ⟨fun h2=>by omega,fun _=>h.2⟩
  · split at h
    · simp only [Bool.and_eq_true,decide_eq_true_eq] at h
      exact ⟨fun _=>h.2,fun h2=>by omega⟩
    · cases h
theorem step_loan {x c:Cb} {l:Ln} (hv:LnV l) (hu:loanX c l=true):cabStep x (loanL l)=some { x with loans:=x.loans++[l] }:=by
  obtain ⟨u1,u2⟩:=loan_use hu
  obtain ⟨kind,card,person,slot⟩:=l
  obtain ⟨hk,hc,hp,hs⟩:=hv
  dsimp only at *
  unfold loanL
  dsimp only
  rcases hk with rfl | rfl | rfl
  · have:=u2 (by decide)
    subst this
    rw [if_neg (by decide),if_neg (by decide)]
    rw [cabStep_cons,if_neg (by decide),if_neg (by decide),if_neg (by decide),if_pos rfl]
    unfold loanAt
    rw [numAt1,numAt2,numP_itoa hc,numP_itoa hp]
    rfl
  · have:=u2 (by decide)
    subst this
    rw [if_neg (by decide),if_pos rfl]
    rw [cabStep_cons,if_neg (by decide),if_neg (by decide),if_neg (by decide),if_neg (by decide),if_pos rfl]
    unfold loanAt
    rw [numAt1,numAt2,numP_itoa hc,numP_itoa hp]
    rfl
  · have:=u1 rfl
    subst this
    rw [if_pos rfl]
    split
    · rename_i h1
      subst h1
      rw [cabStep_cons,if_neg (by decide),if_neg (by decide),if_pos rfl]
      unfold lookAt
      rw [numAt1,numP_itoa hs]
      dsimp only
      rw [if_pos (by simp),if_pos (show [wLook,Lib.itoa slot,wNone].getD (1 + 1) []=wNone from rfl)]
      rfl
    · rw [cabStep_cons,if_neg (by decide),if_neg (by decide),if_pos rfl]
      unfold lookAt
      rw [numAt1,numP_itoa hs]
      dsimp only
      rw [if_pos (by simp),if_neg (by exact itoa_none card)]
      show Option.map _ (Option.map _ (numP (Lib.itoa card)))=_
      rw [numP_itoa hc]
      rfl
theorem run_loans {c:Cb}:∀ {ls:List Ln} {x:Cb},(∀ l∈ls,LnV l∧loanX c l=true)→runL cabStep x (ls.map loanL)=some { x with loans:=x.loans++ls }
  | [],x,_=>by simp [runL]
  | l::ls,x,h=>by
    rw [List.map_cons,runL,step_loan (h l (by simp)).1 (h l (by simp)).2]
    dsimp only
    rw [run_loans (c:=c) (fun y hy=>h y (List.mem_cons_of_mem _ hy))]
    simp
theorem parse_cab (c:Cb) (h:cabX c=true):parseX cabStep zeroC (cabS c)=some c:=by
  have hv:=cab_v (c:=c.toA) h
  have hu:∀ l∈c.loans,LnV l∧loanX c l=true:=fun l hl=>⟨hv.each l hl,by
    unfold cabX at h
    rw [Bool.and_eq_true] at h
    have h2:=h.2
    simp only [Bool.not_eq_true'] at h2
    have h3:=any_no h2 hl
    simpa using h3⟩
  have hh:allP numP (c.homes.map Lib.itoa)=some c.homes:=allP_text fun n hn=>numP_itoa (hv.hom64 n hn)
  have hs1:cabStep zeroC [wCab,Lib.itoa c.slots,Lib.itoa c.wrong]=some { zeroC with slots:=c.slots,wrong:=c.wrong }:=by
    rw [cabStep_cons,if_pos rfl]
    unfold sizesAt
    rw [numAt1,numAt2,numP_itoa (show In64 c.slots from hv.slots),numP_itoa (show In64 c.wrong from hv.wrong)]
  have hs2:∀ x:Cb,cabStep x (wHomes::c.homes.map Lib.itoa)=some { x with homes:=c.homes }:=fun x=>by
    rw [cabStep_cons,if_neg (by decide),if_pos rfl]
    simp [hh]
  rw [cab_lines,parse_text (cab_lok c) (by simp [cabLs])]
  unfold cabLs
  rw [runL_app]
  simp only [runL,hs1,hs2,run_loans hu]
  simp [zeroC]
/-! ### Royalties -/
def Ry.toA (r:Ry):RyA:=⟨⟨r.terms,none,0,0,0⟩,⟨r.prices,none,0,0,0⟩,⟨r.shares.map fun l=>⟨l,none,0,0,0⟩,none,0,0,0⟩,⟨r.reports,none,0,0,0⟩,⟨r.paid,none,0,0,0⟩⟩
theorem Ry.toA_pl (r:Ry):r.toA.pl=r:=by simp [Ry.toA,RyA.pl,List.map_map,Function.comp_def]
def agentL (x:Tm×Int):List Str:=[wAgent,Lib.itoa x.1.first,Lib.itoa x.1.upto,Lib.itoa x.1.beyond,Lib.itoa x.2]
def kindL (x:Int×List Int):List Str:=wKind::Lib.itoa x.1::x.2.map Lib.itoa
def reportL (x:Rp):List Str:=[wReport,Lib.itoa x.agent,Lib.itoa x.kind,Lib.itoa x.first,Lib.itoa x.last]
def royLs (r:Ry):List (List Str):=[[wRoyal]]++(r.terms.zip r.paid).map agentL++(r.prices.zip r.shares).map kindL++r.reports.map reportL
theorem roy_lines (r:Ry):royalS r=((royLs r).map lineS).flatten:=by
  unfold royalS royLs
  have e:r.reports.map reportS=(r.reports.map reportL).map lineS:=by rw [List.map_map];exact List.map_congr_left fun x _=>rfl
  rw [e]
  simp [List.map_map,Function.comp_def,agentS,kindS,agentL,kindL]
theorem clean_cons {w:Str} {r:List Str} (hw:clean w) (hr:∀ x∈r,clean x):w::r ≠ []∧∀ x∈w::r,clean x :=
  ⟨by simp,fun x hx=>by
    rcases List.mem_cons.1 hx with rfl | hx
    · exact hw
    · exact hr x hx⟩
theorem clean_itoas (l:List Int):∀ x∈l.map Lib.itoa,clean x:=fun x hx=>by
  obtain ⟨n,_,rfl⟩:=List.mem_map.1 hx
  exact clean_itoa n
theorem roy_lok (r:Ry):LinesOk (royLs r):=fun ws hw=>by
  unfold royLs at hw
  simp only [List.mem_append,List.mem_cons,List.not_mem_nil,or_false,List.mem_map] at hw
  rcases hw with ((rfl | ⟨x,_,rfl⟩) | ⟨x,_,rfl⟩) | ⟨x,_,rfl⟩
  · exact clean_cons (clean_w rfl rfl) (fun x hx=>by cases hx)
  · exact clean_cons (clean_w rfl rfl) (clean_itoas [x.1.first,x.1.upto,x.1.beyond,x.2])
  · exact clean_cons (clean_w rfl rfl) (clean_itoas (x.1::x.2))
  · exact clean_cons (clean_w rfl rfl) (clean_itoas [x.agent,x.kind,x.first,x.last])
theorem royStep_cons (x:Ry) (w:Str) (r:List Str):royStep x (w::r) =
  if w=wRoyal then some x
  else if w=wAgent then agentAt x (w::r)
  else if w=wKind then kindAt x (w::r)
  else if w=wReport then reportAt x (w::r)
  else none:=rfl
theorem step_agent {x:Ry} {t:Tm} {p:Int} (h1:In64 t.first∧In64 t.upto∧In64 t.beyond) (h2:In64 p):royStep x (agentL (t,p))=some { x with terms:=x.terms++[t],paid:=x.paid++[p] }:=by
  unfold agentL
  rw [royStep_cons,if_neg (by decide),if_pos rfl]
  unfold agentAt
  rw [numAt1,numAt2,numAt3,numAt4]
  dsimp only
  rw [numP_itoa h1.1,numP_itoa h1.2.1,numP_itoa h1.2.2,numP_itoa h2]
theorem step_kind {x:Ry} {n:Int} {l:List Int} (h1:In64 n) (h2:∀ m∈l,In64 m):royStep x (kindL (n,l))=some { x with prices:=x.prices++[n],shares:=x.shares++[l] }:=by
  unfold kindL
  rw [royStep_cons,if_neg (by decide),if_neg (by decide),if_pos rfl]
  unfold kindAt
  rw [numAt1]
  dsimp only
  rw [numP_itoa h1,show (wKind::Lib.itoa n::l.map Lib.itoa).drop 2=l.map Lib.itoa from rfl,allP_text fun m hm=>numP_itoa (h2 m hm)]
theorem step_report {x:Ry} {t:Rp} (h:In64 t.agent∧In64 t.kind∧In64 t.first∧In64 t.last):royStep x (reportL t)=some { x with reports:=x.reports++[t] }:=by
  unfold reportL
  rw [royStep_cons,if_neg (by decide),if_neg (by decide),if_neg (by decide),if_pos rfl]
  unfold reportAt
  rw [numAt1,numAt2,numAt3,numAt4,numP_itoa h.1,numP_itoa h.2.1,numP_itoa h.2.2.1,numP_itoa h.2.2.2]
theorem run_agents:∀ {ls:List (Tm×Int)} {x:Ry},(∀ l∈ls,(In64 l.1.first∧In64 l.1.upto∧In64 l.1.beyond)∧In64 l.2)→runL royStep x (ls.map agentL)=some { x with terms:=x.terms++ls.map (·.1),paid:=x.paid++ls.map (·.2) }
  | [],x,_=>by simp [runL]
  | l::ls,x,h=>by
    obtain ⟨t,p⟩:=l
    have h0:=h (t,p) (by simp)
    rw [List.map_cons,runL,step_agent h0.1 h0.2]
    dsimp only
    rw [run_agents (fun y hy=>h y (List.mem_cons_of_mem _ hy))]
    simp
theorem run_kinds:∀ {ls:List (Int×List Int)} {x:Ry},(∀ l∈ls,In64 l.1∧∀ m∈l.2,In64 m)→runL royStep x (ls.map kindL)=some { x with prices:=x.prices++ls.map (·.1),shares:=x.shares++ls.map (·.2) }
  | [],x,_=>by simp [runL]
  | l::ls,x,h=>by
    obtain ⟨n,m⟩:=l
    have h0:=h (n,m) (by simp)
    rw [List.map_cons,runL,step_kind h0.1 h0.2]
    dsimp only
    rw [run_kinds (fun y hy=>h y (List.mem_cons_of_mem _ hy))]
    simp
theorem run_reports:∀ {ls:List Rp} {x:Ry},(∀ l∈ls,In64 l.agent∧In64 l.kind∧In64 l.first∧In64 l.last)→runL royStep x (ls.map reportL)=some { x with reports:=x.reports++ls }
  | [],x,_=>by simp [runL]
  | l::ls,x,h=>by
    rw [List.map_cons,runL,step_report (h l (by simp))]
    dsimp only
    rw [run_reports (fun y hy=>h y (List.mem_cons_of_mem _ hy))]
    simp
theorem parse_roy (r:Ry) (h:royalX r=true):parseX royStep zeroR (royalS r)=some r:=by
  have hv:=roy_v (r:=r.toA) (by rw [Ry.toA_pl];exact h)
  have hpl:r.paid.length=r.terms.length:=hv.paid
  have hsl:r.shares.length=r.prices.length:=by have:=hv.shares;simpa [Ry.toA] using this
  have ha:∀ l∈r.terms.zip r.paid,(In64 l.1.first∧In64 l.1.upto∧In64 l.1.beyond)∧In64 l.2:=fun l hl=>by
    have h2:=List.of_mem_zip (a:=l.1) (b:=l.2) hl
    exact ⟨hv.tm _ h2.1,hv.pd _ h2.2⟩
  have hk:∀ l∈r.prices.zip r.shares,In64 l.1∧∀ m∈l.2,In64 m:=fun l hl=>by
    have h2:=List.of_mem_zip (a:=l.1) (b:=l.2) hl
    exact ⟨hv.pr _ h2.1,(hv.sh ⟨l.2,none,0,0,0⟩ (List.mem_map.2 ⟨l.2,h2.2,rfl⟩)).2⟩
  have hr:∀ l∈r.reports,In64 l.agent∧In64 l.kind∧In64 l.first∧In64 l.last:=fun l hl=>hv.rp l hl
  have h0:royStep zeroR [wRoyal]=some zeroR:=by rw [royStep_cons,if_pos rfl]
  rw [roy_lines,parse_text (roy_lok r) (by simp [royLs])]
  unfold royLs
  rw [runL_app,runL_app,runL_app]
  simp only [runL,h0,run_agents ha,run_kinds hk,run_reports hr]
  have e1:(r.terms.zip r.paid).map (·.1)=r.terms:=List.map_fst_zip (by omega)
  have e2:(r.terms.zip r.paid).map (·.2)=r.paid:=List.map_snd_zip (by omega)
  have e3:(r.prices.zip r.shares).map (·.1)=r.prices:=List.map_fst_zip (by omega)
  have e4:(r.prices.zip r.shares).map (·.2)=r.shares:=List.map_snd_zip (by omega)
  simp only [e1,e2,e3,e4,zeroR,List.nil_append]
end Go.Bk
namespace Go.Proofs.YtleamcmljcdapaaGreatDoor
open Go Go.Eng
theorem ap_36:apB Tryz.prog 36=some (120,5,40):=by kernel_rfl
theorem ent_65:Enters Tryz.prog 65:=enters_of Tryz.func65 (by kernel_rfl) rfl
theorem ent_68:Enters Tryz.prog 68:=enters_of Tryz.func68 (by kernel_rfl) rfl
theorem ent_69:Enters Tryz.prog 69:=enters_of Tryz.func69 (by kernel_rfl) rfl
theorem ent_70:Enters Tryz.prog 70:=enters_of Tryz.func70 (by kernel_rfl) rfl
theorem places_120:placesB Tryz.prog 120=some [(0,2),(2,2),(4,1)]:=by kernel_rfl
theorem places_131:placesB Tryz.prog 131=some [(0,1),(1,1)]:=by kernel_rfl
theorem ty_118:tyB Tryz.prog 118=some (true,1):=by kernel_rfl
theorem zero_131:zeroB Tryz.prog 131=some [.slice none 0 0,.int .i64 0]:=by kernel_rfl
end Go.Proofs.YtleamcmljcdapaaGreatDoor
namespace Go.Proofs.YtleamcmljcdapaaGreatDoor
open Go Go.Eng Go.Bk Go.RowKit

abbrev psZO (z:OL Pt):Obj:=.cells [ownV z.1 z.2.length,.int .i64 0,.int .i64 0,.int .i64 0,.int .i64 0].toArray 40 (0,0)
theorem own_at {l:Str} {b:Nat} {w:World} (h:w.heap[b]? = some (byO l)):Sl w (some ⟨b,0,none⟩) b 0 1 (l.map byC) :=
  Sl.rowsR (t:=[]) (by rw [List.append_nil,← byc_flat];exact h) (by intro x hx;obtain ⟨y,_,rfl⟩:=List.mem_map.1 hx;rfl)
set_option maxHeartbeats 2000000 in
theorem ReadPrints_calls (s:Str) (q:Option Addr) (bb ob c:Nat) (W:World) (hS:Sl W q bb ob 1 (s.map byC)) (hsl:s.length≤1000000) :
    Calls Tryz.prog 27 #[.slice q s.length c] W (Grow W [] (fun z:PsX×Int=>.tuple #[.agg z.1.cells.toArray,.int .i64 z.2]) (fun z=>ptB z.1.cards++[]) (RdX (readPs s) PsX.pl PsXOk zeroPX)):=by
  have hpan:∀ k,readPs s = .error k→RdX (readPs s) PsX.pl PsXOk zeroPX (zeroPX,k):=fun k h=>.inr ⟨k,h,rfl⟩
  refine calls_start_marks Tryz.func27 rfl rfl ?_
  refine st ?_
  refine RunL.new (New.alloc zero_40) rfl rfl rfl (fun b2=>?_)
  refine RunL.new (New.alloc zero_42) rfl rfl rfl (fun b3=>?_)
  refine st ?_
  refine RunL.deferC rfl ?_
  refine st ?_
  refine lv (Val.len_sl rfl sl_58) ?_
  refine RunL.callT (isCall_func rfl ent_67) rfl rfl rfl (fun w hm=>need_calls _ _ w) (fun e11 he11=>?_) (fun v11 hv11=>?_)
  ·obtain ⟨er11,rfl⟩:=need_err he11
   have hr:readPs s = .error 3:=by (unfold readPs;rw [if_pos (by have:=of_decide_eq_false er11;omega)])
   refine RunE.pass_panic ?_
   exact RunE.panC2 (cs:=_) (rest:=[]) [] rdP_catches ent_65 (by decide) (by rfl) (.cons .here rfl (.cons .here rfl .nil)) (.r2 rfl (.agg rfl (.tail _ (.head _)) ty_40 rfl) (.one rfl (.head _) ty_42 rfl)) (fun w hm=>⟨(zeroPX,_),hpan _ hr,rfl,hm.pick (news':=[]) (Pick.cnt fun x=>by simp only [nC,List.map_cons,List.map_nil,erO,ptB,psXO,psZO];omega)⟩)
  obtain ⟨ok11,rfl⟩:=need_ok hv11
  have hlen:¬ 4096 < s.length:=by have:=of_decide_eq_true ok11;omega
  refine st ?_
  refine lv (Val.len_sl rfl sl_58) ?_
  refine RunL.callT (isCall_func rfl ent_67) rfl rfl rfl (fun w hm=>need_calls _ _ w) (fun e15 he15=>?_) (fun v15 hv15=>?_)
  ·obtain ⟨er15,rfl⟩:=need_err he15
   have hr:readPs s = .error 11:=by (unfold readPs;rw [if_neg hlen,if_pos (by have:=of_decide_eq_false er15;omega)])
   refine RunE.pass_panic ?_
   exact RunE.panC2 (cs:=_) (rest:=[]) [] rdP_catches ent_65 (by decide) (by rfl) (.cons .here rfl (.cons .here rfl .nil)) (.r2 rfl (.agg rfl (.tail _ (.head _)) ty_40 rfl) (.one rfl (.head _) ty_42 rfl)) (fun w hm=>⟨(zeroPX,_),hpan _ hr,rfl,hm.pick (news':=[]) (Pick.cnt fun x=>by simp only [nC,List.map_cons,List.map_nil,erO,ptB,psXO,psZO];omega)⟩)
  obtain ⟨ok15,rfl⟩:=need_ok hv15
  have hlen2:¬ s.length < 2:=by have:=of_decide_eq_true ok15;omega
  obtain rfl:=hS.ptr (i:=0) (by simp;omega)
  have hol:(ownP s).length=s.length - 2:=by (unfold ownP;rw [List.length_take];omega)
  have hnI:(s.length:Int) - 2=((ownP s).length:Int):=by omega
  refine st ?_
  refine lv (Val.len_sl rfl sl_58) ?_
  refine RunL.val (Val.sub' rfl rfl (IntWalk.i64_in _ ⟨by omega,by omega⟩)) rfl rfl rfl ?_
  rw [hnI]
  refine RunL.new (New.makeSlice rfl rfl ap_58 zero_5 (by omega) (by decide)) rfl rfl rfl (fun b19=>?_)
  refine st ?_
  refine RunL.copy (cs:=byc (ownP s)) rfl rfl sl_58 (by omega) .here (byc_len _) (by simp) (fun w hm j v hv=>by have h:=(Sl.mono hS (by decide) hm (by simp)).flat (by decide) j v;rw [← byc_flat] at h;obtain ⟨ad,h1,h2⟩:=h (by rw [← hv];unfold ownP byc;rw [List.map_take,List.getElem?_take];rw [if_pos (by have:=(List.getElem?_eq_some_iff.1 hv).1;rw [byc_len,hol] at this;exact this)]);cases h1;exact h2) (byc_one _) rfl ?_
  refine st ?_
  refine lv (Val.build (parts:=[(0,.tmp 23)]) rfl zero_118 places_118 rfl) ?_
  refine lv (Val.build (parts:=[(0,.tmp 24)]) rfl zero_131 places_131 rfl) ?_
  refine RunL.new (New.box rfl) rfl rfl rfl (fun b26=>?_)
  refine st ?_
  refine RunL.callNT (isCall_func rfl ent_68) rfl rfl rfl (fun w hm=>(cloneB_calls (ownP s) ⟨b19,0,none⟩ (ownP s).length w (own_at (hm.at (.tail _ (.head _)))) (by omega))) (fun z28=>?_)
  obtain ⟨x28,hx28⟩:=z28
  dsimp only
  refine lv (Val.buildOwn (x:=.tmp 28) rfl zero_118 places_118) ?_
  refine RunL.new (New.alloc zero_118) rfl rfl rfl (fun b6=>?_)
  refine RunL.sto (Sto.storeOwnA rfl rfl .here ty_118 rfl rfl) rfl rfl ?_
  refine st ?_
  refine lv (Val.fieldAddr rfl fld_131_0) ?_
  refine RunL.callP (isCall_func rfl ent_62) rfl rfl rfl (fun w hm=>(fcheck_calls b26 (ownP s) (some ⟨b19,0,none⟩) b19 0 (ownP s).length [.int .i64 0] 131 w (hm.at (.tail _ (.head _))) (own_at (hm.at (.tail _ (.tail _ (.head _))))) (by omega))) ?_
  refine RunL.new (New.buildSlice (parts:=[(0,.tmp 33)]) rfl sl_27 zero_3 rfl rfl rfl rfl) rfl rfl rfl (fun b34=>?_)
  refine RunL.callG (isCall_func rfl ent_61) rfl rfl rfl (fun w hm=>(show Calls _ _ _ w (Grow W [] _ (fun z:Eng.Own=>(b6,fiO z (ownP s++putS (checkN (ownP s):Int)).length)::(b26,rdO b19 (ownP s).length 0)::(b19,byO (ownP s))::(b3,erO 0)::(b2,psXO zeroPX)::(ownB 5 z (byc (ownP s++putS (checkN (ownP s):Int)))++[])) _) from fnumR_calls [] [(b26,rdO b19 (ownP s).length 0),(b19,byO (ownP s)),(b3,erO 0),(b2,psXO zeroPX)] b6 b34 (checkN (ownP s):Int) x28 (ownP s) W w hm hx28 (by have:=checkN_lt (ownP s);unfold In16;omega) (by omega))) (fun z35 hz35=>?_)
  
  refine st ?_
  refine lv (Val.fieldAddr rfl fld_118_0) ?_
  refine lv (Val.load_one rfl (.head _) ty_58 rfl) ?_
  refine RunL.callP (isCall_func rfl ent_69) rfl rfl rfl (fun w hm=>(by rw [ownV_slice hz35];exact equalB_calls (ownP s++putS (checkN (ownP s):Int)) s (ownQ z35) (some ⟨bb,ob,none⟩) (ownK z35) 0 (ownC z35) bb ob c w (own_bytes hz35 (fun b o h=>hm.at (.tail _ (.tail _ (.tail _ (.tail _ (.tail _ ((by first | exact List.mem_append_left _ h | exact List.mem_append_right _ (List.mem_append_left _ h)))))))))) (Sl.mono hS (by decide) hm (by simp)) (by rw [List.length_append];have:(putS (checkN (ownP s):Int)).length=2:=rfl;omega))) ?_
  refine RunL.callT (isCall_func rfl ent_67) rfl rfl rfl (fun w hm=>need_calls _ _ w) (fun e40 he40=>?_) (fun v40 hv40=>?_)
  ·obtain ⟨er40,rfl⟩:=need_err he40
   have hr:readPs s = .error 11:=by (unfold readPs;rw [if_neg hlen,if_neg hlen2,if_neg (of_decide_eq_false er40)])
   refine RunE.pass_panic ?_
   exact RunE.panC2 (cs:=_) (rest:=[]) [] rdP_catches ent_65 (by decide) (by rfl) (.cons (.there (.there (.there .here))) rfl (.cons (.there (.there (.there .here))) rfl .nil)) (.r2 rfl (.agg rfl (.tail _ (.head _)) ty_40 rfl) (.one rfl (.head _) ty_42 rfl)) (fun w hm=>⟨(zeroPX,_),hpan _ hr,rfl,hm.pick (news':=[]) (Pick.cnt fun x=>by simp only [nC,List.map_cons,List.map_nil,erO,ptB,psXO,psZO];omega)⟩)
  obtain ⟨ok40,rfl⟩:=need_ok hv40
  have heq:=of_decide_eq_true ok40
  refine st ?_
  refine lv (Val.len_sl rfl sl_58) ?_
  refine RunL.ways (dj:=44) rfl ?_ ?_
  ·intro g44
   have g44':=g44;clear g44
   try simp only [nH] at g44'
   refine st ?_
   refine lv (Val.indexAddr_sl rfl rfl sl_58 (by omega) (by omega)) ?_
   refine lv (Val.load_gen rfl (fun w hm=>(run_loadVar_one ty_5 (by rw [cell_of_cells (hm.at (.tail _ (.tail _ (.head _))))];simpa using byc_at (l:=ownP s) (j:=0) (by omega)):(loadVar 5 ⟨b19,0 + (0:Int).toNat * 1,none⟩).run Tryz.prog w = .ok (.int .u8 (((ownP s).getD 0 0).toNat:Int)) w))) ?_
   refine RunL.callT (isCall_func rfl ent_67) rfl rfl rfl (fun w hm=>need_calls _ _ w) (fun e50 he50=>?_) (fun v50 hv50=>?_)
   ·obtain ⟨er50,rfl⟩:=need_err he50
    have hr:readPs s = .error 8:=(readPs_body hlen hlen2 heq).trans (bodyP_head (by first | (left;omega) | (right;intro h;have h2:=of_decide_eq_false er50;rw [h] at h2;exact h2 rfl)))
    refine RunE.pass_panic ?_
    exact RunE.panC2 (cs:=_) (rest:=[]) [] rdP_catches ent_65 (by decide) (by rfl) (.cons (.there (.there (.there .here))) rfl (.cons (.there (.there (.there .here))) rfl .nil)) (.r2 rfl (.agg rfl (.tail _ (.head _)) ty_40 rfl) (.one rfl (.head _) ty_42 rfl)) (fun w hm=>⟨(zeroPX,_),hpan _ hr,rfl,hm.pick (news':=[]) (Pick.cnt fun x=>by simp only [nC,List.map_cons,List.map_nil,erO,ptB,psXO,psZO];omega)⟩)
   obtain ⟨ok50,rfl⟩:=need_ok hv50
   first | (have hhd:¬ ((ownP s).length < 2∨(ownP s).getD 0 0 ≠ 80):=(by rintro (h | h);omega;exact h (UInt8.toNat_inj.1 (by have h2:=of_decide_eq_true ok50;have h3:(80:UInt8).toNat=80:=rfl;omega)))) | skip
   refine st ?_
   refine lv (Val.fieldAddr rfl fld_131_1) ?_
   refine RunL.sto (Sto.store rfl rfl (.there .here) ty_3 rfl rfl) rfl rfl ?_
   refine nnx ?_
   refine RunC.seq ?_
   refine RunC.seq ?_
   refine RunC.keep (Sub.cons (t:=2) rfl (Sub.cons (t:=3) rfl (Sub.cons (t:=4) rfl (Sub.cons (t:=5) rfl (Sub.nil _))))) (.cons (.there (.there (.there (.there .here)))) rfl (.cons (.there .here) rfl (.cons (.there (.there .here)) rfl (.cons (.there .here) rfl .nil)))) ?_
   refine st ?_
   refine lv (Val.indexAddr_sl rfl rfl sl_58 (by omega) (by omega)) ?_
   refine RunL.val (Val.load_gen rfl (fun w hm=>(run_loadVar_one ty_5 (by rw [cell_of_cells (hm.at (.tail _ (.tail _ (.tail _ (.head _)))))];simpa using byc_at (l:=ownP s) (j:=1) (by omega)):(loadVar 5 ⟨b19,0 + (1:Int).toNat * 1,none⟩).run Tryz.prog w = .ok (.int .u8 (((ownP s).getD 1 0).toNat:Int)) w))) rfl rfl rfl ?_
   have hb1:=((ownP s).getD 1 0).toNat_lt
   refine lv (Val.convInt rfl und_5 und_3 (IntWalk.i64_in _ ⟨by omega,by omega⟩)) ?_
   refine RunC.loopX (X:=OL Pt) (n0:=[(b3,_),(b19,_)]) (((ownP s).getD 1 0).toNat) (fun k x q=>(58,.int .i64 (k:Int))::q) (fun _ _=>_) (fun k x=>[(b2,psZO x),(b26,rdO b19 (ownP s).length (2 + 10 * k))]) (fun k x=>ptB x++[]) (fun k x=>x.ok Pt.cells 5∧x.2.length=k∧cardsN (ownP s) k=some x.2∧2 + 10 * k≤(ownP s).length) (none,[]) ⟨ol_nil,rfl,rfl,by omega⟩ rfl (Sub.consE (t:=58) rfl rfl (Sub.cons (t:=2) rfl (Sub.cons (t:=3) rfl (Sub.cons (t:=4) rfl (Sub.cons (t:=5) rfl (Sub.cons (t:=57) rfl (Sub.nil _))))))) (.cons .here rfl (.cons .here rfl (.cons .here rfl (.cons .here rfl (Pick.same rfl))))) ?_
   intro k x kN kI
   obtain ⟨xo,xl⟩:=x
   obtain ⟨kI1,kI2,kI3,kI4⟩:=kI
   dsimp only at kI2 kI3 ⊢
   refine st ?_
   refine cn rfl ?_ ?_
   ·intro c0'
    have hk:k < ((ownP s).getD 1 0).toNat:=by omega
    refine st ?_
    refine RunC.drawP 10 fol_ (.cons .here rfl (.cons (.there .here) rfl (.cons (.there .here) rfl .nil))) ?_
    refine RunA.val (i:=0) rfl (by kernel_rfl) (by kernel_rfl) (Val.fieldAddr rfl fld_40_0) rfl rfl rfl (PanQ.back rfl) (.cons .here rfl (.cons (.there .here) rfl (.cons (.there .here) rfl .nil))) rfl ?_
    refine RunA.val (i:=1) rfl (by kernel_rfl) (by kernel_rfl) (Val.load_one rfl (.head _) ty_36 rfl) rfl rfl rfl (PanQ.back rfl) (.cons .here rfl (.cons (.there .here) rfl (.cons (.there .here) rfl .nil))) rfl ?_
    refine RunA.val (i:=2) rfl (by kernel_rfl) (by kernel_rfl) (Val.pure rfl) rfl rfl rfl (PanQ.back rfl) (.cons .here rfl (.cons (.there .here) rfl (.cons (.there .here) rfl .nil))) rfl ?_
    refine RunA.val (i:=4) rfl (by kernel_rfl) (by kernel_rfl) (Val.pure rfl) rfl rfl rfl (PanQ.back rfl) (.cons .here rfl (.cons (.there .here) rfl (.cons (.there .here) rfl .nil))) rfl ?_
    refine RunA.val (i:=6) rfl (by kernel_rfl) (by kernel_rfl) (Val.pure rfl) rfl rfl rfl (PanQ.back rfl) (.cons .here rfl (.cons (.there .here) rfl (.cons (.there .here) rfl .nil))) rfl ?_
    refine RunA.one (i:=3) (by kernel_rfl) (by kernel_rfl) ?_
    refine RunI.callGT rfl (isCall_func rfl ent_70) rfl rfl rfl (fun w hm=>(calls_reG (nw':=fun _=>(b2,psZO (xo,xl))::(b26,rdO b19 (ownP s).length (2 + 10 * k + 2 + 2))::(b3,erO 0)::(b19,byO (ownP s))::(ptB (xo,xl)++[])) (np':=fun _=>(b2,psZO (xo,xl))::(b3,erO 0)::(b19,byO (ownP s))::[]) (width_calls b26 b19 (ownP s) (2 + 10 * k) ((b2,psZO (xo,xl))::(b3,erO 0)::ptB (xo,xl)) W w (hm.pick (Pick.cnt fun x=>by simp only [nC,List.map_cons,List.map_nil,erO,ptB,psXO,psZO];omega)) (by omega) (by omega)) (fun _=>(Pick.cnt fun x=>by simp only [nC,List.map_cons,List.map_nil,erO,ptB,psXO,psZO];omega)) (fun _=>(Pick.cnt fun x=>by simp only [nC,List.map_cons,List.map_nil,erO,ptB,psXO,psZO];omega)))) (fun p63 hp63=>?_) (fun z63 hz63=>(RunK.toA (.cons .here rfl (.cons (.there .here) rfl (.cons (.there .here) rfl .nil))) (.cons .here rfl (.cons .here rfl (.cons .here rfl .nil))) rfl ?_))
    ·have hr:readPs s = .error 8:=(readPs_body hlen hlen2 heq).trans (bodyP_cards hhd (cardsN_no (cardsN_b1 kI3 hp63) (show k + 1≤_ from hk)))
     refine RunE.panQ_panic (Sub.skip rfl (Sub.skip rfl (Sub.skip rfl (Sub.skip rfl (Sub.skip rfl (Sub.refl _)))))) (.cons .here rfl (.cons .here rfl (.cons .here rfl .nil))) ?_
     refine RunE.block_panic ?_
     refine RunE.pass_panic ?_
     refine RunE.pass_panic ?_
     refine RunE.block_panic ?_
     refine RunE.pass_panic ?_
     exact RunE.panC2 (cs:=_) (rest:=[]) [] rdP_catches ent_65 (by decide) (by rfl) (.cons (.there .here) rfl (.cons .here rfl .nil)) (.r2 rfl (.agg rfl (.tail _ (.head _)) ty_40 rfl) (.one rfl (.head _) ty_42 rfl)) (fun w hm=>⟨(zeroPX,_),hpan _ hr,rfl,hm.pick (news':=[]) (Pick.cnt fun x=>by simp only [nC,List.map_cons,List.map_nil,erO,ptB,psXO,psZO];omega)⟩)
    refine RunA.one (i:=5) (by kernel_rfl) (by kernel_rfl) ?_
    refine RunI.callGT rfl (isCall_func rfl ent_70) rfl rfl rfl (fun w hm=>(calls_reG (nw':=fun _=>(b2,psZO (xo,xl))::(b26,rdO b19 (ownP s).length (2 + 10 * k + 2 + 2 + 2 + 2))::(b3,erO 0)::(b19,byO (ownP s))::(ptB (xo,xl)++[])) (np':=fun _=>(b2,psZO (xo,xl))::(b3,erO 0)::(b19,byO (ownP s))::[]) (width_calls b26 b19 (ownP s) (2 + 10 * k + 2 + 2) ((b2,psZO (xo,xl))::(b3,erO 0)::ptB (xo,xl)) W w (hm.pick (Pick.cnt fun x=>by simp only [nC,List.map_cons,List.map_nil,erO,ptB,psXO,psZO];omega)) (by have:=width_le hz63;omega) (by omega)) (fun _=>(Pick.cnt fun x=>by simp only [nC,List.map_cons,List.map_nil,erO,ptB,psXO,psZO];omega)) (fun _=>(Pick.cnt fun x=>by simp only [nC,List.map_cons,List.map_nil,erO,ptB,psXO,psZO];omega)))) (fun p65 hp65=>?_) (fun z65 hz65=>(RunK.toA (.cons .here rfl (.cons (.there .here) rfl (.cons (.there .here) rfl .nil))) (.cons .here rfl (.cons .here rfl (.cons .here rfl .nil))) rfl ?_))
    ·have hr:readPs s = .error 8:=(readPs_body hlen hlen2 heq).trans (bodyP_cards hhd (cardsN_no (cardsN_b2 kI3 hz63 hp65) (show k + 1≤_ from hk)))
     refine RunE.panQ_panic (Sub.skip rfl (Sub.skip rfl (Sub.skip rfl (Sub.skip rfl (Sub.skip rfl (Sub.skip rfl (Sub.refl _))))))) (.cons .here rfl (.cons .here rfl (.cons .here rfl .nil))) ?_
     refine RunE.block_panic ?_
     refine RunE.pass_panic ?_
     refine RunE.pass_panic ?_
     refine RunE.block_panic ?_
     refine RunE.pass_panic ?_
     exact RunE.panC2 (cs:=_) (rest:=[]) [] rdP_catches ent_65 (by decide) (by rfl) (.cons (.there .here) rfl (.cons .here rfl .nil)) (.r2 rfl (.agg rfl (.tail _ (.head _)) ty_40 rfl) (.one rfl (.head _) ty_42 rfl)) (fun w hm=>⟨(zeroPX,_),hpan _ hr,rfl,hm.pick (news':=[]) (Pick.cnt fun x=>by simp only [nC,List.map_cons,List.map_nil,erO,ptB,psXO,psZO];omega)⟩)
    refine RunA.one (i:=7) (by kernel_rfl) (by kernel_rfl) ?_
    refine RunI.callGT rfl (isCall_func rfl ent_71) rfl rfl rfl (fun w hm=>(calls_reG (nw':=fun _=>(b2,psZO (xo,xl))::(b26,rdO b19 (ownP s).length (2 + 10 * k + 2 + 2 + 2 + 2 + 2))::(b3,erO 0)::(b19,byO (ownP s))::(ptB (xo,xl)++[])) (np':=fun _=>(b2,psZO (xo,xl))::(b3,erO 0)::(b19,byO (ownP s))::[]) (take_calls b26 b19 (ownP s) (2 + 10 * k + 2 + 2 + 2 + 2) ((b2,psZO (xo,xl))::(b3,erO 0)::ptB (xo,xl)) W w (hm.pick (Pick.cnt fun x=>by simp only [nC,List.map_cons,List.map_nil,erO,ptB,psXO,psZO];omega)) (by have:=width_le hz65;omega) (by omega)) (fun _=>(Pick.cnt fun x=>by simp only [nC,List.map_cons,List.map_nil,erO,ptB,psXO,psZO];omega)) (fun _=>(Pick.cnt fun x=>by simp only [nC,List.map_cons,List.map_nil,erO,ptB,psXO,psZO];omega)))) (fun p67 hp67=>?_) (fun z67 hz67=>(RunK.toA (.cons .here rfl (.cons (.there .here) rfl (.cons (.there .here) rfl .nil))) (.cons .here rfl (.cons .here rfl (.cons .here rfl .nil))) rfl ?_))
    ·have hr:readPs s = .error 8:=(readPs_body hlen hlen2 heq).trans (bodyP_cards hhd (cardsN_no (cardsN_b3 kI3 hz63 hz65 hp67) (show k + 1≤_ from hk)))
     refine RunE.panQ_panic (Sub.skip rfl (Sub.skip rfl (Sub.skip rfl (Sub.skip rfl (Sub.skip rfl (Sub.skip rfl (Sub.skip rfl (Sub.refl _)))))))) (.cons .here rfl (.cons .here rfl (.cons .here rfl .nil))) ?_
     refine RunE.block_panic ?_
     refine RunE.pass_panic ?_
     refine RunE.pass_panic ?_
     refine RunE.block_panic ?_
     refine RunE.pass_panic ?_
     exact RunE.panC2 (cs:=_) (rest:=[]) [] rdP_catches ent_65 (by decide) (by rfl) (.cons (.there .here) rfl (.cons .here rfl .nil)) (.r2 rfl (.agg rfl (.tail _ (.head _)) ty_40 rfl) (.one rfl (.head _) ty_42 rfl)) (fun w hm=>⟨(zeroPX,_),hpan _ hr,rfl,hm.pick (news':=[]) (Pick.cnt fun x=>by simp only [nC,List.map_cons,List.map_nil,erO,ptB,psXO,psZO];omega)⟩)
    refine RunA.val (i:=8) rfl (by kernel_rfl) (by kernel_rfl) (Val.build (parts:=[(0,.tmp 63),(1,.tmp 65),(2,.tmp 67)]) rfl zero_120 places_120 rfl) rfl rfl rfl (PanQ.back rfl) (.cons .here rfl (.cons (.there .here) rfl (.cons (.there .here) rfl .nil))) rfl ?_
    refine RunA.one (i:=9) (by kernel_rfl) (by kernel_rfl) ?_
    refine RunI.new rfl (New.buildSlice (parts:=[(0,.tmp 68)]) rfl sl_36 zero_120 rfl rfl rfl rfl) rfl rfl rfl (fun b69=>(RunK.toA (.cons .here rfl (.cons .here rfl (.cons (.there .here) rfl (.cons (.there .here) rfl .nil)))) (.cons (.there .here) rfl (.cons (.there .here) rfl (.cons (.there .here) rfl .nil))) rfl ?_))
    refine RunA.toB (by kernel_rfl) ?_
    refine RunB.one (i:=10) (by kernel_rfl) ?_
    refine RunI.append (A:=[(b69,_),(b2,_),(b26,_),(b3,_),(b19,_)]) (B:=_) (x:=xo) (ys:=(Pt.mk z63 z65 z67).cells) rfl ap_36 rfl rfl rfl kI1 rfl (fun h=>by cases h) (fun w hm=>src_blk (hm.at (.head _))) (one_of rfl) (by simp only [maxLen];show xl.length + 1≤_;omega) (by have:=kI2;show (xl.length + 1) * 40≤140737488355328;omega) rfl (fun z70 hz70=>(RunK.toB ?_))
    refine RunB.one (i:=11) (by kernel_rfl) ?_
    refine RunI.val rfl (Val.fieldAddr rfl fld_40_0) rfl rfl rfl (RunK.toB ?_)
    refine RunB.one (i:=12) (by kernel_rfl) ?_
    refine RunI.sto rfl (Sto.storeOwn rfl rfl (.there .here) ty_36 rfl rfl) rfl rfl (RunK.toB ?_)
    refine RunB.done (by kernel_rfl) ?_
    refine RunE.panQ_normal ?_
    refine st ?_
    refine lv (Val.add rfl rfl (IntWalk.i64_in _ ⟨by omega,by omega⟩)) ?_
    exact RunE.roundX (z70,xl++[⟨z63,z65,z67⟩]) (by omega) ⟨ol_snoc (z:=xo) hz70,by simp [kI2],cardsN_s kI3 hz63 hz65 hz67,by have:=(numB_lt hz67).2.2;omega⟩ rfl (Sub.consE (t:=58) rfl rfl (Sub.cons (t:=2) rfl (Sub.cons (t:=3) rfl (Sub.cons (t:=4) rfl (Sub.cons (t:=5) rfl (Sub.cons (t:=57) rfl (Sub.nil _))))))) (.cons (.there .here) (by simp [PsX.cells]) (.cons (.there .here) (by rw [show 2 + 10 * k + 2 + 2 + 2 + 2 + 2=2 + 10 * (k + 1) by omega]) (.cons (.there .here) rfl (.cons (.there .here) rfl (Pick.skip (Pick.same (by simp [ptB])))))))
   intro c0'
   obtain rfl:k=((ownP s).getD 1 0).toNat:=by omega
   refine RunC.exit ?_
   refine RunE.pass_exit ?_
   refine RunE.pass_exit ?_
   refine RunE.block_here ?_
   refine st ?_
   refine RunL.callGT (isCall_func rfl ent_70) rfl rfl rfl (fun w hm=>(calls_reG (nw':=fun _=>(b2,psZO (xo,xl))::(b26,rdO b19 (ownP s).length (2 + 10 * ((ownP s).getD 1 0).toNat + 2 + 2))::(b3,erO 0)::(b19,byO (ownP s))::(ptB (xo,xl)++[])) (np':=fun _=>(b2,psZO (xo,xl))::(b3,erO 0)::(b19,byO (ownP s))::[]) (width_calls b26 b19 (ownP s) (2 + 10 * ((ownP s).getD 1 0).toNat) ((b2,psZO (xo,xl))::(b3,erO 0)::ptB (xo,xl)) W w (hm.pick (Pick.cnt fun x=>by simp only [nC,List.map_cons,List.map_nil,erO,ptB,psXO,psZO];omega)) (by omega) (by omega)) (fun _=>(Pick.cnt fun x=>by simp only [nC,List.map_cons,List.map_nil,erO,ptB,psXO,psZO];omega)) (fun _=>(Pick.cnt fun x=>by simp only [nC,List.map_cons,List.map_nil,erO,ptB,psXO,psZO];omega)))) (fun p74 hp74=>?_) (fun z74 hz74=>?_)
   ·have hr:readPs s = .error 8:=(readPs_body hlen hlen2 heq).trans (bodyP_less hhd kI3 hp74)
    refine RunE.pass_panic ?_
    exact RunE.panC2 (cs:=_) (rest:=[]) [] rdP_catches ent_65 (by decide) (by rfl) (.cons (.there .here) rfl (.cons .here rfl .nil)) (.r2 rfl (.agg rfl (.tail _ (.head _)) ty_40 rfl) (.one rfl (.head _) ty_42 rfl)) (fun w hm=>⟨(zeroPX,_),hpan _ hr,rfl,hm.pick (news':=[]) (Pick.cnt fun x=>by simp only [nC,List.map_cons,List.map_nil,erO,ptB,psXO,psZO];omega)⟩)
   refine st ?_
   refine RunL.callGT (isCall_func rfl ent_70) rfl rfl rfl (fun w hm=>(calls_reG (nw':=fun _=>(b2,psZO (xo,xl))::(b26,rdO b19 (ownP s).length (2 + 10 * ((ownP s).getD 1 0).toNat + 2 + 2 + 2 + 2))::(b3,erO 0)::(b19,byO (ownP s))::(ptB (xo,xl)++[])) (np':=fun _=>(b2,psZO (xo,xl))::(b3,erO 0)::(b19,byO (ownP s))::[]) (width_calls b26 b19 (ownP s) (2 + 10 * ((ownP s).getD 1 0).toNat + 2 + 2) ((b2,psZO (xo,xl))::(b3,erO 0)::ptB (xo,xl)) W w (hm.pick (Pick.cnt fun x=>by simp only [nC,List.map_cons,List.map_nil,erO,ptB,psXO,psZO];omega)) (by have:=width_le hz74;omega) (by omega)) (fun _=>(Pick.cnt fun x=>by simp only [nC,List.map_cons,List.map_nil,erO,ptB,psXO,psZO];omega)) (fun _=>(Pick.cnt fun x=>by simp only [nC,List.map_cons,List.map_nil,erO,ptB,psXO,psZO];omega)))) (fun p76 hp76=>?_) (fun z76 hz76=>?_)
   ·have hr:readPs s = .error 8:=(readPs_body hlen hlen2 heq).trans (bodyP_loss hhd kI3 hz74 hp76)
    refine RunE.pass_panic ?_
    exact RunE.panC2 (cs:=_) (rest:=[]) [] rdP_catches ent_65 (by decide) (by rfl) (.cons (.there .here) rfl (.cons .here rfl .nil)) (.r2 rfl (.agg rfl (.tail _ (.head _)) ty_40 rfl) (.one rfl (.head _) ty_42 rfl)) (fun w hm=>⟨(zeroPX,_),hpan _ hr,rfl,hm.pick (news':=[]) (Pick.cnt fun x=>by simp only [nC,List.map_cons,List.map_nil,erO,ptB,psXO,psZO];omega)⟩)
   refine lv (Val.fieldAddr rfl fld_40_1) ?_
   refine RunL.sto (Sto.store rfl rfl .here ty_38 rfl rfl) rfl rfl ?_
   refine lv (Val.fieldAddr rfl fld_40_2) ?_
   refine RunL.sto (Sto.store rfl rfl .here ty_38 rfl rfl) rfl rfl ?_
   refine st ?_
   refine lv (Val.fieldAddr rfl fld_131_1) ?_
   refine lv (Val.load_one rfl (.tail _ (.head _)) ty_3 rfl) ?_
   refine lv (Val.len_sl rfl sl_58) ?_
   refine RunL.ways (dj:=86) rfl ?_ ?_
   ·intro g86
    have g86':=g86;clear g86
    try simp only [nH] at g86'
    refine lv (Val.load_agg rfl (.head _) ty_40 rfl) ?_
    refine RunL.callP (isCall_func rfl ent_59) rfl rfl rfl (fun w hm=>(isPrintsX_calls ⟨(xo,xl),z74,z76⟩ kI1 (by have:=((ownP s).getD 1 0).toNat_lt;dsimp only;omega) [] W w (hm.pick (news':=ptB (xo,xl)++[]) (Pick.cnt fun x=>by simp only [nC,List.map_cons,List.map_nil,erO,ptB,psXO,psZO];omega)))) ?_
    refine st ?_
    refine RunL.callT (isCall_func rfl ent_67) rfl rfl rfl (fun w hm=>need_calls _ _ w) (fun e90 he90=>?_) (fun v90 hv90=>?_)
    ·obtain ⟨er90,rfl⟩:=need_err he90
     have hr:readPs s = .error 8:=(readPs_body hlen hlen2 heq).trans ((bodyP_end hhd kI3 hz74 hz76).trans (if_neg (fun h=>by first | (have h3:=h.1;omega) | exact absurd (h.2.symm.trans er90) (by decide))))
     refine RunE.pass_panic ?_
     exact RunE.panC2 (cs:=_) (rest:=[]) [] rdP_catches ent_65 (by decide) (by rfl) (.cons (.there (.there .here)) rfl (.cons .here rfl .nil)) (.r2 rfl (.agg rfl (.tail _ (.head _)) ty_40 rfl) (.one rfl (.head _) ty_42 rfl)) (fun w hm=>⟨(zeroPX,_),hpan _ hr,rfl,hm.pick (news':=[]) (Pick.cnt fun x=>by simp only [nC,List.map_cons,List.map_nil,erO,ptB,psXO,psZO];omega)⟩)
    obtain ⟨ok90,rfl⟩:=need_ok hv90
    refine st ?_
    refine lv (Val.load_agg rfl (.head _) ty_40 rfl) ?_
    refine RunL.sto (Sto.store (cs:=(PsX.mk (xo,xl) z74 z76).cells) (cs':=(PsX.mk (xo,xl) z74 z76).cells) rfl rfl .here ty_40 rfl (paste_psX ⟨(xo,xl),z74,z76⟩)) rfl rfl ?_
    refine RunL.sto (Sto.store rfl rfl (.there (.there .here)) ty_42 rfl rfl) rfl rfl ?_
    refine st ?_
    refine RunC.ret ?_
    exact RunE.outC2 (news2:=(b3,erO 0)::(b2,psXO ⟨(xo,xl),z74,z76⟩)::(ptB (xo,xl)++[])) [] rdP_catches ent_65 (Pick.cnt fun x=>by simp only [nC,List.map_cons,List.map_nil,erO,ptB,psXO,psZO];omega) (.head _) (.r2 rfl (.agg rfl (.tail _ (.head _)) ty_40 rfl) (.one rfl (.head _) ty_42 rfl)) (fun w hm=>⟨(⟨(xo,xl),z74,z76⟩,0),.inl ⟨⟨xl,z74,z76⟩,(readPs_body hlen hlen2 heq).trans ((bodyP_end hhd kI3 hz74 hz76).trans (if_pos ⟨by omega,ok90⟩)),rfl,rfl,kI1⟩,rfl,hm.pick (news':=ptB (xo,xl)++[]) (Pick.cnt fun x=>by simp only [nC,List.map_cons,List.map_nil,erO,ptB,psXO,psZO];omega)⟩)
   intro g86
   have g86':=g86;clear g86
   try simp only [nH] at g86'
   refine RunL.no rfl rfl rfl ?_
   refine RunL.no rfl rfl rfl ?_
   refine st ?_
   refine RunL.callT (isCall_func rfl ent_67) rfl rfl rfl (fun w hm=>need_calls _ _ w) (fun e90 he90=>?_) (fun v90 hv90=>?_)
   ·obtain ⟨er90,rfl⟩:=need_err he90
    have hr:readPs s = .error 8:=(readPs_body hlen hlen2 heq).trans ((bodyP_end hhd kI3 hz74 hz76).trans (if_neg (fun h=>by first | (have h3:=h.1;omega) | exact absurd (h.2.symm.trans er90) (by decide))))
    refine RunE.pass_panic ?_
    exact RunE.panC2 (cs:=_) (rest:=[]) [] rdP_catches ent_65 (by decide) (by rfl) (.cons (.there (.there .here)) rfl (.cons .here rfl .nil)) (.r2 rfl (.agg rfl (.tail _ (.head _)) ty_40 rfl) (.one rfl (.head _) ty_42 rfl)) (fun w hm=>⟨(zeroPX,_),hpan _ hr,rfl,hm.pick (news':=[]) (Pick.cnt fun x=>by simp only [nC,List.map_cons,List.map_nil,erO,ptB,psXO,psZO];omega)⟩)
   obtain ⟨ok90,rfl⟩:=need_ok hv90
   exact absurd ok90 (by decide)
  intro g44
  have g44':=g44;clear g44
  try simp only [nH] at g44'
  iterate 4 refine RunL.no rfl rfl rfl ?_
  refine st ?_
  refine RunL.callT (isCall_func rfl ent_67) rfl rfl rfl (fun w hm=>need_calls _ _ w) (fun e50 he50=>?_) (fun v50 hv50=>?_)
  ·obtain ⟨er50,rfl⟩:=need_err he50
   have hr:readPs s = .error 8:=(readPs_body hlen hlen2 heq).trans (bodyP_head (by first | (left;omega) | (right;intro h;have h2:=of_decide_eq_false er50;rw [h] at h2;exact h2 rfl)))
   refine RunE.pass_panic ?_
   exact RunE.panC2 (cs:=_) (rest:=[]) [] rdP_catches ent_65 (by decide) (by rfl) (.cons (.there (.there (.there .here))) rfl (.cons (.there (.there (.there .here))) rfl .nil)) (.r2 rfl (.agg rfl (.tail _ (.head _)) ty_40 rfl) (.one rfl (.head _) ty_42 rfl)) (fun w hm=>⟨(zeroPX,_),hpan _ hr,rfl,hm.pick (news':=[]) (Pick.cnt fun x=>by simp only [nC,List.map_cons,List.map_nil,erO,ptB,psXO,psZO];omega)⟩)
  obtain ⟨ok50,rfl⟩:=need_ok hv50
  first | (have hhd:¬ ((ownP s).length < 2∨(ownP s).getD 0 0 ≠ 80):=(by rintro (h | h);omega;exact h (UInt8.toNat_inj.1 (by have h2:=of_decide_eq_true ok50;have h3:(80:UInt8).toNat=80:=rfl;omega)))) | skip
  exact absurd ok50 (by decide)
end Go.Proofs.YtleamcmljcdapaaGreatDoor
namespace Go.Bk
open Go Go.Eng Go.RowKit
theorem numB_put {a r:Str} {n:Int} (h:In16 n):numB (a++(putS n++r)) a.length=some n:=by
  obtain ⟨h1,h2⟩:=h
  rw [numB_ok (by simp [putS])]
  have e1:(a++(putS n++r)).getD a.length 0=UInt8.ofNat (n.toNat / 256):=by
    simp [putS,List.getD_eq_getElem?_getD]
  have e2:(a++(putS n++r)).getD (a.length + 1) 0=UInt8.ofNat (n.toNat % 256):=by
    rw [List.getD_eq_getElem?_getD,List.getElem?_append_right (by omega)]
    simp [putS]
  rw [e1,e2]
  simp only [UInt8.toNat_ofNat']
  congr 1
  omega
theorem width_put {a r:Str} {s:Sp} (h:Sp16 s):widthB (a++(spanB s++r)) a.length=some s:=by
  obtain ⟨h1,h2,h3⟩:=h
  have e1:a++(spanB s++r)=a++(putS s.lo++(putS (s.hi - s.lo)++r)):=by simp [spanB]
  have e2:a++(spanB s++r)=(a++putS s.lo)++(putS (s.hi - s.lo)++r):=by simp [spanB]
  have n1:numB (a++(spanB s++r)) a.length=some s.lo:=by rw [e1];exact numB_put (by unfold In16;omega)
  have n2:numB (a++(spanB s++r)) (a.length + 2)=some (s.hi - s.lo):=by
    rw [e2]
    have:=numB_put (a:=a++putS s.lo) (r:=r) (n:=s.hi - s.lo) (by unfold In16;omega)
    simpa [putS] using this
  unfold widthB
  rw [n1,n2]
  dsimp only
  rw [show s.lo + (s.hi - s.lo)=s.hi by omega]
theorem span_len (s:Sp):(spanB s).length=4:=rfl
theorem card_put {a r:Str} {c:Pt} (h:Sp16 c.size∧Sp16 c.wide∧0≤c.marks∧c.marks≤1023):cardP (a++(cardB c++r)) a.length=some c:=by
  obtain ⟨h1,h2,h3,h4⟩:=h
  have e1:a++(cardB c++r)=a++(spanB c.size++(spanB c.wide++(putS c.marks++r))):=by simp [cardB]
  have e2:a++(cardB c++r)=(a++spanB c.size)++(spanB c.wide++(putS c.marks++r)):=by simp [cardB]
  have e3:a++(cardB c++r)=((a++spanB c.size)++spanB c.wide)++(putS c.marks++r):=by simp [cardB]
  have n1:widthB (a++(cardB c++r)) a.length=some c.size:=by rw [e1];exact width_put h1
  have n2:widthB (a++(cardB c++r)) (a.length + 4)=some c.wide:=by
    have:=width_put (a:=a++spanB c.size) (r:=putS c.marks++r) h2
    rw [e2]
    simpa [span_len] using this
  have n3:numB (a++(cardB c++r)) (a.length + 8)=some c.marks:=by
    have:=numB_put (a:=(a++spanB c.size)++spanB c.wide) (r:=r) (n:=c.marks) (by unfold In16;omega)
    rw [e3]
    simpa [span_len] using this
  unfold cardP
  rw [n1,n2,n3]
theorem card_len (c:Pt):(cardB c).length=10:=rfl
theorem cards_len (cs:List Pt):((cs.map cardB).flatten).length=10 * cs.length:=by
  induction cs with
  | nil=>rfl
  | cons c cs ih=>simp only [List.map_cons,List.flatten_cons,List.length_append,card_len,ih,List.length_cons];omega
theorem cards_put {a:Str} (ha:a.length=2) {cs:List Pt} (h:∀ c∈cs,Sp16 c.size∧Sp16 c.wide∧0≤c.marks∧c.marks≤1023) (r:Str):∀ k,k≤cs.length→cardsN (a++((cs.map cardB).flatten++r)) k=some (cs.take k)
  | 0,_=>by simp [cardsN]
  | k + 1,hk=>by
    have hk':k < cs.length:=by omega
    rw [cardsN,cards_put ha h r k (by omega)]
    have e:a++((cs.map cardB).flatten++r)=(a++((cs.take k).map cardB).flatten)++(cardB cs[k]++(((cs.drop (k + 1)).map cardB).flatten++r)):=by
      have e0:(cs.map cardB).flatten=((cs.take k).map cardB).flatten++(cardB cs[k]++((cs.drop (k + 1)).map cardB).flatten):=by
        rw [← List.flatten_cons,← List.map_cons,← List.flatten_append,← List.map_append,← List.drop_eq_getElem_cons hk',List.take_append_drop]
      rw [e0]
      simp only [List.append_assoc]
    have hl:(a++((cs.take k).map cardB).flatten).length=2 + 10 * k:=by
      rw [List.length_append,cards_len,ha,List.length_take]
      omega
    have hc:=card_put (a:=a++((cs.take k).map cardB).flatten) (r:=((cs.drop (k + 1)).map cardB).flatten++r) (h cs[k] (List.getElem_mem hk'))
    rw [← e,hl] at hc
    rw [hc]
    dsimp only
    rw [List.take_succ_eq_append_getElem hk']
theorem prints_pl {p:Ps} (h:printsX p=true):p.cards.length≤5∧(∀ c∈p.cards,Sp16 c.size∧Sp16 c.wide∧0≤c.marks∧c.marks≤1023)∧Sp16 p.less∧Sp16 p.loss:=by
  have hv:=prints_v (p:=⟨⟨p.cards,none,0,0,0⟩,p.less,p.loss⟩) h
  exact ⟨hv.cards,hv.each,hv.less,hv.loss⟩
theorem bodyP_ok {p:Ps} (h:printsX p=true):bodyP (psB p) = .ok p:=by
  obtain ⟨h1,h2,h3,h4⟩:=prints_pl h
  have hn:((psB p).getD 1 0).toNat=p.cards.length:=by
    have e:(psB p).getD 1 0=UInt8.ofNat p.cards.length:=by simp [psB,headB]
    rw [e]
    simp only [UInt8.toNat_ofNat']
    omega
  have hl:(psB p).length=2 + 10 * p.cards.length + 8:=by
    simp only [psB,headB,List.length_append,cards_len,span_len,List.length_cons,List.length_nil]
  have hh:¬ ((psB p).length < 2∨(psB p).getD 0 0 ≠ 80):=by
    rintro (h5 | h5)
    · omega
    · exact h5 (by simp [psB,headB])
  have e1:psB p=headB p++((p.cards.map cardB).flatten++(spanB p.less++spanB p.loss)):=by simp [psB]
  have e2:psB p=(headB p++(p.cards.map cardB).flatten)++(spanB p.less++spanB p.loss):=by simp [psB]
  have e3:psB p=((headB p++(p.cards.map cardB).flatten)++spanB p.less)++(spanB p.loss++[]):=by simp [psB]
  have l2:(headB p++(p.cards.map cardB).flatten).length=2 + 10 * p.cards.length:=by rw [List.length_append,cards_len];rfl
  have c1:cardsN (psB p) ((psB p).getD 1 0).toNat=some p.cards:=by
    rw [hn,e1,cards_put rfl h2 _ _ (Nat.le_refl _),List.take_length]
  have c2:widthB (psB p) (2 + 10 * ((psB p).getD 1 0).toNat)=some p.less:=by
    have:=width_put (a:=headB p++(p.cards.map cardB).flatten) (r:=spanB p.loss) h3
    rw [hn,← l2,e2]
    exact this
  have c3:widthB (psB p) (2 + 10 * ((psB p).getD 1 0).toNat + 2 + 2)=some p.loss:=by
    have:=width_put (a:=(headB p++(p.cards.map cardB).flatten)++spanB p.less) (r:=[]) h4
    rw [List.length_append,l2,span_len] at this
    rw [hn,show 2 + 10 * p.cards.length + 2 + 2=2 + 10 * p.cards.length + 4 by omega]
    rw [← e3] at this
    exact this
  rw [bodyP_end hh c1 c2 c3,if_pos ⟨by rw [hn,hl],h⟩]
theorem psS_len {p:Ps} (h:printsX p=true):12≤(psS p).length∧(psS p).length≤62:=by
  have h1:=(prints_pl h).1
  simp only [psS,psB,headB,putS,List.length_append,cards_len,span_len,List.length_cons,List.length_nil]
  omega
theorem readPs_ok {p:Ps} (h:printsX p=true):readPs (psS p) = .ok p:=by
  have hl:=psS_len h
  have ho:ownP (psS p)=psB p:=by
    unfold ownP psS
    rw [List.length_append,show (putS (checkN (psB p):Int)).length=2 from rfl,Nat.add_sub_cancel]
    simp
  rw [readPs_body (by omega) (by omega) (by rw [ho];rfl),ho,bodyP_ok h]
end Go.Bk
namespace Go.Proofs.YtleamcmljcdapaaGreatDoor
open Go Go.Eng
theorem ent_45:Enters Tryz.prog 45:=enters_of Tryz.func45 (by kernel_rfl) rfl
theorem ent_52:Enters Tryz.prog 52:=enters_of Tryz.func52 (by kernel_rfl) rfl
theorem ent_56:Enters Tryz.prog 56:=enters_of Tryz.func56 (by kernel_rfl) rfl
end Go.Proofs.YtleamcmljcdapaaGreatDoor
namespace Go.Bk
open Go Go.Eng Go.RowKit
theorem pasteN_over:∀ {cs ds:List Value},cs.length=ds.length→(∀ v∈ds,isOne v=true)→pasteN cs ds=some ds
  | [],[],_,_=>rfl
  | c::cs,d::ds,hl,h=>by
    have ih:=pasteN_over (cs:=cs) (ds:=ds) (by simpa using hl) (fun v hv=>h v (List.mem_cons_of_mem _ hv))
    simp only [pasteN,h d (List.mem_cons_self ..),ih]
  | [],_::_,hl,_=>by simp at hl
  | _::_,[],hl,_=>by simp at hl
theorem paste_over {cs ds:List Value} (hl:cs.length=ds.length) (h:∀ v∈ds,isOne v=true):paste cs 0 (cellsL (.agg ds.toArray))=some ds:=by
  have h2:=pasteN_over hl h
  show paste cs 0 ds=some ds
  cases cs <;> simpa [paste] using h2
theorem one_trX (x:TrX):∀ v∈x.cells,isOne v=true:=fun v hv=>by
  simp only [TrX.cells,List.mem_cons,List.not_mem_nil,or_false] at hv
  rcases hv with rfl | rfl | rfl | rfl | rfl <;> first | rfl | exact own_one _ _
theorem one_cbX (x:CbX):∀ v∈x.cells,isOne v=true:=fun v hv=>by
  simp only [CbX.cells,List.mem_cons,List.not_mem_nil,or_false] at hv
  rcases hv with rfl | rfl | rfl | rfl <;> first | rfl | exact own_one _ _
theorem one_ryX (x:RyX):∀ v∈x.cells,isOne v=true:=fun v hv=>by
  simp only [RyX.cells,List.mem_cons,List.not_mem_nil,or_false] at hv
  rcases hv with rfl | rfl | rfl | rfl | rfl <;> first | rfl | exact own_one _ _
end Go.Bk
namespace Go.Proofs.YtleamcmljcdapaaGreatDoor
open Go Go.Eng Go.Bk Go.RowKit

theorem ReadTour_calls (s:Str) (W:World) (hL:Lw Tryz.prog W) (hs:s.length≤100000):Calls Tryz.prog 12 #[.string (bs s)] W (Grow W [] (fun z:TrX×Int=>.tuple #[.agg z.1.cells.toArray,.int .i64 z.2]) (fun z=>trB z.1++[]) (RdX (readX tourStep zeroT tourX tourS s) TrX.pl (TrXOk 10000) zeroTX)):=by
  refine calls_start Tryz.func12 rfl rfl ?_
  refine st ?_
  refine RunL.new (New.alloc zero_25) rfl rfl rfl (fun b2=>?_)
  refine st ?_
  refine RunL.callN (isCall_func rfl ent_42) rfl rfl rfl (fun w hm=>tours_calls w) (fun b5=>?_)
  refine RunL.callG (isCall_func rfl ent_45) rfl rfl rfl (fun w hm=>(calls_re (nw':=fun z=>(b2,.cells zsrdT.toArray 25 (0,0))::(trB z.1++[])) (readT_calls s b5 [(b2,.cells zsrdT.toArray 25 (0,0))] W w hL (hm.pick (.cons .here rfl (.cons .here rfl .nil))) hs) (fun z=>(Pick.cnt fun x=>by simp only [nC,trB];omega)))) (fun z6 hz6=>?_)
  
  refine st ?_
  refine RunL.sto (Sto.store (cs:=zsrdT) (cs':=z6.1.cells) rfl rfl .here ty_25 rfl (paste_over rfl (one_trX _))) rfl rfl ?_
  refine st ?_
  refine RunC.ret ?_
  exact RunE.retG z6 hz6 (.r2 rfl (.agg rfl (.head _) ty_25 rfl) (.tmp rfl)) rfl (Pick.skip (Pick.refl _))
theorem ReadCabinet_calls (s:Str) (W:World) (hL:Lw Tryz.prog W) (hs:s.length≤100000):Calls Tryz.prog 17 #[.string (bs s)] W (Grow W [] (fun z:CbX×Int=>.tuple #[.agg z.1.cells.toArray,.int .i64 z.2]) (fun z=>cbB z.1++[]) (RdX (readX cabStep zeroC cabX cabS s) CbX.pl (CbXOk 10000) zeroCX)):=by
  refine calls_start Tryz.func17 rfl rfl ?_
  refine st ?_
  refine RunL.new (New.alloc zero_30) rfl rfl rfl (fun b2=>?_)
  refine st ?_
  refine RunL.callN (isCall_func rfl ent_50) rfl rfl rfl (fun w hm=>cabinets_calls w) (fun b5=>?_)
  refine RunL.callG (isCall_func rfl ent_52) rfl rfl rfl (fun w hm=>(calls_re (nw':=fun z=>(b2,.cells zsrdC.toArray 30 (0,0))::(cbB z.1++[])) (readC_calls s b5.1 b5.2.1 b5.2.2 [(b2,.cells zsrdC.toArray 30 (0,0))] W w hL (hm.pick (.cons .here rfl (.cons .here rfl (.cons .here rfl (.cons .here rfl .nil))))) hs) (fun z=>(Pick.cnt fun x=>by simp only [nC,cbB];omega)))) (fun z6 hz6=>?_)
  
  refine st ?_
  refine RunL.sto (Sto.store (cs:=zsrdC) (cs':=z6.1.cells) rfl rfl .here ty_30 rfl (paste_over rfl (one_cbX _))) rfl rfl ?_
  refine st ?_
  refine RunC.ret ?_
  exact RunE.retG z6 hz6 (.r2 rfl (.agg rfl (.head _) ty_30 rfl) (.tmp rfl)) rfl (Pick.skip (Pick.refl _))
theorem ReadRoyal_calls (s:Str) (W:World) (hL:Lw Tryz.prog W) (hs:s.length≤100000):Calls Tryz.prog 21 #[.string (bs s)] W (Grow W [] (fun z:RyX×Int=>.tuple #[.agg z.1.cells.toArray,.int .i64 z.2]) (fun z=>ryB z.1++[]) (RdX (readX royStep zeroR royalX royalS s) RyX.pl (RyXOk 10000) zeroRX)):=by
  refine calls_start Tryz.func21 rfl rfl ?_
  refine st ?_
  refine RunL.new (New.alloc zero_35) rfl rfl rfl (fun b2=>?_)
  refine st ?_
  refine RunL.callN (isCall_func rfl ent_55) rfl rfl rfl (fun w hm=>royalties_calls w) (fun b5=>?_)
  refine RunL.callG (isCall_func rfl ent_56) rfl rfl rfl (fun w hm=>(calls_re (nw':=fun z=>(b2,.cells zsrdR.toArray 35 (0,0))::(ryB z.1++[])) (readR_calls s b5 [(b2,.cells zsrdR.toArray 35 (0,0))] W w hL (hm.pick (.cons .here rfl (.cons .here rfl .nil))) hs) (fun z=>(Pick.cnt fun x=>by simp only [nC,ryB];omega)))) (fun z6 hz6=>?_)
  
  refine st ?_
  refine RunL.sto (Sto.store (cs:=zsrdR) (cs':=z6.1.cells) rfl rfl .here ty_35 rfl (paste_over rfl (one_ryX _))) rfl rfl ?_
  refine st ?_
  refine RunC.ret ?_
  exact RunE.retG z6 hz6 (.r2 rfl (.agg rfl (.head _) ty_35 rfl) (.tmp rfl)) rfl (Pick.skip (Pick.refl _))
end Go.Proofs.YtleamcmljcdapaaGreatDoor
namespace Go.Proofs.YtleamcmljcdapaaGreatDoor
open Go Go.Eng
theorem ent_100:Enters Tryz.prog 100:=enters_of Tryz.func100 (by kernel_rfl) rfl
end Go.Proofs.YtleamcmljcdapaaGreatDoor
namespace Go.Bk
open Go Go.Eng Go.RowKit
def sepT (w:Str) (ws:List Str):Str:=w++(ws.map fun x=>[32]++x).flatten
theorem sepT_s {w:Str} {ws:List Str} {k:Nat} (hk:k < ws.length) {x:Str} (hx:ws[k]=x):sepT w (ws.take (k + 1))=sepT w (ws.take k)++[32]++x:=by
  unfold sepT
  rw [List.take_succ_eq_append_getElem hk,List.map_append,List.flatten_append,hx]
  simp
theorem sepT_join:∀ (w:Str) (ws:List Str),sepT w ws=Lib.join (w::ws) [32]
  | w,[]=>by simp [sepT,Lib.join_one]
  | w,v::ws=>by
    have e:Lib.join (w::v::ws) [32]=w++32::Lib.join (v::ws) [32]:=by simp [Lib.join,List.intercalate]
    rw [e,← sepT_join v ws]
    simp [sepT]
theorem sepT_len {w:Str} {ws:List Str} {m:Nat} (h:∀ x∈ws,x.length≤m):(sepT w ws).length≤w.length + ws.length * (m + 1):=by
  have h1:=flat_len_le (f:=fun x:Str=>[32]++x) (l:=ws) (m:=m + 1) (fun x hx=>by have:=h x hx;simp;omega)
  unfold sepT
  rw [List.length_append]
  exact Nat.add_le_add_left h1 _
theorem sepT_line (w:Str) (ws:List Str):sepT w ws++[10]=lineS (w::ws):=by rw [sepT_join];rfl
end Go.Bk
namespace Go.Proofs.YtleamcmljcdapaaGreatDoor
open Go Go.Eng Go.Bk Go.RowKit

theorem rnum_calls (n:Int) (h:In64 n) (W:World) (hL:Lw Tryz.prog W):Calls Tryz.prog 100 #[.int .i64 n] W (Pure (.string (bs (Lib.itoa n))) W):=by
  refine calls_start Tryz.func100 rfl rfl ?_
  refine st ?_
  refine RunL.callP (isCall_func rfl ent_136) rfl rfl rfl (fun w hm=>itoa_calls n h w (hL.mono hm)) ?_
  refine st ?_
  refine RunC.ret ?_
  exact RunE.retP (.r1 rfl (.tmp rfl)) (by first | rfl | simp)
theorem rnums_calls (wd:Str) (x:SA Int) (W:World) (hL:Lw Tryz.prog W) (hw:wd.length≤100) (hx:x.ok intC 1 W) (hl:x.l.length≤10000) (h:∀ n∈x.l,In64 n):Calls Tryz.prog 43 #[.string (bs wd),x.v] W (Pure (.string (bs (lineS (wd::x.l.map Lib.itoa)))) W):=by
  have hlen:∀ k,(sepT wd ((x.l.map Lib.itoa).take k)).length≤600000:=fun k=>by
    have h1:=sepT_len (w:=wd) (ws:=(x.l.map Lib.itoa).take k) (m:=50) (fun y hy=>by obtain ⟨n,hn,rfl⟩:=List.mem_map.1 (List.mem_of_mem_take hy);exact it50 (h n hn))
    have h2:((x.l.map Lib.itoa).take k).length≤10000:=by rw [List.length_take,List.length_map];omega
    omega
  refine calls_start Tryz.func43 rfl rfl ?_
  refine st ?_
  refine RunC.loopK (x.l.length) (fun k q=>(5,.int .i64 (k:Int))::(0,.string (bs (sepT wd ((x.l.map Lib.itoa).take k))))::q) (fun _=>_) (fun _=>[]) (fun _=>True) trivial rfl (Sub.consE (t:=5) rfl rfl (Sub.consE (t:=0) rfl (by simp [sepT]) (Sub.cons (t:=1) rfl (Sub.nil _)))) .nil ?_
  intro k kN kI
  clear kI
  refine st ?_
  refine lv (Val.len_sl rfl sl_27) ?_
  refine cn rfl ?_ ?_
  ·intro c0'
   have hk:k < x.l.length:=by omega
   obtain ⟨y,hy⟩:∃ y,x.l[k]=y:=⟨_,rfl⟩
   have hy64:=h y (hy ▸ List.getElem_mem hk)
   refine st ?_
   refine lv (Val.strAdd rfl rfl (by have:=hlen k;simp;omega)) ?_
   refine lv (Val.indexAddr_slp rfl rfl sl_27 (by omega) (by omega) (Sl.ptrM hx hk)) ?_
   refine lv (Val.load_gen rfl (fun w hm=>Sl.loadM1 hx (by decide) hm (by simp) ty_3 hk (v:=.int .i64 y) (by simp [intC,hy]))) ?_
   refine RunL.callP (isCall_func rfl ent_100) rfl rfl rfl (fun w hm=>rnum_calls y hy64 w (hL.mono hm)) ?_
   refine lv (Val.strAdd rfl rfl (by have:=hlen k;have:=itoa_len hy64;simp;omega)) ?_
   refine lv (Val.add rfl rfl (IntWalk.i64_in _ ⟨by omega,by omega⟩)) ?_
   exact RunE.round (by omega) trivial rfl (Sub.consE (t:=5) rfl rfl (Sub.consE (t:=0) rfl (by rw [sepT_s (x:=Lib.itoa y) (by simpa using hk) (by simp [hy])]) (Sub.cons (t:=1) rfl (Sub.nil _)))) .nil
  intro c0'
  obtain rfl:k=x.l.length:=by omega
  refine RunC.exit ?_
  refine RunE.pass_exit ?_
  refine RunE.pass_exit ?_
  refine RunE.block_here ?_
  refine st ?_
  refine lv (Val.strAdd rfl rfl (by have:=hlen x.l.length;simp;omega)) ?_
  refine RunC.ret ?_
  exact RunE.retP (.r1 rfl (.tmp rfl)) (by rw [← sepT_line,List.take_of_length_le (by simp)])
end Go.Proofs.YtleamcmljcdapaaGreatDoor
namespace Go.Bk
open Go Go.Eng Go.RowKit
theorem take_all {α:Type} {l:List α} {k:Nat} {p:α→Bool} {x:α} (hk:k < l.length) (hx:l[k]=x) (h:(l.take k).all p=true) (h2:p x=true):(l.take (k + 1)).all p=true:=by
  rw [List.take_succ_eq_append_getElem hk,List.all_append,h,hx]
  simp [h2]
theorem all_no {α:Type} {l:List α} {k:Nat} {p:α→Bool} {x:α} (hk:k < l.length) (hx:l[k]=x) (h2:p x=false):l.all p=false:=by
  rw [List.all_eq_false]
  exact ⟨x,by rw [← hx];exact List.getElem_mem hk,by simp [h2]⟩
end Go.Bk
namespace Go.Proofs.YtleamcmljcdapaaGreatDoor
open Go Go.Eng Go.Bk Go.RowKit

end Go.Proofs.YtleamcmljcdapaaGreatDoor
namespace Go.Proofs.YtleamcmljcdapaaGreatDoor
open Go Go.Eng
theorem ent_43:Enters Tryz.prog 43:=enters_of Tryz.func43 (by kernel_rfl) rfl
end Go.Proofs.YtleamcmljcdapaaGreatDoor
namespace Go.Proofs.YtleamcmljcdapaaGreatDoor
open Go Go.Eng
theorem ent_108:Enters Tryz.prog 108:=enters_of Tryz.func108 (by kernel_rfl) rfl
theorem ent_128:Enters Tryz.prog 128:=enters_of Tryz.func128 (by kernel_rfl) rfl
theorem pair_38:pairB Tryz.prog 38=true:=by kernel_rfl
end Go.Proofs.YtleamcmljcdapaaGreatDoor
namespace Go.Bk
open Go Go.Eng Go.RowKit
theorem eqT_step {α:Type} {l m:List α} {k:Nat} (hk:k < l.length) (hk2:k < m.length) {x y:α} (hx:l[k]=x) (hy:m[k]=y) (kI:l.take k=m.take k) (he:x=y):l.take (k + 1)=m.take (k + 1):=by
  rw [List.take_succ_eq_append_getElem hk,List.take_succ_eq_append_getElem hk2,kI,hx,hy,he]
theorem ne_at {α:Type} {l m:List α} {k:Nat} (hk:k < l.length) (hk2:k < m.length) {x y:α} (hx:l[k]=x) (hy:m[k]=y) (he:x ≠ y):l ≠ m:=by
  rintro rfl
  exact he (hx.symm.trans hy)
theorem ne_len {α:Type} {l m:List α} (h:l.length ≠ m.length):l ≠ m:=fun e=>h (e ▸ rfl)
theorem eq_end {α:Type} {l m:List α} (h:l.length=m.length) (kI:l.take l.length=m.take l.length):l=m:=by
  rw [List.take_length,h,List.take_length] at kI
  exact kI
end Go.Bk
namespace Go.Proofs.YtleamcmljcdapaaGreatDoor
open Go Go.Eng Go.Bk Go.RowKit

theorem rSpans_calls (s u:SA Sp) (W:World) (hS:s.ok Sp.cells 2 W) (hU:u.ok Sp.cells 2 W) (hl:s.l.length≤1000000) (hl2:u.l.length≤1000000):Calls Tryz.prog 108 #[s.v,u.v] W (Pure (.bool (decide (s.l=u.l))) W):=by
  refine calls_start Tryz.func108 rfl rfl ?_
  refine st ?_
  refine lv (Val.len_sl rfl sl_22) ?_
  refine lv (Val.len_sl rfl sl_22) ?_
  refine cn rfl ?_ ?_
  ·intro c0'
   refine st ?_
   refine RunC.ret ?_
   refine RunE.pass_ret ?_
   exact RunE.retP (.r1 rfl (.tmp rfl)) (by first | (rw [decide_eq_true (eq_end (by omega) kI)];done) | (rw [decide_eq_false (ne_at hk hk2 hx hy (by rintro rfl;simp_all))];done) | (rw [decide_eq_false (ne_len (by omega))];done))
  intro c0'
  refine st ?_
  refine RunC.loopK (s.l.length) (fun k q=>(5,.int .i64 (k:Int))::q) (fun _=>_) (fun _=>[]) (fun k=>s.l.take k=u.l.take k) (by simp) rfl (Sub.consE (t:=5) rfl rfl (Sub.cons (t:=0) rfl (Sub.cons (t:=1) rfl (Sub.nil _)))) .nil ?_
  intro k kN kI
  refine st ?_
  refine lv (Val.len_sl rfl sl_22) ?_
  refine cn rfl ?_ ?_
  ·intro c1'
   have hk:k < s.l.length:=by omega
   have hk2:k < u.l.length:=by omega
   obtain ⟨x,hx⟩:∃ x,s.l[k]=x:=⟨_,rfl⟩
   obtain ⟨y,hy⟩:∃ y,u.l[k]=y:=⟨_,rfl⟩
   refine st ?_
   refine RunC.draw 8 fol_ .nil ?_
   refine va 0 rfl (Val.pure rfl) rfl rfl rfl .nil rfl ?_
   refine va 1 rfl (Val.pure rfl) rfl rfl rfl .nil rfl ?_
   refine va 2 rfl (Val.indexAddr_slp rfl rfl sl_22 (by omega) (by omega) (Sl.ptrM hS hk)) rfl rfl rfl .nil rfl ?_
   refine va 3 rfl (Val.load_gen rfl (fun w hm=>Sl.loadX hS (by decide) hm (by simp) ty_38 hk hx)) rfl rfl rfl .nil rfl ?_
   refine va 4 rfl (Val.pure rfl) rfl rfl rfl .nil rfl ?_
   refine va 5 rfl (Val.pure rfl) rfl rfl rfl .nil rfl ?_
   refine va 6 rfl (Val.indexAddr_slp rfl rfl sl_22 (by omega) (by omega) (Sl.ptrM hU hk2)) rfl rfl rfl .nil rfl ?_
   refine va 7 rfl (Val.load_gen rfl (fun w hm=>Sl.loadX hU (by decide) hm (by simp) ty_38 hk2 hy)) rfl rfl rfl .nil rfl ?_
   refine RunA.toB (by kernel_rfl) ?_
   refine RunB.one (i:=8) (by kernel_rfl) ?_
   refine RunI.val rfl (Val.neq_pair rfl rfl pair_38) rfl rfl rfl (RunK.toB ?_)
   refine RunB.done (by kernel_rfl) ?_
   refine st ?_
   refine cn rfl ?_ ?_
   ·intro c2'
    refine st ?_
    refine RunC.ret ?_
    refine RunE.block_ret ?_
    refine RunE.pass_ret ?_
    refine RunE.pass_ret ?_
    refine RunE.block_ret ?_
    refine RunE.pass_ret ?_
    exact RunE.retP (.r1 rfl (.tmp rfl)) (by first | (rw [decide_eq_true (eq_end (by omega) kI)];done) | (rw [decide_eq_false (ne_at hk hk2 hx hy (by rintro rfl;simp_all))];done) | (rw [decide_eq_false (ne_len (by omega))];done))
   intro c2'
   refine st ?_
   refine lv (Val.add rfl rfl (IntWalk.i64_in _ ⟨by omega,by omega⟩)) ?_
   exact RunE.round (by omega) (eqT_step hk hk2 hx hy kI (by cases x;cases y;simp_all)) rfl (Sub.consE (t:=5) rfl rfl (Sub.cons (t:=0) rfl (Sub.cons (t:=1) rfl (Sub.nil _)))) .nil
  intro c1'
  obtain rfl:k=s.l.length:=by omega
  refine RunC.exit ?_
  refine RunE.pass_exit ?_
  refine RunE.pass_exit ?_
  refine RunE.block_here ?_
  refine st ?_
  refine RunC.ret ?_
  exact RunE.retP (.r1 rfl (.tmp rfl)) (by first | (rw [decide_eq_true (eq_end (by omega) kI)];done) | (rw [decide_eq_false (ne_at hk hk2 hx hy (by rintro rfl;simp_all))];done) | (rw [decide_eq_false (ne_len (by omega))];done))
theorem rInts_calls (s u:SA Int) (W:World) (hS:s.ok intC 1 W) (hU:u.ok intC 1 W) (hl:s.l.length≤1000000) (hl2:u.l.length≤1000000):Calls Tryz.prog 128 #[s.v,u.v] W (Pure (.bool (decide (s.l=u.l))) W):=by
  refine calls_start Tryz.func128 rfl rfl ?_
  refine st ?_
  refine lv (Val.len_sl rfl sl_27) ?_
  refine lv (Val.len_sl rfl sl_27) ?_
  refine cn rfl ?_ ?_
  ·intro c0'
   refine st ?_
   refine RunC.ret ?_
   refine RunE.pass_ret ?_
   exact RunE.retP (.r1 rfl (.tmp rfl)) (by first | (rw [decide_eq_true (eq_end (by omega) kI)];done) | (rw [decide_eq_false (ne_at hk hk2 hx hy (by rintro rfl;simp_all))];done) | (rw [decide_eq_false (ne_len (by omega))];done))
  intro c0'
  refine st ?_
  refine RunC.loopK (s.l.length) (fun k q=>(5,.int .i64 (k:Int))::q) (fun _=>_) (fun _=>[]) (fun k=>s.l.take k=u.l.take k) (by simp) rfl (Sub.consE (t:=5) rfl rfl (Sub.cons (t:=0) rfl (Sub.cons (t:=1) rfl (Sub.nil _)))) .nil ?_
  intro k kN kI
  refine st ?_
  refine lv (Val.len_sl rfl sl_27) ?_
  refine cn rfl ?_ ?_
  ·intro c1'
   have hk:k < s.l.length:=by omega
   have hk2:k < u.l.length:=by omega
   obtain ⟨x,hx⟩:∃ x,s.l[k]=x:=⟨_,rfl⟩
   obtain ⟨y,hy⟩:∃ y,u.l[k]=y:=⟨_,rfl⟩
   refine st ?_
   refine RunC.draw 8 fol_ .nil ?_
   refine va 0 rfl (Val.pure rfl) rfl rfl rfl .nil rfl ?_
   refine va 1 rfl (Val.pure rfl) rfl rfl rfl .nil rfl ?_
   refine va 2 rfl (Val.indexAddr_slp rfl rfl sl_27 (by omega) (by omega) (Sl.ptrM hS hk)) rfl rfl rfl .nil rfl ?_
   refine va 3 rfl (Val.load_gen rfl (fun w hm=>Sl.loadM1 hS (by decide) hm (by simp) ty_3 hk (v:=.int .i64 x) (by simp [intC,hx]))) rfl rfl rfl .nil rfl ?_
   refine va 4 rfl (Val.pure rfl) rfl rfl rfl .nil rfl ?_
   refine va 5 rfl (Val.pure rfl) rfl rfl rfl .nil rfl ?_
   refine va 6 rfl (Val.indexAddr_slp rfl rfl sl_27 (by omega) (by omega) (Sl.ptrM hU hk2)) rfl rfl rfl .nil rfl ?_
   refine va 7 rfl (Val.load_gen rfl (fun w hm=>Sl.loadM1 hU (by decide) hm (by simp) ty_3 hk2 (v:=.int .i64 y) (by simp [intC,hy]))) rfl rfl rfl .nil rfl ?_
   refine RunA.toB (by kernel_rfl) ?_
   refine RunB.one (i:=8) (by kernel_rfl) ?_
   refine RunI.val rfl (Val.pure rfl) rfl rfl rfl (RunK.toB ?_)
   refine RunB.done (by kernel_rfl) ?_
   refine st ?_
   refine cn rfl ?_ ?_
   ·intro c2'
    refine st ?_
    refine RunC.ret ?_
    refine RunE.block_ret ?_
    refine RunE.pass_ret ?_
    refine RunE.pass_ret ?_
    refine RunE.block_ret ?_
    refine RunE.pass_ret ?_
    exact RunE.retP (.r1 rfl (.tmp rfl)) (by first | (rw [decide_eq_true (eq_end (by omega) kI)];done) | (rw [decide_eq_false (ne_at hk hk2 hx hy (by rintro rfl;simp_all))];done) | (rw [decide_eq_false (ne_len (by omega))];done))
   intro c2'
   refine st ?_
   refine lv (Val.add rfl rfl (IntWalk.i64_in _ ⟨by omega,by omega⟩)) ?_
   exact RunE.round (by omega) (eqT_step hk hk2 hx hy kI (by simp_all)) rfl (Sub.consE (t:=5) rfl rfl (Sub.cons (t:=0) rfl (Sub.cons (t:=1) rfl (Sub.nil _)))) .nil
  intro c1'
  obtain rfl:k=s.l.length:=by omega
  refine RunC.exit ?_
  refine RunE.pass_exit ?_
  refine RunE.pass_exit ?_
  refine RunE.block_here ?_
  refine st ?_
  refine RunC.ret ?_
  exact RunE.retP (.r1 rfl (.tmp rfl)) (by first | (rw [decide_eq_true (eq_end (by omega) kI)];done) | (rw [decide_eq_false (ne_at hk hk2 hx hy (by rintro rfl;simp_all))];done) | (rw [decide_eq_false (ne_len (by omega))];done))
theorem rsameSpans_calls (s u:SA Sp) (W:World) (hS:s.ok Sp.cells 2 W) (hU:u.ok Sp.cells 2 W) (hl:s.l.length≤1000000) (hl2:u.l.length≤1000000):Calls Tryz.prog 48 #[s.v,u.v] W (Pure (.bool (decide (s.l=u.l))) W):=by
  refine calls_start Tryz.func48 rfl rfl ?_
  refine st ?_
  refine RunL.callP (isCall_func rfl ent_108) rfl rfl rfl (fun w hm=>(rSpans_calls s u w (hS.mono0 (by decide) hm) (hU.mono0 (by decide) hm) hl hl2)) ?_
  refine st ?_
  refine RunC.ret ?_
  exact RunE.retP (.r1 rfl (.tmp rfl)) (by first | rfl | simp)
theorem rsameInts_calls (s u:SA Int) (W:World) (hS:s.ok intC 1 W) (hU:u.ok intC 1 W) (hl:s.l.length≤1000000) (hl2:u.l.length≤1000000):Calls Tryz.prog 58 #[s.v,u.v] W (Pure (.bool (decide (s.l=u.l))) W):=by
  refine calls_start Tryz.func58 rfl rfl ?_
  refine st ?_
  refine RunL.callP (isCall_func rfl ent_128) rfl rfl rfl (fun w hm=>(rInts_calls s u w (hS.mono0 (by decide) hm) (hU.mono0 (by decide) hm) hl hl2)) ?_
  refine st ?_
  refine RunC.ret ?_
  exact RunE.retP (.r1 rfl (.tmp rfl)) (by first | rfl | simp)
end Go.Proofs.YtleamcmljcdapaaGreatDoor
namespace Go.Proofs.YtleamcmljcdapaaGreatDoor
open Go Go.Eng
theorem ent_48:Enters Tryz.prog 48:=enters_of Tryz.func48 (by kernel_rfl) rfl
theorem eqB_120:aggB Tryz.prog 120=true:=by kernel_rfl
theorem kl_120 (a0:Int) (a1:Int) (a2:Int) (a3:Int) (a4:Int) (c0:Int) (c1:Int) (c2:Int) (c3:Int) (c4:Int):eqF Tryz.prog 8 120 [.int .i64 a0,.int .i64 a1,.int .i64 a2,.int .i64 a3,.int .i64 a4] [.int .i64 c0,.int .i64 c1,.int .i64 c2,.int .i64 c3,.int .i64 c4]=some ((decide (a0=c0) && (decide (a1=c1) && true)) && ((decide (a2=c2) && (decide (a3=c3) && true)) && (decide (a4=c4) && true))):=by kernel_rfl
end Go.Proofs.YtleamcmljcdapaaGreatDoor
namespace Go.Bk
open Go Go.Eng Go.RowKit
deriving instance DecidableEq for Tr,Cb,Ry,Ps
theorem ps_same {p q:Ps} (h:p.cards=q.cards):decide (p=q)=(decide (p.less=q.less) && decide (p.loss=q.loss)):=by
  cases p;cases q;simp_all
theorem ps_ne {p q:Ps} (h:p.cards ≠ q.cards):decide (p=q)=false:=decide_eq_false fun e=>h (e ▸ rfl)
theorem tr_same {p q:Tr} (h:p.ways=q.ways):decide (p=q)=(decide (p.dawn=q.dawn) && (decide (p.fr=q.fr) && (decide (p.stay=q.stay) && decide (p.light=q.light)))):=by
  cases p;cases q;simp_all
theorem tr_ne {p q:Tr} (h:p.ways ≠ q.ways):decide (p=q)=false:=decide_eq_false fun e=>h (e ▸ rfl)
theorem sp_eq {s u:Sp}:decide (s=u)=(decide (s.lo=u.lo) && decide (s.hi=u.hi)):=by cases s;cases u;simp
theorem mapT_step {α β:Type} {f:α→β} {l m:List α} {k:Nat} (hk:k < l.length) (hk2:k < m.length) {x y:α} (hx:l[k]=x) (hy:m[k]=y) (kI:(l.map f).take k=(m.map f).take k) (he:f x=f y):(l.map f).take (k + 1)=(m.map f).take (k + 1) :=
  eqT_step (by simpa using hk) (by simpa using hk2) (by simp [hx]) (by simp [hy]) kI he
theorem mapT_ne {α β:Type} {f:α→β} {l m:List α} {k:Nat} (hk:k < l.length) (hk2:k < m.length) {x y:α} (hx:l[k]=x) (hy:m[k]=y) (he:f x ≠ f y):l.map f ≠ m.map f :=
  ne_at (k:=k) (by simpa using hk) (by simpa using hk2) (x:=f x) (y:=f y) (by simp [hx]) (by simp [hy]) he
end Go.Bk
namespace Go.Proofs.YtleamcmljcdapaaGreatDoor
open Go Go.Eng Go.Bk Go.RowKit

theorem rsamePrints_calls (p q:PsA) (W:World) (hP:p.cards.ok Pt.cells 5 W) (hQ:q.cards.ok Pt.cells 5 W) (hl:p.cards.l.length≤1000000) (hl2:q.cards.l.length≤1000000):Calls Tryz.prog 30 #[p.v,q.v] W (Pure (.bool (decide (p.pl=q.pl))) W):=by
  refine calls_start Tryz.func30 rfl rfl ?_
  refine st ?_
  refine RunL.new (New.box rfl) rfl rfl rfl (fun b2=>?_)
  refine RunL.new (New.box rfl) rfl rfl rfl (fun b3=>?_)
  refine st ?_
  refine lv (Val.fieldAddr rfl fld_40_0) ?_
  refine lv (Val.load_one rfl (.tail _ (.head _)) ty_36 rfl) ?_
  refine lv (Val.len_sl rfl sl_36) ?_
  refine lv (Val.fieldAddr rfl fld_40_0) ?_
  refine lv (Val.load_one rfl (.head _) ty_36 rfl) ?_
  refine lv (Val.len_sl rfl sl_36) ?_
  refine cn rfl ?_ ?_
  ·intro c0'
   refine st ?_
   refine RunC.ret ?_
   refine RunE.pass_ret ?_
   exact RunE.retP (.r1 rfl (.tmp rfl)) (by first | (rw [ps_same (show p.pl.cards=q.pl.cards from eq_end (show p.cards.l.length=q.cards.l.length by omega) kI),sp_eq,sp_eq];first | rfl | (simp_all [PsA.pl];done)) | (rw [ps_ne (show p.pl.cards ≠ q.pl.cards from ne_at hk hk2 hx hy (by rintro rfl;simp_all))];done) | (rw [ps_ne (show p.pl.cards ≠ q.pl.cards from ne_len (show p.cards.l.length ≠ q.cards.l.length by omega))];done))
  intro c0'
  refine st ?_
  refine RunC.loopK (p.cards.l.length) (fun k q=>(5,.int .i64 (k:Int))::q) (fun _=>_) (fun _=>[]) (fun k=>p.cards.l.take k=q.cards.l.take k) (by simp) rfl (Sub.consE (t:=5) rfl rfl (Sub.cons (t:=2) rfl (Sub.cons (t:=3) rfl (Sub.nil _)))) (.cons .here rfl (.cons .here rfl .nil)) ?_
  intro k kN kI
  refine st ?_
  refine lv (Val.fieldAddr rfl fld_40_0) ?_
  refine lv (Val.load_one rfl (.tail _ (.head _)) ty_36 rfl) ?_
  refine lv (Val.len_sl rfl sl_36) ?_
  refine cn rfl ?_ ?_
  ·intro c1'
   have hk:k < p.cards.l.length:=by omega
   have hk2:k < q.cards.l.length:=by omega
   obtain ⟨x,hx⟩:∃ x,p.cards.l[k]=x:=⟨_,rfl⟩
   obtain ⟨y,hy⟩:∃ y,q.cards.l[k]=y:=⟨_,rfl⟩
   refine st ?_
   refine RunC.draw 10 fol_ (.cons .here rfl (.cons .here rfl .nil)) ?_
   refine va 0 rfl (Val.fieldAddr rfl fld_40_0) rfl rfl rfl (.cons .here rfl (.cons .here rfl .nil)) rfl ?_
   refine va 1 rfl (Val.load_one rfl (.tail _ (.head _)) ty_36 rfl) rfl rfl rfl (.cons .here rfl (.cons .here rfl .nil)) rfl ?_
   refine va 2 rfl (Val.pure rfl) rfl rfl rfl (.cons .here rfl (.cons .here rfl .nil)) rfl ?_
   refine va 3 rfl (Val.indexAddr_slp rfl rfl sl_36 (by omega) (by omega) (Sl.ptrM hP hk)) rfl rfl rfl (.cons .here rfl (.cons .here rfl .nil)) rfl ?_
   refine va 4 rfl (Val.load_gen rfl (fun w hm=>Sl.loadX hP (by decide) hm (by simp) ty_120 hk hx)) rfl rfl rfl (.cons .here rfl (.cons .here rfl .nil)) rfl ?_
   refine va 5 rfl (Val.fieldAddr rfl fld_40_0) rfl rfl rfl (.cons .here rfl (.cons .here rfl .nil)) rfl ?_
   refine va 6 rfl (Val.load_one rfl (.head _) ty_36 rfl) rfl rfl rfl (.cons .here rfl (.cons .here rfl .nil)) rfl ?_
   refine va 7 rfl (Val.pure rfl) rfl rfl rfl (.cons .here rfl (.cons .here rfl .nil)) rfl ?_
   refine va 8 rfl (Val.indexAddr_slp rfl rfl sl_36 (by omega) (by omega) (Sl.ptrM hQ hk2)) rfl rfl rfl (.cons .here rfl (.cons .here rfl .nil)) rfl ?_
   refine va 9 rfl (Val.load_gen rfl (fun w hm=>Sl.loadX hQ (by decide) hm (by simp) ty_120 hk2 hy)) rfl rfl rfl (.cons .here rfl (.cons .here rfl .nil)) rfl ?_
   refine RunA.toB (by kernel_rfl) ?_
   refine RunB.one (i:=10) (by kernel_rfl) ?_
   refine RunI.val rfl (Val.neq_flat rfl rfl eqB_120 (kl_120 _ _ _ _ _ _ _ _ _ _ )) rfl rfl rfl (RunK.toB ?_)
   refine RunB.done (by kernel_rfl) ?_
   refine st ?_
   refine cn rfl ?_ ?_
   ·intro c2'
    refine st ?_
    refine RunC.ret ?_
    refine RunE.block_ret ?_
    refine RunE.pass_ret ?_
    refine RunE.pass_ret ?_
    refine RunE.block_ret ?_
    refine RunE.pass_ret ?_
    exact RunE.retP (.r1 rfl (.tmp rfl)) (by first | (rw [ps_same (show p.pl.cards=q.pl.cards from eq_end (show p.cards.l.length=q.cards.l.length by omega) kI),sp_eq,sp_eq];first | rfl | (simp_all [PsA.pl];done)) | (rw [ps_ne (show p.pl.cards ≠ q.pl.cards from ne_at hk hk2 hx hy (by rintro rfl;simp_all))];done) | (rw [ps_ne (show p.pl.cards ≠ q.pl.cards from ne_len (show p.cards.l.length ≠ q.cards.l.length by omega))];done))
   intro c2'
   refine st ?_
   refine lv (Val.add rfl rfl (IntWalk.i64_in _ ⟨by omega,by omega⟩)) ?_
   exact RunE.round (by omega) (eqT_step hk hk2 hx hy kI (by cases x with | mk a b c=>cases a;cases b;cases y with | mk a2 b2 c2=>cases a2;cases b2;simp_all)) rfl (Sub.consE (t:=5) rfl rfl (Sub.cons (t:=2) rfl (Sub.cons (t:=3) rfl (Sub.nil _)))) (.cons .here rfl (.cons .here rfl .nil))
  intro c1'
  obtain rfl:k=p.cards.l.length:=by omega
  refine RunC.exit ?_
  refine RunE.pass_exit ?_
  refine RunE.pass_exit ?_
  refine RunE.block_here ?_
  refine st ?_
  refine lv (Val.fieldAddr rfl fld_40_1) ?_
  refine lv (Val.load_agg rfl (.tail _ (.head _)) ty_38 rfl) ?_
  refine lv (Val.fieldAddr rfl fld_40_1) ?_
  refine lv (Val.load_agg rfl (.head _) ty_38 rfl) ?_
  refine lv (Val.eql_pair rfl rfl pair_38) ?_
  refine RunL.andPart (dj:=36) (dp:=42) 6 rfl (fun g36=>by
    have g36':=g36
    try simp only [nH] at g36'
    refine lv (Val.fieldAddr rfl fld_40_2) ?_
    refine lv (Val.load_agg rfl (.tail _ (.head _)) ty_38 rfl) ?_
    refine lv (Val.fieldAddr rfl fld_40_2) ?_
    refine lv (Val.load_agg rfl (.head _) ty_38 rfl) ?_
    refine RunL.val (Val.eql_pair rfl rfl pair_38) rfl rfl rfl ?_
    refine sv ?_
    exact RunL.segEnd (Sub.cons rfl (Sub.skip rfl (Sub.skip rfl (Sub.skip rfl (Sub.skip rfl (Sub.skip rfl (Sub.skip rfl (Sub.same rfl (by rw [g36]) (Sub.refl _))))))))) (List.Sublist.refl _)
  ) (fun g36=>by
    have g36':=g36
    try simp only [nH] at g36'
    iterate 5 refine RunL.no rfl rfl rfl ?_
    refine sv ?_
    exact RunL.segEnd (Sub.cons rfl (Sub.skip rfl (Sub.skip rfl (Sub.skip rfl (Sub.skip rfl (Sub.skip rfl (Sub.skip rfl (Sub.same rfl (by rw [g36]) (Sub.refl _))))))))) (List.Sublist.refl _)
  ) ?_
  refine st ?_
  refine RunC.ret ?_
  exact RunE.retP (.r1 rfl (.tmp rfl)) (by first | (rw [ps_same (show p.pl.cards=q.pl.cards from eq_end (show p.cards.l.length=q.cards.l.length by omega) kI),sp_eq,sp_eq];first | rfl | (simp_all [PsA.pl];done)) | (rw [ps_ne (show p.pl.cards ≠ q.pl.cards from ne_at hk hk2 hx hy (by rintro rfl;simp_all))];done) | (rw [ps_ne (show p.pl.cards ≠ q.pl.cards from ne_len (show p.cards.l.length ≠ q.cards.l.length by omega))];done))
theorem rsameTour_calls (t u:TrA) (hs:TrSm t) (hs2:TrSm u) (W:World) (hT:TrOk W t) (hU:TrOk W u):Calls Tryz.prog 14 #[t.v,u.v] W (Pure (.bool (decide (t.pl=u.pl))) W):=by
  obtain ⟨s1,s2,s3,s4,s5⟩:=id hs
  obtain ⟨u1,u2,u3,u4,u5⟩:=id hs2
  refine calls_start Tryz.func14 rfl rfl ?_
  refine st ?_
  refine RunL.new (New.box rfl) rfl rfl rfl (fun b2=>?_)
  refine RunL.new (New.box rfl) rfl rfl rfl (fun b3=>?_)
  refine st ?_
  refine lv (Val.fieldAddr rfl fld_25_2) ?_
  refine lv (Val.load_one rfl (.tail _ (.head _)) ty_23 rfl) ?_
  refine lv (Val.len_sl rfl sl_23) ?_
  refine lv (Val.fieldAddr rfl fld_25_2) ?_
  refine lv (Val.load_one rfl (.head _) ty_23 rfl) ?_
  refine lv (Val.len_sl rfl sl_23) ?_
  refine cn rfl ?_ ?_
  ·intro c0'
   refine st ?_
   refine RunC.ret ?_
   refine RunE.pass_ret ?_
   exact RunE.retP (.r1 rfl (.tmp rfl)) (by first | (rw [tr_ne (show t.pl.ways ≠ u.pl.ways from mapT_ne hk hk2 hx hy (by simp_all))];done) | (rw [tr_ne (show t.pl.ways ≠ u.pl.ways from ne_len (show (t.ways.l.map (·.l)).length ≠ (u.ways.l.map (·.l)).length by simp only [List.length_map];omega))];done) | (rw [tr_same (show t.pl.ways=u.pl.ways from eq_end (show (t.ways.l.map (·.l)).length=(u.ways.l.map (·.l)).length by simp only [List.length_map];omega) (by show List.take (t.ways.l.map (·.l)).length (t.ways.l.map (·.l))=List.take (t.ways.l.map (·.l)).length (u.ways.l.map (·.l));rw [List.length_map];exact kI))];exact congrArg Value.bool (by rw [Bool.and_assoc,Bool.and_assoc];rfl)))
  intro c0'
  refine st ?_
  refine RunC.loopK (t.ways.l.length) (fun k q=>(5,.int .i64 (k:Int))::q) (fun _=>_) (fun _=>[]) (fun k=>(t.ways.l.map (·.l)).take k=(u.ways.l.map (·.l)).take k) (by simp) rfl (Sub.consE (t:=5) rfl rfl (Sub.cons (t:=2) rfl (Sub.cons (t:=3) rfl (Sub.nil _)))) (.cons .here rfl (.cons .here rfl .nil)) ?_
  intro k kN kI
  refine st ?_
  refine lv (Val.fieldAddr rfl fld_25_2) ?_
  refine lv (Val.load_one rfl (.tail _ (.head _)) ty_23 rfl) ?_
  refine lv (Val.len_sl rfl sl_23) ?_
  refine cn rfl ?_ ?_
  ·intro c1'
   have hk:k < t.ways.l.length:=by omega
   have hk2:k < u.ways.l.length:=by omega
   obtain ⟨x,hx⟩:∃ x,t.ways.l[k]=x:=⟨_,rfl⟩
   obtain ⟨y,hy⟩:∃ y,u.ways.l[k]=y:=⟨_,rfl⟩
   have hxm:x∈t.ways.l:=hx ▸ List.getElem_mem hk
   have hym:y∈u.ways.l:=hy ▸ List.getElem_mem hk2
   refine st ?_
   refine RunC.draw 10 fol_ (.cons .here rfl (.cons .here rfl .nil)) ?_
   refine va 0 rfl (Val.fieldAddr rfl fld_25_2) rfl rfl rfl (.cons .here rfl (.cons .here rfl .nil)) rfl ?_
   refine va 1 rfl (Val.load_one rfl (.tail _ (.head _)) ty_23 rfl) rfl rfl rfl (.cons .here rfl (.cons .here rfl .nil)) rfl ?_
   refine va 2 rfl (Val.pure rfl) rfl rfl rfl (.cons .here rfl (.cons .here rfl .nil)) rfl ?_
   refine va 3 rfl (Val.indexAddr_slp rfl rfl sl_23 (by omega) (by omega) (Sl.ptrM hT.ways hk)) rfl rfl rfl (.cons .here rfl (.cons .here rfl .nil)) rfl ?_
   refine va 4 rfl (Val.load_gen rfl (fun w hm=>Sl.loadM1 hT.ways (by decide) hm (by simp) ty_22 hk (v:=x.v) (by simp [SA.cell,hx]))) rfl rfl rfl (.cons .here rfl (.cons .here rfl .nil)) rfl ?_
   refine va 5 rfl (Val.fieldAddr rfl fld_25_2) rfl rfl rfl (.cons .here rfl (.cons .here rfl .nil)) rfl ?_
   refine va 6 rfl (Val.load_one rfl (.head _) ty_23 rfl) rfl rfl rfl (.cons .here rfl (.cons .here rfl .nil)) rfl ?_
   refine va 7 rfl (Val.pure rfl) rfl rfl rfl (.cons .here rfl (.cons .here rfl .nil)) rfl ?_
   refine va 8 rfl (Val.indexAddr_slp rfl rfl sl_23 (by omega) (by omega) (Sl.ptrM hU.ways hk2)) rfl rfl rfl (.cons .here rfl (.cons .here rfl .nil)) rfl ?_
   refine va 9 rfl (Val.load_gen rfl (fun w hm=>Sl.loadM1 hU.ways (by decide) hm (by simp) ty_22 hk2 (v:=y.v) (by simp [SA.cell,hy]))) rfl rfl rfl (.cons .here rfl (.cons .here rfl .nil)) rfl ?_
   refine RunA.toB (by kernel_rfl) ?_
   refine RunB.one (i:=10) (by kernel_rfl) ?_
   refine RunI.callP rfl (isCall_func rfl ent_48) rfl rfl rfl (fun w hm=>(rsameSpans_calls x y w ((hT.rows x hxm).mono0 (by decide) hm) ((hU.rows y hym).mono0 (by decide) hm) (by have:=s3 x hxm;omega) (by have:=u3 y hym;omega))) (RunK.toB ?_)
   refine RunB.one (i:=11) (by kernel_rfl) ?_
   refine RunI.val rfl (Val.pure rfl) rfl rfl rfl (RunK.toB ?_)
   refine RunB.done (by kernel_rfl) ?_
   refine st ?_
   refine cn rfl ?_ ?_
   ·intro c2'
    refine st ?_
    refine RunC.ret ?_
    refine RunE.block_ret ?_
    refine RunE.pass_ret ?_
    refine RunE.pass_ret ?_
    refine RunE.block_ret ?_
    refine RunE.pass_ret ?_
    exact RunE.retP (.r1 rfl (.tmp rfl)) (by first | (rw [tr_ne (show t.pl.ways ≠ u.pl.ways from mapT_ne hk hk2 hx hy (by simp_all))];done) | (rw [tr_ne (show t.pl.ways ≠ u.pl.ways from ne_len (show (t.ways.l.map (·.l)).length ≠ (u.ways.l.map (·.l)).length by simp only [List.length_map];omega))];done) | (rw [tr_same (show t.pl.ways=u.pl.ways from eq_end (show (t.ways.l.map (·.l)).length=(u.ways.l.map (·.l)).length by simp only [List.length_map];omega) (by show List.take (t.ways.l.map (·.l)).length (t.ways.l.map (·.l))=List.take (t.ways.l.map (·.l)).length (u.ways.l.map (·.l));rw [List.length_map];exact kI))];exact congrArg Value.bool (by rw [Bool.and_assoc,Bool.and_assoc];rfl)))
   intro c2'
   refine st ?_
   refine lv (Val.add rfl rfl (IntWalk.i64_in _ ⟨by omega,by omega⟩)) ?_
   exact RunE.round (by omega) (mapT_step hk hk2 hx hy kI (by simp_all)) rfl (Sub.consE (t:=5) rfl rfl (Sub.cons (t:=2) rfl (Sub.cons (t:=3) rfl (Sub.nil _)))) (.cons .here rfl (.cons .here rfl .nil))
  intro c1'
  obtain rfl:k=t.ways.l.length:=by omega
  refine RunC.exit ?_
  refine RunE.pass_exit ?_
  refine RunE.pass_exit ?_
  refine RunE.block_here ?_
  refine st ?_
  refine lv (Val.fieldAddr rfl fld_25_0) ?_
  refine lv (Val.load_one rfl (.tail _ (.head _)) ty_3 rfl) ?_
  refine lv (Val.fieldAddr rfl fld_25_0) ?_
  refine lv (Val.load_one rfl (.head _) ty_3 rfl) ?_
  refine RunL.andPart (dj:=37) (dp:=43) 6 rfl (fun g37=>by
    have g37':=g37
    try simp only [nH] at g37'
    refine lv (Val.fieldAddr rfl fld_25_1) ?_
    refine lv (Val.load_one rfl (.tail _ (.head _)) ty_22 rfl) ?_
    refine lv (Val.fieldAddr rfl fld_25_1) ?_
    refine lv (Val.load_one rfl (.head _) ty_22 rfl) ?_
    refine RunL.callP (isCall_func rfl ent_48) rfl rfl rfl (fun w hm=>(rsameSpans_calls t.fr u.fr w (hT.fr.mono0 (by decide) hm) (hU.fr.mono0 (by decide) hm) (by omega) (by omega))) ?_
    refine sv ?_
    exact RunL.segEnd (Sub.cons rfl (Sub.skip rfl (Sub.skip rfl (Sub.skip rfl (Sub.skip rfl (Sub.skip rfl (Sub.skip rfl (Sub.same rfl (by rw [g37]) (Sub.refl _))))))))) (List.Sublist.refl _)
  ) (fun g37=>by
    have g37':=g37
    try simp only [nH] at g37'
    iterate 5 refine RunL.no rfl rfl rfl ?_
    refine sv ?_
    exact RunL.segEnd (Sub.cons rfl (Sub.skip rfl (Sub.skip rfl (Sub.skip rfl (Sub.skip rfl (Sub.skip rfl (Sub.skip rfl (Sub.same rfl (by rw [g37]) (Sub.refl _))))))))) (List.Sublist.refl _)
  ) ?_
  refine st ?_
  refine RunL.andPart (dj:=44) (dp:=50) 6 rfl (fun g44=>by
    have g44':=g44
    try simp only [nH] at g44'
    refine lv (Val.fieldAddr rfl fld_25_3) ?_
    refine lv (Val.load_one rfl (.tail _ (.head _)) ty_22 rfl) ?_
    refine lv (Val.fieldAddr rfl fld_25_3) ?_
    refine lv (Val.load_one rfl (.head _) ty_22 rfl) ?_
    refine RunL.callP (isCall_func rfl ent_48) rfl rfl rfl (fun w hm=>(rsameSpans_calls t.stay u.stay w (hT.stay.mono0 (by decide) hm) (hU.stay.mono0 (by decide) hm) (by omega) (by omega))) ?_
    refine sv ?_
    exact RunL.segEnd (Sub.cons rfl (Sub.skip rfl (Sub.skip rfl (Sub.skip rfl (Sub.skip rfl (Sub.skip rfl (Sub.skip rfl (Sub.same rfl (by rw [g44]) (Sub.refl _))))))))) (List.Sublist.refl _)
  ) (fun g44=>by
    have g44':=g44
    try simp only [nH] at g44'
    iterate 5 refine RunL.no rfl rfl rfl ?_
    refine sv ?_
    exact RunL.segEnd (Sub.cons rfl (Sub.skip rfl (Sub.skip rfl (Sub.skip rfl (Sub.skip rfl (Sub.skip rfl (Sub.skip rfl (Sub.same rfl (by rw [g44]) (Sub.refl _))))))))) (List.Sublist.refl _)
  ) ?_
  refine st ?_
  refine RunL.andPart (dj:=51) (dp:=57) 6 rfl (fun g51=>by
    have g51':=g51
    try simp only [nH] at g51'
    refine lv (Val.fieldAddr rfl fld_25_4) ?_
    refine lv (Val.load_one rfl (.tail _ (.head _)) ty_22 rfl) ?_
    refine lv (Val.fieldAddr rfl fld_25_4) ?_
    refine lv (Val.load_one rfl (.head _) ty_22 rfl) ?_
    refine RunL.callP (isCall_func rfl ent_48) rfl rfl rfl (fun w hm=>(rsameSpans_calls t.light u.light w (hT.light.mono0 (by decide) hm) (hU.light.mono0 (by decide) hm) (by omega) (by omega))) ?_
    refine sv ?_
    exact RunL.segEnd (Sub.cons rfl (Sub.skip rfl (Sub.skip rfl (Sub.skip rfl (Sub.skip rfl (Sub.skip rfl (Sub.skip rfl (Sub.same rfl (by rw [g51]) (Sub.refl _))))))))) (List.Sublist.refl _)
  ) (fun g51=>by
    have g51':=g51
    try simp only [nH] at g51'
    iterate 5 refine RunL.no rfl rfl rfl ?_
    refine sv ?_
    exact RunL.segEnd (Sub.cons rfl (Sub.skip rfl (Sub.skip rfl (Sub.skip rfl (Sub.skip rfl (Sub.skip rfl (Sub.skip rfl (Sub.same rfl (by rw [g51]) (Sub.refl _))))))))) (List.Sublist.refl _)
  ) ?_
  refine st ?_
  refine RunC.ret ?_
  exact RunE.retP (.r1 rfl (.tmp rfl)) (by first | (rw [tr_ne (show t.pl.ways ≠ u.pl.ways from mapT_ne hk hk2 hx hy (by simp_all))];done) | (rw [tr_ne (show t.pl.ways ≠ u.pl.ways from ne_len (show (t.ways.l.map (·.l)).length ≠ (u.ways.l.map (·.l)).length by simp only [List.length_map];omega))];done) | (rw [tr_same (show t.pl.ways=u.pl.ways from eq_end (show (t.ways.l.map (·.l)).length=(u.ways.l.map (·.l)).length by simp only [List.length_map];omega) (by show List.take (t.ways.l.map (·.l)).length (t.ways.l.map (·.l))=List.take (t.ways.l.map (·.l)).length (u.ways.l.map (·.l));rw [List.length_map];exact kI))];exact congrArg Value.bool (by rw [Bool.and_assoc,Bool.and_assoc];rfl)))
end Go.Proofs.YtleamcmljcdapaaGreatDoor
namespace Go.Proofs.YtleamcmljcdapaaGreatDoor
open Go Go.Eng
theorem ent_58:Enters Tryz.prog 58:=enters_of Tryz.func58 (by kernel_rfl) rfl
theorem eqB_109:aggB Tryz.prog 109=true:=by kernel_rfl
theorem eqB_111:aggB Tryz.prog 111=true:=by kernel_rfl
theorem eqB_98:aggB Tryz.prog 98=true:=by kernel_rfl
theorem kl_109 (a0:Int) (a1:Int) (a2:Int) (c0:Int) (c1:Int) (c2:Int):eqF Tryz.prog 8 109 [.int .i64 a0,.int .i64 a1,.int .i64 a2] [.int .i64 c0,.int .i64 c1,.int .i64 c2]=some (decide (a0=c0) && (decide (a1=c1) && (decide (a2=c2) && true))):=by kernel_rfl
theorem kl_111 (a0:Int) (a1:Int) (a2:Int) (a3:Int) (c0:Int) (c1:Int) (c2:Int) (c3:Int):eqF Tryz.prog 8 111 [.int .i64 a0,.int .i64 a1,.int .i64 a2,.int .i64 a3] [.int .i64 c0,.int .i64 c1,.int .i64 c2,.int .i64 c3]=some (decide (a0=c0) && (decide (a1=c1) && (decide (a2=c2) && (decide (a3=c3) && true)))):=by kernel_rfl
theorem kl_98 (a0:Int) (a1:Int) (a2:Int) (a3:Int) (c0:Int) (c1:Int) (c2:Int) (c3:Int):eqF Tryz.prog 8 98 [.int .i64 a0,.int .i64 a1,.int .i64 a2,.int .i64 a3] [.int .i64 c0,.int .i64 c1,.int .i64 c2,.int .i64 c3]=some (decide (a0=c0) && (decide (a1=c1) && (decide (a2=c2) && (decide (a3=c3) && true)))):=by kernel_rfl
end Go.Proofs.YtleamcmljcdapaaGreatDoor
namespace Go.Bk
open Go Go.Eng Go.RowKit
theorem cb_same {p q:Cb} (h:p.loans=q.loans):decide (p=q)=(decide (p.slots=q.slots) && (decide (p.wrong=q.wrong) && decide (p.homes=q.homes))):=by
  cases p;cases q;simp_all
  exact Bool.eq_iff_iff.2 (by simp;intro _;exact and_comm)
theorem cb_ne {p q:Cb} (h:p.loans ≠ q.loans):decide (p=q)=false:=decide_eq_false fun e=>h (e ▸ rfl)
theorem ry_same {p q:Ry} (h1:p.terms=q.terms) (h2:p.shares=q.shares) (h3:p.reports=q.reports):decide (p=q)=(decide (p.prices=q.prices) && decide (p.paid=q.paid)):=by
  cases p;cases q;simp_all
theorem ry_ne1 {p q:Ry} (h:p.terms ≠ q.terms):decide (p=q)=false:=decide_eq_false fun e=>h (e ▸ rfl)
theorem ry_ne2 {p q:Ry} (h:p.shares ≠ q.shares):decide (p=q)=false:=decide_eq_false fun e=>h (e ▸ rfl)
theorem ry_ne3 {p q:Ry} (h:p.reports ≠ q.reports):decide (p=q)=false:=decide_eq_false fun e=>h (e ▸ rfl)
end Go.Bk
namespace Go.Proofs.YtleamcmljcdapaaGreatDoor
open Go Go.Eng Go.Bk Go.RowKit

theorem rsameCabinet_calls (c d:CbA) (hs:CbS c) (hs2:CbS d) (W:World) (hC:CbOk W c) (hD:CbOk W d):Calls Tryz.prog 23 #[c.v,d.v] W (Pure (.bool (decide (c.pl=d.pl))) W):=by
  have s1:=hs.homes
  have s2:=hs.loans
  have u1:=hs2.homes
  have u2:=hs2.loans
  refine calls_start Tryz.func23 rfl rfl ?_
  refine st ?_
  refine RunL.new (New.box rfl) rfl rfl rfl (fun b2=>?_)
  refine RunL.new (New.box rfl) rfl rfl rfl (fun b3=>?_)
  refine st ?_
  refine lv (Val.fieldAddr rfl fld_30_3) ?_
  refine lv (Val.load_one rfl (.tail _ (.head _)) ty_28 rfl) ?_
  refine lv (Val.len_sl rfl sl_28) ?_
  refine lv (Val.fieldAddr rfl fld_30_3) ?_
  refine lv (Val.load_one rfl (.head _) ty_28 rfl) ?_
  refine lv (Val.len_sl rfl sl_28) ?_
  refine cn rfl ?_ ?_
  ·intro c0'
   refine st ?_
   refine RunC.ret ?_
   refine RunE.pass_ret ?_
   exact RunE.retP (.r1 rfl (.tmp rfl)) (by first | (rw [cb_ne (show c.pl.loans ≠ d.pl.loans from ne_at hk hk2 hx hy (by rintro rfl;simp_all))];done) | (rw [cb_ne (show c.pl.loans ≠ d.pl.loans from ne_len (show c.loans.l.length ≠ d.loans.l.length by omega))];done) | (rw [cb_same (show c.pl.loans=d.pl.loans from eq_end (show c.loans.l.length=d.loans.l.length by omega) kI)];exact congrArg Value.bool (by rw [Bool.and_assoc];rfl)))
  intro c0'
  refine st ?_
  refine RunC.loopK (c.loans.l.length) (fun k q=>(5,.int .i64 (k:Int))::q) (fun _=>_) (fun _=>[]) (fun k=>c.loans.l.take k=d.loans.l.take k) (by simp) rfl (Sub.consE (t:=5) rfl rfl (Sub.cons (t:=2) rfl (Sub.cons (t:=3) rfl (Sub.nil _)))) (.cons .here rfl (.cons .here rfl .nil)) ?_
  intro k kN kI
  refine st ?_
  refine lv (Val.fieldAddr rfl fld_30_3) ?_
  refine lv (Val.load_one rfl (.tail _ (.head _)) ty_28 rfl) ?_
  refine lv (Val.len_sl rfl sl_28) ?_
  refine cn rfl ?_ ?_
  ·intro c1'
   have hk:k < c.loans.l.length:=by omega
   have hk2:k < d.loans.l.length:=by omega
   obtain ⟨x,hx⟩:∃ x,c.loans.l[k]=x:=⟨_,rfl⟩
   obtain ⟨y,hy⟩:∃ y,d.loans.l[k]=y:=⟨_,rfl⟩
   refine st ?_
   refine RunC.draw 10 fol_ (.cons .here rfl (.cons .here rfl .nil)) ?_
   refine va 0 rfl (Val.fieldAddr rfl fld_30_3) rfl rfl rfl (.cons .here rfl (.cons .here rfl .nil)) rfl ?_
   refine va 1 rfl (Val.load_one rfl (.tail _ (.head _)) ty_28 rfl) rfl rfl rfl (.cons .here rfl (.cons .here rfl .nil)) rfl ?_
   refine va 2 rfl (Val.pure rfl) rfl rfl rfl (.cons .here rfl (.cons .here rfl .nil)) rfl ?_
   refine va 3 rfl (Val.indexAddr_slp rfl rfl sl_28 (by omega) (by omega) (Sl.ptrM hC.loans hk)) rfl rfl rfl (.cons .here rfl (.cons .here rfl .nil)) rfl ?_
   refine va 4 rfl (Val.load_gen rfl (fun w hm=>Sl.loadX hC.loans (by decide) hm (by simp) ty_98 hk hx)) rfl rfl rfl (.cons .here rfl (.cons .here rfl .nil)) rfl ?_
   refine va 5 rfl (Val.fieldAddr rfl fld_30_3) rfl rfl rfl (.cons .here rfl (.cons .here rfl .nil)) rfl ?_
   refine va 6 rfl (Val.load_one rfl (.head _) ty_28 rfl) rfl rfl rfl (.cons .here rfl (.cons .here rfl .nil)) rfl ?_
   refine va 7 rfl (Val.pure rfl) rfl rfl rfl (.cons .here rfl (.cons .here rfl .nil)) rfl ?_
   refine va 8 rfl (Val.indexAddr_slp rfl rfl sl_28 (by omega) (by omega) (Sl.ptrM hD.loans hk2)) rfl rfl rfl (.cons .here rfl (.cons .here rfl .nil)) rfl ?_
   refine va 9 rfl (Val.load_gen rfl (fun w hm=>Sl.loadX hD.loans (by decide) hm (by simp) ty_98 hk2 hy)) rfl rfl rfl (.cons .here rfl (.cons .here rfl .nil)) rfl ?_
   refine RunA.toB (by kernel_rfl) ?_
   refine RunB.one (i:=10) (by kernel_rfl) ?_
   refine RunI.val rfl (Val.neq_flat rfl rfl eqB_98 (kl_98 _ _ _ _ _ _ _ _ )) rfl rfl rfl (RunK.toB ?_)
   refine RunB.done (by kernel_rfl) ?_
   refine st ?_
   refine cn rfl ?_ ?_
   ·intro c2'
    refine st ?_
    refine RunC.ret ?_
    refine RunE.block_ret ?_
    refine RunE.pass_ret ?_
    refine RunE.pass_ret ?_
    refine RunE.block_ret ?_
    refine RunE.pass_ret ?_
    exact RunE.retP (.r1 rfl (.tmp rfl)) (by first | (rw [cb_ne (show c.pl.loans ≠ d.pl.loans from ne_at hk hk2 hx hy (by rintro rfl;simp_all))];done) | (rw [cb_ne (show c.pl.loans ≠ d.pl.loans from ne_len (show c.loans.l.length ≠ d.loans.l.length by omega))];done) | (rw [cb_same (show c.pl.loans=d.pl.loans from eq_end (show c.loans.l.length=d.loans.l.length by omega) kI)];exact congrArg Value.bool (by rw [Bool.and_assoc];rfl)))
   intro c2'
   refine st ?_
   refine lv (Val.add rfl rfl (IntWalk.i64_in _ ⟨by omega,by omega⟩)) ?_
   exact RunE.round (by omega) (eqT_step hk hk2 hx hy kI (by cases x;cases y;simp_all)) rfl (Sub.consE (t:=5) rfl rfl (Sub.cons (t:=2) rfl (Sub.cons (t:=3) rfl (Sub.nil _)))) (.cons .here rfl (.cons .here rfl .nil))
  intro c1'
  obtain rfl:k=c.loans.l.length:=by omega
  refine RunC.exit ?_
  refine RunE.pass_exit ?_
  refine RunE.pass_exit ?_
  refine RunE.block_here ?_
  refine st ?_
  refine lv (Val.fieldAddr rfl fld_30_0) ?_
  refine lv (Val.load_one rfl (.tail _ (.head _)) ty_3 rfl) ?_
  refine lv (Val.fieldAddr rfl fld_30_0) ?_
  refine lv (Val.load_one rfl (.head _) ty_3 rfl) ?_
  refine RunL.andPart (dj:=36) (dp:=42) 6 rfl (fun g36=>by
    have g36':=g36
    try simp only [nH] at g36'
    refine lv (Val.fieldAddr rfl fld_30_2) ?_
    refine lv (Val.load_one rfl (.tail _ (.head _)) ty_3 rfl) ?_
    refine lv (Val.fieldAddr rfl fld_30_2) ?_
    refine RunL.val (Val.load_one rfl (.head _) ty_3 rfl) rfl rfl rfl ?_
    refine sv ?_
    exact RunL.segEnd (Sub.cons rfl (Sub.skip rfl (Sub.skip rfl (Sub.skip rfl (Sub.skip rfl (Sub.skip rfl (Sub.skip rfl (Sub.same rfl (by rw [g36]) (Sub.refl _))))))))) (List.Sublist.refl _)
  ) (fun g36=>by
    have g36':=g36
    try simp only [nH] at g36'
    iterate 5 refine RunL.no rfl rfl rfl ?_
    refine sv ?_
    exact RunL.segEnd (Sub.cons rfl (Sub.skip rfl (Sub.skip rfl (Sub.skip rfl (Sub.skip rfl (Sub.skip rfl (Sub.skip rfl (Sub.same rfl (by rw [g36]) (Sub.refl _))))))))) (List.Sublist.refl _)
  ) ?_
  refine st ?_
  refine RunL.andPart (dj:=43) (dp:=49) 6 rfl (fun g43=>by
    have g43':=g43
    try simp only [nH] at g43'
    refine lv (Val.fieldAddr rfl fld_30_1) ?_
    refine lv (Val.load_one rfl (.tail _ (.head _)) ty_27 rfl) ?_
    refine lv (Val.fieldAddr rfl fld_30_1) ?_
    refine lv (Val.load_one rfl (.head _) ty_27 rfl) ?_
    refine RunL.callP (isCall_func rfl ent_58) rfl rfl rfl (fun w hm=>(rsameInts_calls c.homes d.homes w (hC.homes.mono0 (by decide) hm) (hD.homes.mono0 (by decide) hm) (by omega) (by omega))) ?_
    refine sv ?_
    exact RunL.segEnd (Sub.cons rfl (Sub.skip rfl (Sub.skip rfl (Sub.skip rfl (Sub.skip rfl (Sub.skip rfl (Sub.skip rfl (Sub.same rfl (by rw [g43]) (Sub.refl _))))))))) (List.Sublist.refl _)
  ) (fun g43=>by
    have g43':=g43
    try simp only [nH] at g43'
    iterate 5 refine RunL.no rfl rfl rfl ?_
    refine sv ?_
    exact RunL.segEnd (Sub.cons rfl (Sub.skip rfl (Sub.skip rfl (Sub.skip rfl (Sub.skip rfl (Sub.skip rfl (Sub.skip rfl (Sub.same rfl (by rw [g43]) (Sub.refl _))))))))) (List.Sublist.refl _)
  ) ?_
  refine st ?_
  refine RunC.ret ?_
  exact RunE.retP (.r1 rfl (.tmp rfl)) (by first | (rw [cb_ne (show c.pl.loans ≠ d.pl.loans from ne_at hk hk2 hx hy (by rintro rfl;simp_all))];done) | (rw [cb_ne (show c.pl.loans ≠ d.pl.loans from ne_len (show c.loans.l.length ≠ d.loans.l.length by omega))];done) | (rw [cb_same (show c.pl.loans=d.pl.loans from eq_end (show c.loans.l.length=d.loans.l.length by omega) kI)];exact congrArg Value.bool (by rw [Bool.and_assoc];rfl)))
theorem rsameRoyal_calls (r q:RyA) (hs:RySm r) (hs2:RySm q) (W:World) (hR:RyOk W r) (hQ:RyOk W q):Calls Tryz.prog 24 #[r.v,q.v] W (Pure (.bool (decide (r.pl=q.pl))) W):=by
  obtain ⟨s1,s2,s3,s4,s5,s6⟩:=id hs
  obtain ⟨u1,u2,u3,u4,u5,u6⟩:=id hs2
  refine calls_start Tryz.func24 rfl rfl ?_
  refine st ?_
  refine RunL.new (New.box rfl) rfl rfl rfl (fun b2=>?_)
  refine RunL.new (New.box rfl) rfl rfl rfl (fun b3=>?_)
  refine st ?_
  refine lv (Val.fieldAddr rfl fld_35_0) ?_
  refine lv (Val.load_one rfl (.tail _ (.head _)) ty_31 rfl) ?_
  refine lv (Val.len_sl rfl sl_31) ?_
  refine lv (Val.fieldAddr rfl fld_35_0) ?_
  refine lv (Val.load_one rfl (.head _) ty_31 rfl) ?_
  refine lv (Val.len_sl rfl sl_31) ?_
  refine RunL.orPart (dj:=15) (dp:=23) 8 rfl (fun g15=>by
    have g15':=g15
    try simp only [nH] at g15'
    refine lv (Val.fieldAddr rfl fld_35_2) ?_
    refine lv (Val.load_one rfl (.tail _ (.head _)) ty_32 rfl) ?_
    refine lv (Val.len_sl rfl sl_32) ?_
    refine lv (Val.fieldAddr rfl fld_35_2) ?_
    refine lv (Val.load_one rfl (.head _) ty_32 rfl) ?_
    refine RunL.val (Val.len_sl rfl sl_32) rfl rfl rfl ?_
    refine sv ?_
    exact RunL.segEnd (Sub.cons rfl (Sub.skip rfl (Sub.skip rfl (Sub.skip rfl (Sub.skip rfl (Sub.skip rfl (Sub.skip rfl (Sub.skip rfl (Sub.skip rfl (Sub.same rfl (by rw [g15]) (Sub.refl _))))))))))) (List.Sublist.refl _)
  ) (fun g15=>by
    have g15':=g15
    try simp only [nH] at g15'
    iterate 7 refine RunL.no rfl rfl rfl ?_
    refine sv ?_
    exact RunL.segEnd (Sub.cons rfl (Sub.skip rfl (Sub.skip rfl (Sub.skip rfl (Sub.skip rfl (Sub.skip rfl (Sub.skip rfl (Sub.skip rfl (Sub.skip rfl (Sub.same rfl (by rw [g15]) (Sub.refl _))))))))))) (List.Sublist.refl _)
  ) ?_
  refine st ?_
  refine RunL.orPart (dj:=24) (dp:=32) 8 rfl (fun g24=>by
    have g24':=g24
    try simp only [nH] at g24'
    refine lv (Val.fieldAddr rfl fld_35_3) ?_
    refine lv (Val.load_one rfl (.tail _ (.head _)) ty_33 rfl) ?_
    refine lv (Val.len_sl rfl sl_33) ?_
    refine lv (Val.fieldAddr rfl fld_35_3) ?_
    refine lv (Val.load_one rfl (.head _) ty_33 rfl) ?_
    refine RunL.val (Val.len_sl rfl sl_33) rfl rfl rfl ?_
    refine sv ?_
    exact RunL.segEnd (Sub.cons rfl (Sub.skip rfl (Sub.skip rfl (Sub.skip rfl (Sub.skip rfl (Sub.skip rfl (Sub.skip rfl (Sub.skip rfl (Sub.skip rfl (Sub.same rfl (by rw [g24]) (Sub.refl _))))))))))) (List.Sublist.refl _)
  ) (fun g24=>by
    have g24':=g24
    try simp only [nH] at g24'
    iterate 7 refine RunL.no rfl rfl rfl ?_
    refine sv ?_
    exact RunL.segEnd (Sub.cons rfl (Sub.skip rfl (Sub.skip rfl (Sub.skip rfl (Sub.skip rfl (Sub.skip rfl (Sub.skip rfl (Sub.skip rfl (Sub.skip rfl (Sub.same rfl (by rw [g24]) (Sub.refl _))))))))))) (List.Sublist.refl _)
  ) ?_
  refine st ?_
  refine cn rfl ?_ ?_
  ·intro c0'
   refine st ?_
   refine RunC.ret ?_
   refine RunE.pass_ret ?_
   exact RunE.retP (.r1 rfl (.tmp rfl)) (by first | (rw [ry_same f1 f2 f3];rfl) | (rw [ry_ne3 (show r.pl.reports ≠ q.pl.reports from ne_at hk hk2 hx hy (by rintro rfl;simp_all))];done) | (rw [ry_ne2 (show r.pl.shares ≠ q.pl.shares from mapT_ne hk hk2 hx hy (by simp_all))];done) | (rw [ry_ne1 (show r.pl.terms ≠ q.pl.terms from ne_at hk hk2 hx hy (by rintro rfl;simp_all))];done) | (refine congrArg Value.bool (decide_eq_false fun e=>?_).symm;have d1:r.terms.l.length=q.terms.l.length:=congrArg (fun z:Ry=>z.terms.length) e;have d2:r.pl.shares.length=q.pl.shares.length:=congrArg (fun z:Ry=>z.shares.length) e;have d3:r.reports.l.length=q.reports.l.length:=congrArg (fun z:Ry=>z.reports.length) e;simp only [RyA.pl,List.length_map] at d2;simp_all;done))
  intro c0'
  have e1:r.terms.l.length=q.terms.l.length:=by (have:=c0'.1.1;omega)
  have e2:r.shares.l.length=q.shares.l.length:=by (have:=c0'.1.2;omega)
  have e3:r.reports.l.length=q.reports.l.length:=by (have:=c0'.2;omega)
  refine st ?_
  refine RunC.loopK (r.terms.l.length) (fun k q=>(5,.int .i64 (k:Int))::q) (fun _=>_) (fun _=>[]) (fun k=>r.terms.l.take k=q.terms.l.take k) (by simp) rfl (Sub.consE (t:=5) rfl rfl (Sub.cons (t:=2) rfl (Sub.cons (t:=3) rfl (Sub.nil _)))) (.cons .here rfl (.cons .here rfl .nil)) ?_
  intro k kN kI
  refine st ?_
  refine lv (Val.fieldAddr rfl fld_35_0) ?_
  refine lv (Val.load_one rfl (.tail _ (.head _)) ty_31 rfl) ?_
  refine lv (Val.len_sl rfl sl_31) ?_
  refine cn rfl ?_ ?_
  ·intro c1'
   have hk:k < r.terms.l.length:=by omega
   have hk2:k < q.terms.l.length:=by omega
   obtain ⟨x,hx⟩:∃ x,r.terms.l[k]=x:=⟨_,rfl⟩
   obtain ⟨y,hy⟩:∃ y,q.terms.l[k]=y:=⟨_,rfl⟩
   refine st ?_
   refine RunC.draw 10 fol_ (.cons .here rfl (.cons .here rfl .nil)) ?_
   refine va 0 rfl (Val.fieldAddr rfl fld_35_0) rfl rfl rfl (.cons .here rfl (.cons .here rfl .nil)) rfl ?_
   refine va 1 rfl (Val.load_one rfl (.tail _ (.head _)) ty_31 rfl) rfl rfl rfl (.cons .here rfl (.cons .here rfl .nil)) rfl ?_
   refine va 2 rfl (Val.pure rfl) rfl rfl rfl (.cons .here rfl (.cons .here rfl .nil)) rfl ?_
   refine va 3 rfl (Val.indexAddr_slp rfl rfl sl_31 (by omega) (by omega) (Sl.ptrM hR.terms hk)) rfl rfl rfl (.cons .here rfl (.cons .here rfl .nil)) rfl ?_
   refine va 4 rfl (Val.load_gen rfl (fun w hm=>Sl.loadX hR.terms (by decide) hm (by simp) ty_109 hk hx)) rfl rfl rfl (.cons .here rfl (.cons .here rfl .nil)) rfl ?_
   refine va 5 rfl (Val.fieldAddr rfl fld_35_0) rfl rfl rfl (.cons .here rfl (.cons .here rfl .nil)) rfl ?_
   refine va 6 rfl (Val.load_one rfl (.head _) ty_31 rfl) rfl rfl rfl (.cons .here rfl (.cons .here rfl .nil)) rfl ?_
   refine va 7 rfl (Val.pure rfl) rfl rfl rfl (.cons .here rfl (.cons .here rfl .nil)) rfl ?_
   refine va 8 rfl (Val.indexAddr_slp rfl rfl sl_31 (by omega) (by omega) (Sl.ptrM hQ.terms hk2)) rfl rfl rfl (.cons .here rfl (.cons .here rfl .nil)) rfl ?_
   refine va 9 rfl (Val.load_gen rfl (fun w hm=>Sl.loadX hQ.terms (by decide) hm (by simp) ty_109 hk2 hy)) rfl rfl rfl (.cons .here rfl (.cons .here rfl .nil)) rfl ?_
   refine RunA.toB (by kernel_rfl) ?_
   refine RunB.one (i:=10) (by kernel_rfl) ?_
   refine RunI.val rfl (Val.neq_flat rfl rfl eqB_109 (kl_109 _ _ _ _ _ _ )) rfl rfl rfl (RunK.toB ?_)
   refine RunB.done (by kernel_rfl) ?_
   refine st ?_
   refine cn rfl ?_ ?_
   ·intro c2'
    refine st ?_
    refine RunC.ret ?_
    refine RunE.block_ret ?_
    refine RunE.pass_ret ?_
    refine RunE.pass_ret ?_
    refine RunE.block_ret ?_
    refine RunE.pass_ret ?_
    exact RunE.retP (.r1 rfl (.tmp rfl)) (by first | (rw [ry_same f1 f2 f3];rfl) | (rw [ry_ne3 (show r.pl.reports ≠ q.pl.reports from ne_at hk hk2 hx hy (by rintro rfl;simp_all))];done) | (rw [ry_ne2 (show r.pl.shares ≠ q.pl.shares from mapT_ne hk hk2 hx hy (by simp_all))];done) | (rw [ry_ne1 (show r.pl.terms ≠ q.pl.terms from ne_at hk hk2 hx hy (by rintro rfl;simp_all))];done) | (refine congrArg Value.bool (decide_eq_false fun e=>?_).symm;have d1:r.terms.l.length=q.terms.l.length:=congrArg (fun z:Ry=>z.terms.length) e;have d2:r.pl.shares.length=q.pl.shares.length:=congrArg (fun z:Ry=>z.shares.length) e;have d3:r.reports.l.length=q.reports.l.length:=congrArg (fun z:Ry=>z.reports.length) e;simp only [RyA.pl,List.length_map] at d2;simp_all;done))
   intro c2'
   refine st ?_
   refine lv (Val.add rfl rfl (IntWalk.i64_in _ ⟨by omega,by omega⟩)) ?_
   exact RunE.round (by omega) (eqT_step hk hk2 hx hy kI (by cases x;cases y;simp_all)) rfl (Sub.consE (t:=5) rfl rfl (Sub.cons (t:=2) rfl (Sub.cons (t:=3) rfl (Sub.nil _)))) (.cons .here rfl (.cons .here rfl .nil))
  intro c1'
  obtain rfl:k=r.terms.l.length:=by omega
  have f1:r.pl.terms=q.pl.terms:=eq_end e1 kI
  clear kI kN
  refine RunC.exit ?_
  refine RunE.pass_exit ?_
  refine RunE.pass_exit ?_
  refine RunE.block_here ?_
  refine st ?_
  refine RunC.loopK (r.shares.l.length) (fun k q=>(6,.int .i64 (k:Int))::q) (fun _=>_) (fun _=>[]) (fun k=>(r.shares.l.map (·.l)).take k=(q.shares.l.map (·.l)).take k) (by simp) rfl (Sub.consE (t:=6) rfl rfl (Sub.cons (t:=2) rfl (Sub.cons (t:=3) rfl (Sub.nil _)))) (.cons .here rfl (.cons .here rfl .nil)) ?_
  intro k kN kI
  refine st ?_
  refine lv (Val.fieldAddr rfl fld_35_2) ?_
  refine lv (Val.load_one rfl (.tail _ (.head _)) ty_32 rfl) ?_
  refine lv (Val.len_sl rfl sl_32) ?_
  refine cn rfl ?_ ?_
  ·intro c3'
   have hk:k < r.shares.l.length:=by omega
   have hk2:k < q.shares.l.length:=by omega
   obtain ⟨x,hx⟩:∃ x,r.shares.l[k]=x:=⟨_,rfl⟩
   obtain ⟨y,hy⟩:∃ y,q.shares.l[k]=y:=⟨_,rfl⟩
   have hxm:x∈r.shares.l:=hx ▸ List.getElem_mem hk
   have hym:y∈q.shares.l:=hy ▸ List.getElem_mem hk2
   refine st ?_
   refine RunC.draw 10 fol_ (.cons .here rfl (.cons .here rfl .nil)) ?_
   refine va 0 rfl (Val.fieldAddr rfl fld_35_2) rfl rfl rfl (.cons .here rfl (.cons .here rfl .nil)) rfl ?_
   refine va 1 rfl (Val.load_one rfl (.tail _ (.head _)) ty_32 rfl) rfl rfl rfl (.cons .here rfl (.cons .here rfl .nil)) rfl ?_
   refine va 2 rfl (Val.pure rfl) rfl rfl rfl (.cons .here rfl (.cons .here rfl .nil)) rfl ?_
   refine va 3 rfl (Val.indexAddr_slp rfl rfl sl_32 (by omega) (by omega) (Sl.ptrM hR.shares hk)) rfl rfl rfl (.cons .here rfl (.cons .here rfl .nil)) rfl ?_
   refine va 4 rfl (Val.load_gen rfl (fun w hm=>Sl.loadM1 hR.shares (by decide) hm (by simp) ty_27 hk (v:=x.v) (by simp [SA.cell,hx]))) rfl rfl rfl (.cons .here rfl (.cons .here rfl .nil)) rfl ?_
   refine va 5 rfl (Val.fieldAddr rfl fld_35_2) rfl rfl rfl (.cons .here rfl (.cons .here rfl .nil)) rfl ?_
   refine va 6 rfl (Val.load_one rfl (.head _) ty_32 rfl) rfl rfl rfl (.cons .here rfl (.cons .here rfl .nil)) rfl ?_
   refine va 7 rfl (Val.pure rfl) rfl rfl rfl (.cons .here rfl (.cons .here rfl .nil)) rfl ?_
   refine va 8 rfl (Val.indexAddr_slp rfl rfl sl_32 (by omega) (by omega) (Sl.ptrM hQ.shares hk2)) rfl rfl rfl (.cons .here rfl (.cons .here rfl .nil)) rfl ?_
   refine va 9 rfl (Val.load_gen rfl (fun w hm=>Sl.loadM1 hQ.shares (by decide) hm (by simp) ty_27 hk2 (v:=y.v) (by simp [SA.cell,hy]))) rfl rfl rfl (.cons .here rfl (.cons .here rfl .nil)) rfl ?_
   refine RunA.toB (by kernel_rfl) ?_
   refine RunB.one (i:=10) (by kernel_rfl) ?_
   refine RunI.callP rfl (isCall_func rfl ent_58) rfl rfl rfl (fun w hm=>(rsameInts_calls x y w ((hR.rows x hxm).mono0 (by decide) hm) ((hQ.rows y hym).mono0 (by decide) hm) (by have:=s4 x hxm;omega) (by have:=u4 y hym;omega))) (RunK.toB ?_)
   refine RunB.one (i:=11) (by kernel_rfl) ?_
   refine RunI.val rfl (Val.pure rfl) rfl rfl rfl (RunK.toB ?_)
   refine RunB.done (by kernel_rfl) ?_
   refine st ?_
   refine cn rfl ?_ ?_
   ·intro c4'
    refine st ?_
    refine RunC.ret ?_
    refine RunE.block_ret ?_
    refine RunE.pass_ret ?_
    refine RunE.pass_ret ?_
    refine RunE.block_ret ?_
    refine RunE.pass_ret ?_
    exact RunE.retP (.r1 rfl (.tmp rfl)) (by first | (rw [ry_same f1 f2 f3];rfl) | (rw [ry_ne3 (show r.pl.reports ≠ q.pl.reports from ne_at hk hk2 hx hy (by rintro rfl;simp_all))];done) | (rw [ry_ne2 (show r.pl.shares ≠ q.pl.shares from mapT_ne hk hk2 hx hy (by simp_all))];done) | (rw [ry_ne1 (show r.pl.terms ≠ q.pl.terms from ne_at hk hk2 hx hy (by rintro rfl;simp_all))];done) | (refine congrArg Value.bool (decide_eq_false fun e=>?_).symm;have d1:r.terms.l.length=q.terms.l.length:=congrArg (fun z:Ry=>z.terms.length) e;have d2:r.pl.shares.length=q.pl.shares.length:=congrArg (fun z:Ry=>z.shares.length) e;have d3:r.reports.l.length=q.reports.l.length:=congrArg (fun z:Ry=>z.reports.length) e;simp only [RyA.pl,List.length_map] at d2;simp_all;done))
   intro c4'
   refine st ?_
   refine lv (Val.add rfl rfl (IntWalk.i64_in _ ⟨by omega,by omega⟩)) ?_
   exact RunE.round (by omega) (mapT_step hk hk2 hx hy kI (by simp_all)) rfl (Sub.consE (t:=6) rfl rfl (Sub.cons (t:=2) rfl (Sub.cons (t:=3) rfl (Sub.nil _)))) (.cons .here rfl (.cons .here rfl .nil))
  intro c3'
  obtain rfl:k=r.shares.l.length:=by omega
  have f2:r.pl.shares=q.pl.shares:=eq_end (show (r.shares.l.map (·.l)).length=(q.shares.l.map (·.l)).length by simp only [List.length_map];omega) (by show List.take (r.shares.l.map (·.l)).length (r.shares.l.map (·.l))=List.take (r.shares.l.map (·.l)).length (q.shares.l.map (·.l));rw [List.length_map];exact kI)
  clear kI kN
  refine RunC.exit ?_
  refine RunE.pass_exit ?_
  refine RunE.pass_exit ?_
  refine RunE.block_here ?_
  refine st ?_
  refine RunC.loopK (r.reports.l.length) (fun k q=>(7,.int .i64 (k:Int))::q) (fun _=>_) (fun _=>[]) (fun k=>r.reports.l.take k=q.reports.l.take k) (by simp) rfl (Sub.consE (t:=7) rfl rfl (Sub.cons (t:=2) rfl (Sub.cons (t:=3) rfl (Sub.nil _)))) (.cons .here rfl (.cons .here rfl .nil)) ?_
  intro k kN kI
  refine st ?_
  refine lv (Val.fieldAddr rfl fld_35_3) ?_
  refine lv (Val.load_one rfl (.tail _ (.head _)) ty_33 rfl) ?_
  refine lv (Val.len_sl rfl sl_33) ?_
  refine cn rfl ?_ ?_
  ·intro c5'
   have hk:k < r.reports.l.length:=by omega
   have hk2:k < q.reports.l.length:=by omega
   obtain ⟨x,hx⟩:∃ x,r.reports.l[k]=x:=⟨_,rfl⟩
   obtain ⟨y,hy⟩:∃ y,q.reports.l[k]=y:=⟨_,rfl⟩
   refine st ?_
   refine RunC.draw 10 fol_ (.cons .here rfl (.cons .here rfl .nil)) ?_
   refine va 0 rfl (Val.fieldAddr rfl fld_35_3) rfl rfl rfl (.cons .here rfl (.cons .here rfl .nil)) rfl ?_
   refine va 1 rfl (Val.load_one rfl (.tail _ (.head _)) ty_33 rfl) rfl rfl rfl (.cons .here rfl (.cons .here rfl .nil)) rfl ?_
   refine va 2 rfl (Val.pure rfl) rfl rfl rfl (.cons .here rfl (.cons .here rfl .nil)) rfl ?_
   refine va 3 rfl (Val.indexAddr_slp rfl rfl sl_33 (by omega) (by omega) (Sl.ptrM hR.reports hk)) rfl rfl rfl (.cons .here rfl (.cons .here rfl .nil)) rfl ?_
   refine va 4 rfl (Val.load_gen rfl (fun w hm=>Sl.loadX hR.reports (by decide) hm (by simp) ty_111 hk hx)) rfl rfl rfl (.cons .here rfl (.cons .here rfl .nil)) rfl ?_
   refine va 5 rfl (Val.fieldAddr rfl fld_35_3) rfl rfl rfl (.cons .here rfl (.cons .here rfl .nil)) rfl ?_
   refine va 6 rfl (Val.load_one rfl (.head _) ty_33 rfl) rfl rfl rfl (.cons .here rfl (.cons .here rfl .nil)) rfl ?_
   refine va 7 rfl (Val.pure rfl) rfl rfl rfl (.cons .here rfl (.cons .here rfl .nil)) rfl ?_
   refine va 8 rfl (Val.indexAddr_slp rfl rfl sl_33 (by omega) (by omega) (Sl.ptrM hQ.reports hk2)) rfl rfl rfl (.cons .here rfl (.cons .here rfl .nil)) rfl ?_
   refine va 9 rfl (Val.load_gen rfl (fun w hm=>Sl.loadX hQ.reports (by decide) hm (by simp) ty_111 hk2 hy)) rfl rfl rfl (.cons .here rfl (.cons .here rfl .nil)) rfl ?_
   refine RunA.toB (by kernel_rfl) ?_
   refine RunB.one (i:=10) (by kernel_rfl) ?_
   refine RunI.val rfl (Val.neq_flat rfl rfl eqB_111 (kl_111 _ _ _ _ _ _ _ _ )) rfl rfl rfl (RunK.toB ?_)
   refine RunB.done (by kernel_rfl) ?_
   refine st ?_
   refine cn rfl ?_ ?_
   ·intro c6'
    refine st ?_
    refine RunC.ret ?_
    refine RunE.block_ret ?_
    refine RunE.pass_ret ?_
    refine RunE.pass_ret ?_
    refine RunE.block_ret ?_
    refine RunE.pass_ret ?_
    exact RunE.retP (.r1 rfl (.tmp rfl)) (by first | (rw [ry_same f1 f2 f3];rfl) | (rw [ry_ne3 (show r.pl.reports ≠ q.pl.reports from ne_at hk hk2 hx hy (by rintro rfl;simp_all))];done) | (rw [ry_ne2 (show r.pl.shares ≠ q.pl.shares from mapT_ne hk hk2 hx hy (by simp_all))];done) | (rw [ry_ne1 (show r.pl.terms ≠ q.pl.terms from ne_at hk hk2 hx hy (by rintro rfl;simp_all))];done) | (refine congrArg Value.bool (decide_eq_false fun e=>?_).symm;have d1:r.terms.l.length=q.terms.l.length:=congrArg (fun z:Ry=>z.terms.length) e;have d2:r.pl.shares.length=q.pl.shares.length:=congrArg (fun z:Ry=>z.shares.length) e;have d3:r.reports.l.length=q.reports.l.length:=congrArg (fun z:Ry=>z.reports.length) e;simp only [RyA.pl,List.length_map] at d2;simp_all;done))
   intro c6'
   refine st ?_
   refine lv (Val.add rfl rfl (IntWalk.i64_in _ ⟨by omega,by omega⟩)) ?_
   exact RunE.round (by omega) (eqT_step hk hk2 hx hy kI (by cases x;cases y;simp_all)) rfl (Sub.consE (t:=7) rfl rfl (Sub.cons (t:=2) rfl (Sub.cons (t:=3) rfl (Sub.nil _)))) (.cons .here rfl (.cons .here rfl .nil))
  intro c5'
  obtain rfl:k=r.reports.l.length:=by omega
  have f3:r.pl.reports=q.pl.reports:=eq_end e3 kI
  refine RunC.exit ?_
  refine RunE.pass_exit ?_
  refine RunE.pass_exit ?_
  refine RunE.block_here ?_
  refine st ?_
  refine lv (Val.fieldAddr rfl fld_35_1) ?_
  refine lv (Val.load_one rfl (.tail _ (.head _)) ty_27 rfl) ?_
  refine lv (Val.fieldAddr rfl fld_35_1) ?_
  refine lv (Val.load_one rfl (.head _) ty_27 rfl) ?_
  refine RunL.callP (isCall_func rfl ent_58) rfl rfl rfl (fun w hm=>(rsameInts_calls r.prices q.prices w (hR.prices.mono0 (by decide) hm) (hQ.prices.mono0 (by decide) hm) (by omega) (by omega))) ?_
  refine st ?_
  refine RunL.andPart (dj:=93) (dp:=99) 6 rfl (fun g93=>by
    have g93':=g93
    try simp only [nH] at g93'
    refine lv (Val.fieldAddr rfl fld_35_4) ?_
    refine lv (Val.load_one rfl (.tail _ (.head _)) ty_27 rfl) ?_
    refine lv (Val.fieldAddr rfl fld_35_4) ?_
    refine lv (Val.load_one rfl (.head _) ty_27 rfl) ?_
    refine RunL.callP (isCall_func rfl ent_58) rfl rfl rfl (fun w hm=>(rsameInts_calls r.paid q.paid w (hR.paid.mono0 (by decide) hm) (hQ.paid.mono0 (by decide) hm) (by omega) (by omega))) ?_
    refine sv ?_
    exact RunL.segEnd (Sub.cons rfl (Sub.skip rfl (Sub.skip rfl (Sub.skip rfl (Sub.skip rfl (Sub.skip rfl (Sub.skip rfl (Sub.same rfl (by rw [g93]) (Sub.refl _))))))))) (List.Sublist.refl _)
  ) (fun g93=>by
    have g93':=g93
    try simp only [nH] at g93'
    iterate 5 refine RunL.no rfl rfl rfl ?_
    refine sv ?_
    exact RunL.segEnd (Sub.cons rfl (Sub.skip rfl (Sub.skip rfl (Sub.skip rfl (Sub.skip rfl (Sub.skip rfl (Sub.skip rfl (Sub.same rfl (by rw [g93]) (Sub.refl _))))))))) (List.Sublist.refl _)
  ) ?_
  refine st ?_
  refine RunC.ret ?_
  exact RunE.retP (.r1 rfl (.tmp rfl)) (by first | (rw [ry_same f1 f2 f3];rfl) | (rw [ry_ne3 (show r.pl.reports ≠ q.pl.reports from ne_at hk hk2 hx hy (by rintro rfl;simp_all))];done) | (rw [ry_ne2 (show r.pl.shares ≠ q.pl.shares from mapT_ne hk hk2 hx hy (by simp_all))];done) | (rw [ry_ne1 (show r.pl.terms ≠ q.pl.terms from ne_at hk hk2 hx hy (by rintro rfl;simp_all))];done) | (refine congrArg Value.bool (decide_eq_false fun e=>?_).symm;have d1:r.terms.l.length=q.terms.l.length:=congrArg (fun z:Ry=>z.terms.length) e;have d2:r.pl.shares.length=q.pl.shares.length:=congrArg (fun z:Ry=>z.shares.length) e;have d3:r.reports.l.length=q.reports.l.length:=congrArg (fun z:Ry=>z.reports.length) e;simp only [RyA.pl,List.length_map] at d2;simp_all;done))
end Go.Proofs.YtleamcmljcdapaaGreatDoor
namespace Go.Bk
open Go Go.Eng Go.RowKit
def len0 (t:Tr) (c:Cb) (p:Ps):Int:=[(t.ways.length:Int),(t.stay.length:Int),(t.light.length:Int),(c.homes.length:Int),(c.loans.length:Int),(p.cards.length:Int)].foldl Max.max (t.fr.length:Int)
def len1 (t:Tr) (c:Cb) (r:Ry) (p:Ps):Int:=[(r.terms.length:Int),(r.paid.length:Int),(r.prices.length:Int),(r.shares.length:Int),(r.reports.length:Int)].foldl Max.max (len0 t c p)
def len2 {α:Type} (n:Int) (l:List (List α)):Int:=l.foldl (fun n x=>Max.max n (x.length:Int)) n
theorem len2_s {α:Type} {n:Int} {l:List (List α)} {k:Nat} (hk:k < l.length) {x:List α} (hx:l[k]=x):len2 n (l.take (k + 1))=Max.max (len2 n (l.take k)) (x.length:Int):=by
  unfold len2
  rw [List.take_succ_eq_append_getElem hk,List.foldl_append,hx]
  rfl
theorem len2_le {α:Type}:∀ (l:List (List α)) (n:Int),n≤len2 n l∧∀ x∈l,(x.length:Int)≤len2 n l
  | [],n=>⟨Int.le_refl _,fun x h=>by cases h⟩
  | y::l,n=>by
    obtain ⟨h1,h2⟩:=len2_le l (Max.max n (y.length:Int))
    have e:len2 n (y::l)=len2 (Max.max n (y.length:Int)) l:=rfl
    rw [e]
    refine ⟨by omega,fun x hx=>?_⟩
    rcases List.mem_cons.1 hx with rfl | hx
    · omega
    · exact h2 x hx
def lenX (t:Tr) (c:Cb) (r:Ry) (p:Ps):Int:=len2 (len2 (len1 t c r p) t.ways) r.shares
def greatX (t:Tr) (c:Cb) (r:Ry) (p:Ps):Bool:=decide (40 < lenX t c r p)
structure Few (t:Tr) (c:Cb) (r:Ry) (p:Ps):Prop where
  fr:t.fr.length≤40
  ways:t.ways.length≤40
  rows:∀ x∈t.ways,x.length≤40
  stay:t.stay.length≤40
  light:t.light.length≤40
  homes:c.homes.length≤40
  loans:c.loans.length≤40
  cards:p.cards.length≤40
  terms:r.terms.length≤40
  paid:r.paid.length≤40
  prices:r.prices.length≤40
  shares:r.shares.length≤40
  srows:∀ x∈r.shares,x.length≤40
  reports:r.reports.length≤40
theorem few_of {t:Tr} {c:Cb} {r:Ry} {p:Ps} (h:greatX t c r p=false):Few t c r p:=by
  have h0:lenX t c r p≤40:=by have:=of_decide_eq_false h;omega
  have h3:=len2_le r.shares (len2 (len1 t c r p) t.ways)
  have h2:=len2_le t.ways (len1 t c r p)
  have h1:=fold_max [(r.terms.length:Int),(r.paid.length:Int),(r.prices.length:Int),(r.shares.length:Int),(r.reports.length:Int)] (len0 t c p)
  have h4:=fold_max [(t.ways.length:Int),(t.stay.length:Int),(t.light.length:Int),(c.homes.length:Int),(c.loans.length:Int),(p.cards.length:Int)] (t.fr.length:Int)
  change _≤lenX t c r p∧∀ x∈r.shares,_≤lenX t c r p at h3
  change _≤len1 t c r p∧∀ q∈_,q≤len1 t c r p at h1
  change _≤len0 t c p∧∀ q∈_,q≤len0 t c p at h4
  have m1:=h1.2
  have m4:=h4.2
  simp only [List.mem_cons,List.not_mem_nil,or_false,forall_eq_or_imp,forall_eq] at m1 m4
  refine ⟨?_,?_,fun x hx=>?_,?_,?_,?_,?_,?_,?_,?_,?_,?_,fun x hx=>?_,?_⟩
  case refine_3=>have:=h2.2 x hx;omega
  case refine_13=>have:=h3.2 x hx;omega
  all_goals omega
/-! ### The examples -/
def exT:Tr:=⟨360,[⟨30,40⟩,⟨20,20⟩,⟨60,70⟩],[[⟨0,0⟩,⟨15,20⟩,⟨45,50⟩],[⟨15,20⟩,⟨0,0⟩,⟨30,35⟩],[⟨45,50⟩,⟨30,35⟩,⟨0,0⟩]],[⟨10,15⟩,⟨20,20⟩,⟨5,10⟩],[⟨420,480⟩,⟨380,600⟩,⟨500,540⟩]⟩
def exC:Cb:=⟨4,[0,1,2],1,[⟨0,0,0,0⟩,⟨0,1,1,0⟩,⟨1,0,0,0⟩,⟨1,1,1,0⟩,⟨2,0,0,1⟩]⟩
def exR:Ry:=⟨[⟨20,3,30⟩,⟨25,12,25⟩],[99],[[334,333,333]],[⟨0,0,0,5⟩,⟨1,0,4,7⟩],[0,0]⟩
def exP:Ps:=⟨[⟨⟨100,101⟩,⟨500,505⟩,0⟩],⟨3,5⟩,⟨10,20⟩⟩
theorem exT_ok:tourX exT=true:=by decide
theorem exC_ok:cabX exC=true:=by decide
theorem exR_ok:royalX exR=true:=by decide
theorem exP_ok:printsX exP=true:=by decide
def dig (u:Nat):Str:=if u < 10 then [UInt8.ofNat (48 + u)] else if u < 100 then [UInt8.ofNat (48 + u / 10),UInt8.ofNat (48 + u % 10)] else [UInt8.ofNat (48 + u / 100),UInt8.ofNat (48 + u / 10 % 10),UInt8.ofNat (48 + u % 10)]
theorem dig_dec {u:Nat} (h:u < 1000):Lib.decDigits u=dig u:=by
  unfold dig
  split
  · rw [Lib.decDigits,dif_pos (by assumption)]
  · rename_i h1
    rw [Lib.decDigits,dif_neg h1]
    split
    · rw [Lib.decDigits,dif_pos (by omega)]
      rfl
    · rw [Lib.decDigits,dif_neg (by omega),Lib.decDigits,dif_pos (by omega)]
      have e:u / 10 / 10=u / 100:=by omega
      rw [e]
      rfl
theorem itoa_dig {n:Int} (h:0≤n) (h2:n < 1000):Lib.itoa n=dig n.toNat:=by
  unfold Lib.itoa
  rw [if_neg (by omega),dig_dec (by omega)]
def exTS:Str:=[116,111,117,114,32,51,54,48,10,102,114,111,109,32,51,48,46,46,52,48,32,50,48,46,46,50,48,32,54,48,46,46,55,48,10,119,97,121,115,32,48,46,46,48,32,49,53,46,46,50,48,32,52,53,46,46,53,48,10,119,97,121,115,32,49,53,46,46,50,48,32,48,46,46,48,32,51,48,46,46,51,53,10,119,97,121,115,32,52,53,46,46,53,48,32,51,48,46,46,51,53,32,48,46,46,48,10,115,116,97,121,32,49,48,46,46,49,53,32,50,48,46,46,50,48,32,53,46,46,49,48,10,108,105,103,104,116,32,52,50,48,46,46,52,56,48,32,51,56,48,46,46,54,48,48,32,53,48,48,46,46,53,52,48,10]
def exCS:Str:=[99,97,98,105,110,101,116,32,52,32,49,10,104,111,109,101,115,32,48,32,49,32,50,10,116,97,107,101,32,48,32,48,10,116,97,107,101,32,49,32,49,10,98,97,99,107,32,48,32,48,10,98,97,99,107,32,49,32,49,10,108,111,111,107,32,49,32,48,10]
def exRS:Str:=[114,111,121,97,108,10,97,103,101,110,116,32,50,48,32,51,32,51,48,32,48,10,97,103,101,110,116,32,50,53,32,49,50,32,50,53,32,48,10,107,105,110,100,32,57,57,32,51,51,52,32,51,51,51,32,51,51,51,10,114,101,112,111,114,116,32,48,32,48,32,48,32,53,10,114,101,112,111,114,116,32,49,32,48,32,52,32,55,10]
def exPS:Str:=[80,1,0,100,0,1,1,244,0,5,0,0,0,3,0,2,0,10,0,10,29,39]
set_option maxRecDepth 10000 in
theorem exT_text:tourS exT=exTS:=by
  simp (config:={ decide:=true }) only [tourS,exT,rowS,lineS,spS,List.map_cons,List.map_nil,itoa_dig]
  try rfl
theorem exC_text:cabS exC=exCS:=by
  simp (config:={ decide:=true }) only [cabS,exC,loanS,lineS,List.map_cons,List.map_nil,itoa_dig,if_true,if_false]
theorem exR_text:royalS exR=exRS:=by
  simp (config:={ decide:=true }) only [royalS,exR,agentS,kindS,reportS,lineS,List.map_cons,List.map_nil,List.zip_cons_cons,List.zip_nil_right,itoa_dig]
theorem exP_bytes:psS exP=exPS:=by decide
theorem ndec {p:Prop} [Decidable p] (h:p):(!decide p)=false:=by simp [h]
set_option maxRecDepth 10000 in
theorem exT_len:exTS.length=165:=rfl
set_option maxRecDepth 10000 in
theorem exC_len:exCS.length=69:=rfl
set_option maxRecDepth 10000 in
theorem exR_len:exRS.length=89:=rfl
theorem exT_read:readX tourStep zeroT tourX tourS exTS = .ok exT:=readX_ok parse_tour exT_ok exT_text (by rw [exT_len];decide)
theorem exC_read:readX cabStep zeroC cabX cabS exCS = .ok exC:=readX_ok parse_cab exC_ok exC_text (by rw [exC_len];decide)
theorem exR_read:readX royStep zeroR royalX royalS exRS = .ok exR:=readX_ok parse_roy exR_ok exR_text (by rw [exR_len];decide)
theorem exP_read:readPs exPS = .ok exP:=by rw [← exP_bytes];exact readPs_ok exP_ok
end Go.Bk
namespace Go.Proofs.YtleamcmljcdapaaGreatDoor
open Go Go.Eng Go.Bk Go.RowKit

theorem rsameBytes_calls (s u:SA UInt8) (W:World) (hS:s.ok byC 1 W) (hU:u.ok byC 1 W):Calls Tryz.prog 29 #[s.v,u.v] W (Pure (.bool (decide (s.l=u.l))) W):=by
  refine calls_start Tryz.func29 rfl rfl ?_
  refine st ?_
  refine lv (Val.bytesStr rfl sls_58 und_5 und_9 (fun w hm=>hS.mono0 (by decide) hm)) ?_
  refine lv (Val.bytesStr rfl sls_58 und_5 und_9 (fun w hm=>hU.mono0 (by decide) hm)) ?_
  refine lv (Val.eqlStr rfl rfl) ?_
  refine RunC.ret ?_
  exact RunE.retP (.r1 rfl (.tmp rfl)) (by first | rfl | simp)
theorem great_calls (t:TrA) (c:CbA) (r:RyA) (p:PsA) (W:World) (hT:TrOk W t) (hR:RyOk W r) (hn1:t.ways.l.length≤9223372036854775807) (hn2:r.shares.l.length≤9223372036854775807):Calls Tryz.prog 8 #[t.v,c.v,r.v,p.v] W (Pure (.bool (greatX t.pl c.pl r.pl p.pl)) W):=by
  have e1:t.pl.ways.length=t.ways.l.length:=by simp [TrA.pl]
  have e2:r.pl.shares.length=r.shares.l.length:=by simp [RyA.pl]
  have f0:len0 t.pl c.pl p.pl=[(t.ways.l.length:Int),(t.stay.l.length:Int),(t.light.l.length:Int),(c.homes.l.length:Int),(c.loans.l.length:Int),(p.cards.l.length:Int)].foldl Max.max (t.fr.l.length:Int):=by unfold len0;rw [e1];rfl
  have f1:len1 t.pl c.pl r.pl p.pl=[(r.terms.l.length:Int),(r.paid.l.length:Int),(r.prices.l.length:Int),(r.shares.l.length:Int),(r.reports.l.length:Int)].foldl Max.max (len0 t.pl c.pl p.pl):=by unfold len1;rw [e2];rfl
  refine calls_start Tryz.func8 rfl rfl ?_
  refine st ?_
  refine RunL.new (New.box rfl) rfl rfl rfl (fun b4=>?_)
  refine RunL.new (New.box rfl) rfl rfl rfl (fun b5=>?_)
  refine RunL.new (New.box rfl) rfl rfl rfl (fun b6=>?_)
  refine RunL.new (New.box rfl) rfl rfl rfl (fun b7=>?_)
  refine st ?_
  refine lv (Val.fieldAddr rfl fld_25_1) ?_
  refine lv (Val.load_one rfl (.tail _ (.tail _ (.tail _ (.head _)))) ty_22 rfl) ?_
  refine lv (Val.len_sl rfl sl_22) ?_
  refine lv (Val.fieldAddr rfl fld_25_2) ?_
  refine lv (Val.load_one rfl (.tail _ (.tail _ (.tail _ (.head _)))) ty_23 rfl) ?_
  refine lv (Val.len_sl rfl sl_23) ?_
  refine lv (Val.fieldAddr rfl fld_25_3) ?_
  refine lv (Val.load_one rfl (.tail _ (.tail _ (.tail _ (.head _)))) ty_22 rfl) ?_
  refine lv (Val.len_sl rfl sl_22) ?_
  refine lv (Val.fieldAddr rfl fld_25_4) ?_
  refine lv (Val.load_one rfl (.tail _ (.tail _ (.tail _ (.head _)))) ty_22 rfl) ?_
  refine lv (Val.len_sl rfl sl_22) ?_
  refine lv (Val.fieldAddr rfl fld_30_1) ?_
  refine lv (Val.load_one rfl (.tail _ (.tail _ (.head _))) ty_27 rfl) ?_
  refine lv (Val.len_sl rfl sl_27) ?_
  refine lv (Val.fieldAddr rfl fld_30_3) ?_
  refine lv (Val.load_one rfl (.tail _ (.tail _ (.head _))) ty_28 rfl) ?_
  refine lv (Val.len_sl rfl sl_28) ?_
  refine lv (Val.fieldAddr rfl fld_40_0) ?_
  refine lv (Val.load_one rfl (.head _) ty_36 rfl) ?_
  refine lv (Val.len_sl rfl sl_36) ?_
  refine RunL.val (Val.maxN (qs:=[(t.ways.l.length:Int),(t.stay.l.length:Int),(t.light.l.length:Int),(c.homes.l.length:Int),(c.loans.l.length:Int),(p.cards.l.length:Int)]) rfl rfl) rfl rfl rfl ?_
  refine vp rfl rfl rfl rfl ?_
  refine nsr ?_
  rw [← f0]
  refine st ?_
  refine lv (Val.fieldAddr rfl fld_35_0) ?_
  refine lv (Val.load_one rfl (.tail _ (.head _)) ty_31 rfl) ?_
  refine lv (Val.len_sl rfl sl_31) ?_
  refine lv (Val.fieldAddr rfl fld_35_4) ?_
  refine lv (Val.load_one rfl (.tail _ (.head _)) ty_27 rfl) ?_
  refine lv (Val.len_sl rfl sl_27) ?_
  refine lv (Val.fieldAddr rfl fld_35_1) ?_
  refine lv (Val.load_one rfl (.tail _ (.head _)) ty_27 rfl) ?_
  refine lv (Val.len_sl rfl sl_27) ?_
  refine lv (Val.fieldAddr rfl fld_35_2) ?_
  refine lv (Val.load_one rfl (.tail _ (.head _)) ty_32 rfl) ?_
  refine lv (Val.len_sl rfl sl_32) ?_
  refine lv (Val.fieldAddr rfl fld_35_3) ?_
  refine lv (Val.load_one rfl (.tail _ (.head _)) ty_33 rfl) ?_
  refine lv (Val.len_sl rfl sl_33) ?_
  refine RunL.val (Val.maxN (qs:=[(r.terms.l.length:Int),(r.paid.l.length:Int),(r.prices.l.length:Int),(r.shares.l.length:Int),(r.reports.l.length:Int)]) rfl rfl) rfl rfl rfl ?_
  refine vp rfl rfl rfl rfl ?_
  refine nnx ?_
  refine RunC.seq ?_
  refine csr ?_
  rw [← f1]
  refine lv (Val.fieldAddr rfl fld_25_2) ?_
  refine lv (Val.load_one rfl (.tail _ (.tail _ (.tail _ (.head _)))) ty_23 rfl) ?_
  refine lv (Val.len_sl rfl sl_23) ?_
  refine RunC.loopK (t.ways.l.length) (fun k q=>(56,.int .i64 (k:Int))::(9,.int .i64 (len2 (len1 t.pl c.pl r.pl p.pl) (t.pl.ways.take k)))::q) (fun _=>_) (fun _=>[]) (fun _=>True) trivial rfl (Sub.consE (t:=56) rfl rfl (Sub.consE (t:=9) rfl (by rfl) (Sub.cons (t:=4) rfl (Sub.cons (t:=5) rfl (Sub.cons (t:=6) rfl (Sub.cons (t:=7) rfl (Sub.cons (t:=54) rfl (Sub.cons (t:=55) rfl (Sub.nil _))))))))) (.cons .here rfl (.cons .here rfl (.cons .here rfl (.cons .here rfl .nil)))) ?_
  intro k kN kI
  clear kI
  refine st ?_
  refine cn rfl ?_ ?_
  ·intro c0'
   have hk:k < t.ways.l.length:=by omega
   obtain ⟨x,hx⟩:∃ x,t.ways.l[k]=x:=⟨_,rfl⟩
   refine st ?_
   refine lv (Val.indexAddr_slp rfl rfl sl_23 (by omega) (by omega) (Sl.ptrM hT.ways hk)) ?_
   refine lv (Val.load_gen rfl (fun w hm=>Sl.loadM1 hT.ways (by decide) hm (by simp) ty_22 hk (v:=x.v) (by simp [SA.cell,hx]))) ?_
   refine lv (Val.len_sl rfl sl_22) ?_
   refine lv (Val.max rfl rfl) ?_
   refine lv (Val.add rfl rfl (IntWalk.i64_in _ ⟨by omega,by omega⟩)) ?_
   exact RunE.round (by omega) trivial rfl (Sub.consE (t:=56) rfl rfl (Sub.consE (t:=9) rfl (by rw [len2_s (x:=x.l) (by rw [e1];exact hk) (by simp [TrA.pl,hx])]) (Sub.cons (t:=4) rfl (Sub.cons (t:=5) rfl (Sub.cons (t:=6) rfl (Sub.cons (t:=7) rfl (Sub.cons (t:=54) rfl (Sub.cons (t:=55) rfl (Sub.nil _))))))))) (.cons .here rfl (.cons .here rfl (.cons .here rfl (.cons .here rfl .nil))))
  intro c0'
  obtain rfl:k=t.ways.l.length:=by omega
  have g1:len2 (len1 t.pl c.pl r.pl p.pl) (t.pl.ways.take t.ways.l.length)=len2 (len1 t.pl c.pl r.pl p.pl) t.pl.ways:=by rw [← e1,List.take_length]
  rw [g1]
  refine RunC.exit ?_
  refine RunE.pass_exit ?_
  refine RunE.pass_exit ?_
  refine RunE.block_here ?_
  refine st ?_
  refine lv (Val.fieldAddr rfl fld_35_2) ?_
  refine lv (Val.load_one rfl (.tail _ (.head _)) ty_32 rfl) ?_
  refine lv (Val.len_sl rfl sl_32) ?_
  refine RunC.loopK (r.shares.l.length) (fun k q=>(68,.int .i64 (k:Int))::(9,.int .i64 (len2 (len2 (len1 t.pl c.pl r.pl p.pl) t.pl.ways) (r.pl.shares.take k)))::q) (fun _=>_) (fun _=>[]) (fun _=>True) trivial rfl (Sub.consE (t:=68) rfl rfl (Sub.consE (t:=9) rfl (by rfl) (Sub.cons (t:=4) rfl (Sub.cons (t:=5) rfl (Sub.cons (t:=6) rfl (Sub.cons (t:=7) rfl (Sub.cons (t:=66) rfl (Sub.cons (t:=67) rfl (Sub.nil _))))))))) (.cons .here rfl (.cons .here rfl (.cons .here rfl (.cons .here rfl .nil)))) ?_
  intro k kN kI
  clear kI
  refine st ?_
  refine cn rfl ?_ ?_
  ·intro c1'
   have hk:k < r.shares.l.length:=by omega
   obtain ⟨x,hx⟩:∃ x,r.shares.l[k]=x:=⟨_,rfl⟩
   refine st ?_
   refine lv (Val.indexAddr_slp rfl rfl sl_32 (by omega) (by omega) (Sl.ptrM hR.shares hk)) ?_
   refine lv (Val.load_gen rfl (fun w hm=>Sl.loadM1 hR.shares (by decide) hm (by simp) ty_27 hk (v:=x.v) (by simp [SA.cell,hx]))) ?_
   refine lv (Val.len_sl rfl sl_27) ?_
   refine lv (Val.max rfl rfl) ?_
   refine lv (Val.add rfl rfl (IntWalk.i64_in _ ⟨by omega,by omega⟩)) ?_
   exact RunE.round (by omega) trivial rfl (Sub.consE (t:=68) rfl rfl (Sub.consE (t:=9) rfl (by rw [len2_s (x:=x.l) (by rw [e2];exact hk) (by simp [RyA.pl,hx])]) (Sub.cons (t:=4) rfl (Sub.cons (t:=5) rfl (Sub.cons (t:=6) rfl (Sub.cons (t:=7) rfl (Sub.cons (t:=66) rfl (Sub.cons (t:=67) rfl (Sub.nil _))))))))) (.cons .here rfl (.cons .here rfl (.cons .here rfl (.cons .here rfl .nil))))
  intro c1'
  obtain rfl:k=r.shares.l.length:=by omega
  refine RunC.exit ?_
  refine RunE.pass_exit ?_
  refine RunE.pass_exit ?_
  refine RunE.block_here ?_
  refine st ?_
  refine RunC.ret ?_
  exact RunE.retP (.r1 rfl (.tmp rfl)) (by unfold greatX lenX;rw [show List.take r.shares.l.length r.pl.shares=r.pl.shares by rw [← e2,List.take_length]])
theorem lspan_calls (a b:Int) (W:World):Calls Tryz.prog 85 #[.int .i64 a,.int .i64 b] W (Pure (.agg #[.int .i64 a,.int .i64 b]) W):=by
  refine calls_start Tryz.func85 rfl rfl ?_
  refine st ?_
  refine RunL.new (New.alloc zero_38) rfl rfl rfl (fun b4=>?_)
  refine st ?_
  refine lv (Val.build (parts:=[(0,.tmp 5),(1,.tmp 6)]) rfl zero_38 places_38 rfl) ?_
  refine RunL.sto (Sto.store rfl rfl .here ty_38 rfl rfl) rfl rfl ?_
  refine st ?_
  refine RunC.ret ?_
  exact RunE.retP (.r1 rfl (.agg rfl (.head _) ty_38 rfl)) (by first | rfl | simp)
end Go.Proofs.YtleamcmljcdapaaGreatDoor
namespace Go.Proofs.YtleamcmljcdapaaGreatDoor
open Go Go.Eng
theorem ent_85:Enters Tryz.prog 85:=enters_of Tryz.func85 (by kernel_rfl) rfl
theorem places_25:placesB Tryz.prog 25=some [(0,1),(1,1),(2,1),(3,1),(4,1)]:=by kernel_rfl
theorem places_30:placesB Tryz.prog 30=some [(0,1),(1,1),(2,1),(3,1)]:=by kernel_rfl
theorem places_35:placesB Tryz.prog 35=some [(0,1),(1,1),(2,1),(3,1),(4,1)]:=by kernel_rfl
end Go.Proofs.YtleamcmljcdapaaGreatDoor
