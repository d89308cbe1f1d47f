/- Walks of package copy: marked, can. Printed by mk_wx.py. -/
import Derived.Test.YtmkdbdbenfbkhaaGreatDoorY05
import Derived.Test.YtmkdbdbenfbkhaaGreatDoorProg
set_option linter.unusedSimpArgs false
set_option linter.unusedVariables false
set_option linter.unusedSectionVars false
namespace Go.Wk
open Go Go.Eng Go.RowKit Go.Bk
def canW (nx:Bool) (p:Ps) (w:List Int):Bool:=!((List.range w.length).any fun (c:Nat)=>decide (w.getD c (-1) = -1) && !(whatW nx p w w.length c).2)
def markP (p:Ps) (card from_:Nat):Bool:=decide (andN (p.cards.getD from_ zPt).marks.toNat (p.cards.getD card zPt).marks.toNat=0)
end Go.Wk
namespace Go.Proofs.YtmkdbdbenfbkhaaGreatDoor
open Go Go.Eng Go.Bk Go.Wk
theorem AU5 (p:PsA) (hp:PV p.pl) (bp b2:Nat) (i j:Nat) (hi:i < p.cards.l.length) (hj:j < p.cards.l.length) (W:World) (hP:p.cards.ok Pt.cells 5 W) (hb:W.heap[bp]? = some (plO p b2)):Calls Tryz.prog 202 #[pV bp,.int .i64 (i:Int),.int .i64 (j:Int)] W (Pure (.bool (markP p.pl i j)) W):=by
  obtain ⟨x,hx⟩:∃ x,p.cards.l[i]=x:=⟨_,rfl⟩;obtain ⟨y,hy⟩:∃ x,p.cards.l[j]=x:=⟨_,rfl⟩;have hxd:p.pl.cards.getD i zPt=x:=(Ai5 hi).trans hx;have hyd:p.pl.cards.getD j zPt=y:=(Ai5 hj).trans hy;have hxm:=hp.marks x (hx ▸ List.getElem_mem hi);have hym:=hp.marks y (hy ▸ List.getElem_mem hj);obtain ⟨mx,hmx⟩:∃ n:Nat,x.marks=(n:Int):=⟨x.marks.toNat,by omega⟩;obtain ⟨my,hmy⟩:∃ n:Nat,y.marks=(n:Int):=⟨y.marks.toNat,by omega⟩;have hX:markP p.pl i j=decide (andN my mx=0):=by unfold markP;rw [hxd,hyd,hmx,hmy];rfl
  have hle:andN my mx≤my:=CG8 my mx;rw [hX];refine Aa2 Tryz.func202 rfl rfl ?_;refine st ?_;refine Ae9 18 As5 .nil ?_;refine va 0 rfl (Aa8 rfl) rfl rfl rfl .nil rfl ?_;refine va 1 rfl (Aa8 rfl) rfl rfl rfl .nil rfl ?_;refine va 2 rfl (Val.fieldAddr rfl An8) rfl rfl rfl .nil rfl ?_;refine va 3 rfl (Val.fieldAddr rfl Aq9) rfl rfl rfl .nil rfl ?_;refine va 4 rfl (Aa9 rfl hb (by simp) Bb5 rfl) rfl rfl rfl .nil rfl ?_;refine va 5 rfl (Aa8 rfl) rfl rfl rfl .nil rfl ?_;refine va 6 rfl (Aa6 rfl rfl AK2 (by omega) (by omega) (Sl.ptrM hP hj)) rfl rfl rfl .nil rfl ?_;refine va 7 rfl (Val.fieldAddr rfl Bd7) rfl rfl rfl .nil rfl ?_;refine va 8 rfl (Ab2 rfl (fun w hm=>Sl.cellX hP hm (by simp) Af4 hj hy (j:=4) (by decide) (show nth y.cells 4=some (.int .i64 (my:Int)) by rw [← hmy];rfl))) rfl rfl rfl .nil rfl ?_;refine va 9 rfl (Aa8 rfl) rfl rfl rfl .nil rfl ?_;refine va 10 rfl (Aa8 rfl) rfl rfl rfl .nil rfl ?_;refine va 11 rfl (Val.fieldAddr rfl An8) rfl rfl rfl .nil rfl ?_;refine va 12 rfl (Val.fieldAddr rfl Aq9) rfl rfl rfl .nil rfl ?_;refine va 13 rfl (Aa9 rfl hb (by simp) Bb5 rfl) rfl rfl rfl .nil rfl ?_;refine va 14 rfl (Aa8 rfl) rfl rfl rfl .nil rfl ?_;refine va 15 rfl (Aa6 rfl rfl AK2 (by omega) (by omega) (Sl.ptrM hP hi)) rfl rfl rfl .nil rfl ?_;refine va 16 rfl (Val.fieldAddr rfl Bd7) rfl rfl rfl .nil rfl ?_;refine va 17 rfl (Ab2 rfl (fun w hm=>Sl.cellX hP hm (by simp) Af4 hi hx (j:=4) (by decide) (show nth x.cells 4=some (.int .i64 (mx:Int)) by rw [← hmx];rfl))) rfl rfl rfl .nil rfl ?_;refine zt ?_;refine zo 18 rfl (Val.andNot (a:=my) (b:=mx) rfl rfl (by show _ < 2 ^ 64;omega) (by show _ < 2 ^ 64;omega) (Bd5 (by omega))) ?_;refine zp 19 ?_;refine zp 20 ?_;refine zd ?_;refine su ?_;exact Aa4 (.r1 rfl (.tmp rfl)) (by first | rfl | simp)
theorem BM5 (p:PsA) (hp:PV p.pl) (bp b2:Nat) (wy:List Int) (hw:WayV p.cards.l.length wy) (hr:roundX wy=false) (q:Option Addr) (b o c:Nat) (W:World) (hP:p.cards.ok Pt.cells 5 W) (hS:Sl W q b o 1 (wy.map intC)) (hb:W.heap[bp]? = some (plO p b2)) :
    Calls Tryz.prog 206 #[pV bp,.slice q wy.length c,.agg #[.func (.func 132) #[] #[],.int .i64 p.less.lo,.int .i64 p.less.hi]] W (Pure (.bool (canW false p.pl wy)) W):=by
  have hn5:p.cards.l.length≤5:=hp.n;have hwl:wy.length=p.cards.l.length:=hw.1;refine Aa2 Tryz.func206 rfl rfl ?_;refine csr ?_;refine Ac3 (New.box rfl) rfl rfl rfl (fun b3=>?_)
  refine Ac3 (New.box rfl) rfl rfl rfl (fun b4=>?_)
  refine Ac3 (New.box rfl) rfl rfl rfl (fun b5=>?_)
  refine vp rfl rfl rfl rfl ?_;refine nsr ?_;refine Ac3 (New.alloc BC5) rfl rfl rfl (fun b7=>?_)
  refine nsr ?_;refine vp rfl rfl rfl rfl ?_;refine Ab4 (Sto.store rfl rfl .here AN3 rfl rfl) rfl rfl ?_;refine nnx ?_;refine RunC.seq ?_;refine csr ?_;refine Aa0 (Aa1 rfl (.tail _ (.tail _ (.head _))) AH7 rfl) rfl rfl rfl ?_;refine Aa0 (Ad7 rfl Ao3) rfl rfl rfl ?_;refine vp rfl rfl rfl rfl ?_;refine nnx ?_;refine RunC.block ?_;refine Ad6 (wy.length) (fun k q=>(15,.int .i64 (k:Int))::q) (fun _=>_) (fun _=>[]) (fun k=>((List.range k).any fun (c:Nat)=>decide (wy.getD c (-1) = -1) && !(whatW false p.pl wy wy.length c).2)=false) rfl rfl (Ac8 (t:=15) rfl rfl (Sub.cons (t:=3) rfl (Sub.cons (t:=4) rfl (Sub.cons (t:=5) rfl (Sub.cons (t:=7) rfl (Sub.cons (t:=13) rfl (Sub.cons (t:=14) rfl (Sub.nil _)))))))) (.cons (.there (.there (.there .here))) rfl (.cons (.there (.there .here)) rfl (.cons (.there .here) rfl (.cons .here rfl .nil)))) ?_;intro k kN kI;refine csr ?_;refine vp rfl rfl rfl rfl ?_;refine nnx ?_;refine RunC.seq ?_;refine RunC.cond rfl ?_ ?_
  ·intro c0
   have c0':=c0;clear c0;try simp only [nH] at c0'
   have hk:k < wy.length:=by omega
   obtain ⟨y,hy⟩:∃ y,wy[k]=y:=⟨_,rfl⟩;have hyd:wy.getD k (-1)=y:=(Ai5 hk).trans hy;refine RunC.skip ?_;refine RunE.next ?_;refine RunC.seq ?_;refine RunC.block ?_;refine csr ?_;refine vp rfl rfl rfl rfl ?_;refine Aa0 (Aa6 rfl rfl Ao3 (by omega) (by omega) (Sl.ptrM hS hk)) rfl rfl rfl ?_;refine Aa0 (Ab2 rfl (fun w hm=>Sl.loadM1 hS (by decide) hm (by simp) Af4 hk (v:=.int .i64 y) (by simp [intC,hy]))) rfl rfl rfl ?_;refine vp rfl rfl rfl rfl ?_;refine vp rfl rfl rfl rfl ?_;refine nsr ?_;refine Aa0 (Aa1 rfl (.tail _ (.tail _ (.tail _ (.head _)))) AN3 rfl) rfl rfl rfl ?_;refine vp rfl rfl rfl rfl ?_;refine Ab1 (Ac1 rfl rfl AQ9) rfl rfl rfl (fun w hm=>Bz6 p hp bp b2 wy hw hr q b o c b5 b3 b4 b7 wy.length 0 k w (by omega) hk (by show (k:Int) ≠ -1;omega) (hP.mono0 (by decide) hm) (Sl.mono hS (by decide) hm (by simp)) (hm.old_at hb (by simp)) (hm.at (.tail _ (.tail _ (.head _)))) (hm.at (.head _)) (hm.at (.tail _ (.head _))) (hm.at (.tail _ (.tail _ (.tail _ (.head _)))))) ?_
   iterate 3 refine vp rfl rfl rfl rfl ?_
   refine Ac3 (New.alloc Ag0) rfl rfl rfl (fun b10=>?_)
   refine Ab4 (Sto.store rfl rfl .here Ah0 rfl rfl) rfl rfl ?_;refine vp rfl rfl rfl rfl ?_;refine nsr ?_
   iterate 3 refine vp rfl rfl rfl rfl ?_
   refine Ab3 (dj:=28) (dp:=31) 3 rfl (fun g28=>by
     have g28':=g28;try simp only [nH] at g28'
     iterate 3 refine vp rfl rfl rfl rfl ?_
     exact Af6 (Sub.cons rfl (Sub.skip rfl (Sub.skip rfl (Sub.skip rfl (Ai7 rfl (by rw [g28]) (Ad8 _)))))) (List.Sublist.refl _)
   ) (fun g28=>by
     have g28':=g28;try simp only [nH] at g28'
     refine Ac9 rfl rfl rfl ?_;refine Ac9 rfl rfl rfl ?_;refine vp rfl rfl rfl rfl ?_;exact Af6 (Sub.cons rfl (Sub.skip rfl (Sub.skip rfl (Sub.skip rfl (Ai7 rfl (by rw [g28]) (Ad8 _)))))) (List.Sublist.refl _)
   ) ?_
   refine nnx ?_;refine RunC.cond rfl ?_ ?_
   ·intro c1
    have c1':=c1;clear c1;try simp only [nH] at c1'
    have hyes:canW false p.pl wy=false:=by (unfold canW;rw [AM0 hk (by rw [hyd];simpa using c1')];rfl)
    refine csr ?_;refine vp rfl rfl rfl rfl ?_;refine nnx ?_;refine RunC.ret ?_;refine Ac5 ?_;refine Ab8 ?_;refine Ab8 ?_;refine Ac5 ?_;refine Ab8 ?_;exact Aa4 (.r1 rfl (.tmp rfl)) (by rw [hyes])
   intro c1;have c1':=c1;clear c1;try simp only [nH] at c1'
   have hno:(false || (decide (wy.getD k (-1) = -1) && !(whatW false p.pl wy wy.length k).2))=false:=by (rw [hyd];rcases c1' with h | h <;> simp [h])
   refine RunC.skip ?_;refine Ac0 ?_;refine RunE.next ?_;refine RunC.region ?_;refine Aa0 (Val.add rfl rfl (IntWalk.i64_in _ ⟨by omega,by omega⟩)) rfl rfl rfl ?_;refine vp rfl rfl rfl rfl ?_;refine RunL.nil ?_;exact Ad2 (by omega) (by rw [BH8,kI];exact hno) rfl (Ac8 (t:=15) rfl rfl (Sub.cons (t:=3) rfl (Sub.cons (t:=4) rfl (Sub.cons (t:=5) rfl (Sub.cons (t:=7) rfl (Sub.cons (t:=13) rfl (Sub.cons (t:=14) rfl (Sub.nil _)))))))) (.cons (.there .here) rfl (.cons (.there .here) rfl (.cons (.there .here) rfl (.cons (.there .here) rfl .nil))))
  intro c0;have c0':=c0;clear c0;try simp only [nH] at c0'
  obtain rfl:k=wy.length:=by omega
  refine RunC.exit ?_;refine Ac7 ?_;refine Ac7 ?_;refine Ab0 ?_;refine RunE.next ?_;refine csr ?_;refine vp rfl rfl rfl rfl ?_;refine nnx ?_;refine RunC.ret ?_;exact Aa4 (.r1 rfl (.tmp rfl)) (by unfold canW;rw [kI];rfl)
theorem BM4 (p:PsA) (hp:PV p.pl) (bp b2:Nat) (wy:List Int) (hw:WayV p.cards.l.length wy) (hr:roundX wy=false) (q:Option Addr) (b o c:Nat) (W:World) (hP:p.cards.ok Pt.cells 5 W) (hS:Sl W q b o 1 (wy.map intC)) (hb:W.heap[bp]? = some (plO p b2)) :
    Calls Tryz.prog 206 #[pV bp,.slice q wy.length c,.agg #[.func (.func 133) #[] #[],.int .i64 p.loss.lo,.int .i64 p.loss.hi]] W (Pure (.bool (canW true p.pl wy)) W):=by
  have hn5:p.cards.l.length≤5:=hp.n;have hwl:wy.length=p.cards.l.length:=hw.1;refine Aa2 Tryz.func206 rfl rfl ?_;refine csr ?_;refine Ac3 (New.box rfl) rfl rfl rfl (fun b3=>?_)
  refine Ac3 (New.box rfl) rfl rfl rfl (fun b4=>?_)
  refine Ac3 (New.box rfl) rfl rfl rfl (fun b5=>?_)
  refine vp rfl rfl rfl rfl ?_;refine nsr ?_;refine Ac3 (New.alloc BC5) rfl rfl rfl (fun b7=>?_)
  refine nsr ?_;refine vp rfl rfl rfl rfl ?_;refine Ab4 (Sto.store rfl rfl .here AN3 rfl rfl) rfl rfl ?_;refine nnx ?_;refine RunC.seq ?_;refine csr ?_;refine Aa0 (Aa1 rfl (.tail _ (.tail _ (.head _))) AH7 rfl) rfl rfl rfl ?_;refine Aa0 (Ad7 rfl Ao3) rfl rfl rfl ?_;refine vp rfl rfl rfl rfl ?_;refine nnx ?_;refine RunC.block ?_;refine Ad6 (wy.length) (fun k q=>(15,.int .i64 (k:Int))::q) (fun _=>_) (fun _=>[]) (fun k=>((List.range k).any fun (c:Nat)=>decide (wy.getD c (-1) = -1) && !(whatW true p.pl wy wy.length c).2)=false) rfl rfl (Ac8 (t:=15) rfl rfl (Sub.cons (t:=3) rfl (Sub.cons (t:=4) rfl (Sub.cons (t:=5) rfl (Sub.cons (t:=7) rfl (Sub.cons (t:=13) rfl (Sub.cons (t:=14) rfl (Sub.nil _)))))))) (.cons (.there (.there (.there .here))) rfl (.cons (.there (.there .here)) rfl (.cons (.there .here) rfl (.cons .here rfl .nil)))) ?_;intro k kN kI;refine csr ?_;refine vp rfl rfl rfl rfl ?_;refine nnx ?_;refine RunC.seq ?_;refine RunC.cond rfl ?_ ?_
  ·intro c0
   have c0':=c0;clear c0;try simp only [nH] at c0'
   have hk:k < wy.length:=by omega
   obtain ⟨y,hy⟩:∃ y,wy[k]=y:=⟨_,rfl⟩;have hyd:wy.getD k (-1)=y:=(Ai5 hk).trans hy;refine RunC.skip ?_;refine RunE.next ?_;refine RunC.seq ?_;refine RunC.block ?_;refine csr ?_;refine vp rfl rfl rfl rfl ?_;refine Aa0 (Aa6 rfl rfl Ao3 (by omega) (by omega) (Sl.ptrM hS hk)) rfl rfl rfl ?_;refine Aa0 (Ab2 rfl (fun w hm=>Sl.loadM1 hS (by decide) hm (by simp) Af4 hk (v:=.int .i64 y) (by simp [intC,hy]))) rfl rfl rfl ?_;refine vp rfl rfl rfl rfl ?_;refine vp rfl rfl rfl rfl ?_;refine nsr ?_;refine Aa0 (Aa1 rfl (.tail _ (.tail _ (.tail _ (.head _)))) AN3 rfl) rfl rfl rfl ?_;refine vp rfl rfl rfl rfl ?_;refine Ab1 (Ac1 rfl rfl AQ9) rfl rfl rfl (fun w hm=>Bz5 p hp bp b2 wy hw hr q b o c b5 b3 b4 b7 wy.length 0 k w (by omega) hk (by show (k:Int) ≠ -1;omega) (hP.mono0 (by decide) hm) (Sl.mono hS (by decide) hm (by simp)) (hm.old_at hb (by simp)) (hm.at (.tail _ (.tail _ (.head _)))) (hm.at (.head _)) (hm.at (.tail _ (.head _))) (hm.at (.tail _ (.tail _ (.tail _ (.head _)))))) ?_
   iterate 3 refine vp rfl rfl rfl rfl ?_
   refine Ac3 (New.alloc Ag0) rfl rfl rfl (fun b10=>?_)
   refine Ab4 (Sto.store rfl rfl .here Ah0 rfl rfl) rfl rfl ?_;refine vp rfl rfl rfl rfl ?_;refine nsr ?_
   iterate 3 refine vp rfl rfl rfl rfl ?_
   refine Ab3 (dj:=28) (dp:=31) 3 rfl (fun g28=>by
     have g28':=g28;try simp only [nH] at g28'
     iterate 3 refine vp rfl rfl rfl rfl ?_
     exact Af6 (Sub.cons rfl (Sub.skip rfl (Sub.skip rfl (Sub.skip rfl (Ai7 rfl (by rw [g28]) (Ad8 _)))))) (List.Sublist.refl _)
   ) (fun g28=>by
     have g28':=g28;try simp only [nH] at g28'
     refine Ac9 rfl rfl rfl ?_;refine Ac9 rfl rfl rfl ?_;refine vp rfl rfl rfl rfl ?_;exact Af6 (Sub.cons rfl (Sub.skip rfl (Sub.skip rfl (Sub.skip rfl (Ai7 rfl (by rw [g28]) (Ad8 _)))))) (List.Sublist.refl _)
   ) ?_
   refine nnx ?_;refine RunC.cond rfl ?_ ?_
   ·intro c1
    have c1':=c1;clear c1;try simp only [nH] at c1'
    have hyes:canW true p.pl wy=false:=by (unfold canW;rw [AM0 hk (by rw [hyd];simpa using c1')];rfl)
    refine csr ?_;refine vp rfl rfl rfl rfl ?_;refine nnx ?_;refine RunC.ret ?_;refine Ac5 ?_;refine Ab8 ?_;refine Ab8 ?_;refine Ac5 ?_;refine Ab8 ?_;exact Aa4 (.r1 rfl (.tmp rfl)) (by rw [hyes])
   intro c1;have c1':=c1;clear c1;try simp only [nH] at c1'
   have hno:(false || (decide (wy.getD k (-1) = -1) && !(whatW true p.pl wy wy.length k).2))=false:=by (rw [hyd];rcases c1' with h | h <;> simp [h])
   refine RunC.skip ?_;refine Ac0 ?_;refine RunE.next ?_;refine RunC.region ?_;refine Aa0 (Val.add rfl rfl (IntWalk.i64_in _ ⟨by omega,by omega⟩)) rfl rfl rfl ?_;refine vp rfl rfl rfl rfl ?_;refine RunL.nil ?_;exact Ad2 (by omega) (by rw [BH8,kI];exact hno) rfl (Ac8 (t:=15) rfl rfl (Sub.cons (t:=3) rfl (Sub.cons (t:=4) rfl (Sub.cons (t:=5) rfl (Sub.cons (t:=7) rfl (Sub.cons (t:=13) rfl (Sub.cons (t:=14) rfl (Sub.nil _)))))))) (.cons (.there .here) rfl (.cons (.there .here) rfl (.cons (.there .here) rfl (.cons (.there .here) rfl .nil))))
  intro c0;have c0':=c0;clear c0;try simp only [nH] at c0'
  obtain rfl:k=wy.length:=by omega
  refine RunC.exit ?_;refine Ac7 ?_;refine Ac7 ?_;refine Ab0 ?_;refine RunE.next ?_;refine csr ?_;refine vp rfl rfl rfl rfl ?_;refine nnx ?_;refine RunC.ret ?_;exact Aa4 (.r1 rfl (.tmp rfl)) (by unfold canW;rw [kI];rfl)
end Go.Proofs.YtmkdbdbenfbkhaaGreatDoor
namespace Go.Wk
open Go Go.Eng Go.RowKit Go.Bk
def lsF (nx:Bool):FuncId:=if nx then 133 else 132
def lsC (p:PsA) (nx:Bool):List Value:=[.func (.func (lsF nx)) #[] #[],.int .i64 (byP nx p.pl).lo,.int .i64 (byP nx p.pl).hi]
def isP (p:Ps) (w:List Int):Bool:=!((List.range w.length).any fun (c:Nat)=>!decide (w.getD c (-1) = -1) && !markP p c (w.getD c (-1)).toNat) && (!roundX w && !([false,true].any fun nx=>!canW nx p w))
end Go.Wk
namespace Go.Proofs.YtmkdbdbenfbkhaaGreatDoor
open Go Go.Eng Go.Bk Go.Wk
theorem Bo9 (pp:PsA) (l:List Bool) (q:Option Addr) (b o c:Nat) (gf:FuncId) (cap:Array Value) (p:Bool→Bool) (W:World) (hS:Sl W q b o 3 (l.map (lsC pp))) (hl:l.length≤1000000000) (he:Enters Tryz.prog gf) (hf:∀ i (h:i < l.length) w,Mem W [] [] w→Calls Tryz.prog gf ([(.agg (lsC pp l[i]).toArray:Value)]++cap.toList).toArray w (Pure (.bool (p l[i])) w)) :
    Calls Tryz.prog 237 #[.slice q l.length c,.func (.func gf) #[] cap] W (Pure (.int .i64 (idxP p l)) W):=by
  refine Aa2 Tryz.func237 rfl rfl ?_;refine su ?_;refine Ad6 (l.length) (fun k q=>(8,.int .i64 (k:Int))::q) (fun _=>_) (fun _=>[]) (fun k=>∀ j (h:j < l.length),j < k→p l[j]=false) (fun j _ h=>absurd h (by omega)) rfl (zE 8 rfl rfl (zS 0 rfl (zS 1 rfl (zS 7 rfl (Sub.nil _))))) .nil ?_;intro k kN kI;refine st ?_;refine cn rfl ?_ ?_
  ·intro c0'
   have hk:k < l.length:=by omega
   obtain ⟨x,hx⟩:∃ x,l[k]=x:=⟨_,rfl⟩;refine st ?_;refine lv (Aa6 rfl rfl BS6 (by omega) (by omega) (hS.ptrM hk)) ?_;refine lv (Ab2 rfl (fun w hm=>hS.loadX (by decide) hm (by simp) Cr7 hk hx)) ?_;refine Ab1 (Ac1 rfl rfl he) rfl rfl rfl (fun w hm=>hx ▸ hf k hk w hm) ?_;refine st ?_;refine cn rfl ?_ ?_
   ·intro c1'
    refine su ?_;exact Aa4 (.r1 rfl (.tmp rfl)) (by rw [Ar9 hk (by rw [hx];exact c1') kI])
   intro c1';refine st ?_;refine lv (Val.add rfl rfl (IntWalk.i64_in _ ⟨by omega,by omega⟩)) ?_;exact Ad2 (by omega) (fun j h h1=>by (rcases Nat.lt_or_ge j k with h4 | h4;exact kI j h h4;have e:j=k:=(by omega);subst e;rw [hx];exact c1')) rfl (zE 8 rfl rfl (zS 0 rfl (zS 1 rfl (zS 7 rfl (Sub.nil _))))) .nil
  intro c0';obtain rfl:k=l.length:=by omega
  refine RunC.exit ?_;refine su ?_;refine Ab0 ?_;refine su ?_;exact Aa4 (.r1 rfl (.tmp rfl)) (by rw [Ar8 (fun j hj=>kI j hj hj)])
theorem Br5 (pp:PsA) (l:List Bool) (q:Option Addr) (b o c:Nat) (gf:FuncId) (cap:Array Value) (p:Bool→Bool) (W:World) (hS:Sl W q b o 3 (l.map (lsC pp))) (hl:l.length≤1000000000) (he:Enters Tryz.prog gf) (hf:∀ i (h:i < l.length) w,Mem W [] [] w→Calls Tryz.prog gf ([(.agg (lsC pp l[i]).toArray:Value)]++cap.toList).toArray w (Pure (.bool (p l[i])) w)) :
    Calls Tryz.prog 204 #[.slice q l.length c,.func (.func gf) #[] cap] W (Pure (.bool (l.any p)) W):=by
  refine Aa2 Tryz.func204 rfl rfl ?_;refine st ?_;refine zc (zF rfl CA4) (fun w hm=>Bo9 pp l q b o c gf cap p w (Sl.mono hS (by decide) hm (by simp)) hl he (fun i h w2 h2=>hf i h w2 (hm.pass h2))) ?_;exact Aa4 (.r1 rfl (.tmp rfl)) (by rw [← At6])
theorem AR3 (p:PsA) (hp:PV p.pl) (bp b2:Nat) (i:Nat) (y:Int) (hi:i < p.cards.l.length) (hy:0≤y∧y < p.cards.l.length) (W:World) (hP:p.cards.ok Pt.cells 5 W) (hb:W.heap[bp]? = some (plO p b2)):Calls Tryz.prog 202 #[pV bp,.int .i64 (i:Int),.int .i64 y] W (Pure (.bool (markP p.pl i y.toNat)) W):=by
  obtain ⟨u,rfl⟩:=Int.eq_ofNat_of_zero_le hy.1;exact AU5 p hp bp b2 i u hi (by omega) W hP hb
section
variable (p:PsA) (hp:PV p.pl) (bp bl:Nat) (wy:List Int) (hw:WayV p.cards.l.length wy) (q:Option Addr) (b o c:Nat) (W:World) (hP:p.cards.ok Pt.cells 5 W) (hS:Sl W q b o 1 (wy.map intC)) (hb:W.heap[bp]? = some (plO p bl))
include hp hw hP hS hb
theorem Ce7 (hr:roundX wy=false) (nx:Bool):Calls Tryz.prog 206 #[pV bp,.slice q wy.length c,.agg (lsC p nx).toArray] W (Pure (.bool (canW nx p.pl wy)) W):=by
  cases nx
  · exact BM5 p hp bp bl wy hw hr q b o c W hP hS hb
  · exact BM4 p hp bp bl wy hw hr q b o c W hP hS hb
theorem Bz7 (hr:roundX wy=false) (nx:Bool) (y2 y3:Nat) (h2:W.heap[y2]? = some (y3O bp)) (h3:W.heap[y3]? = some (y4O q wy.length c)):Calls Tryz.prog 205 #[.agg (lsC p nx).toArray,pV y2,pV y3] W (Pure (.bool (!canW nx p.pl wy)) W):=by
  refine Aa2 Tryz.func205 rfl rfl ?_;refine st ?_;refine zn (New.box rfl) (fun b3=>?_)
  refine lv (Aa9 rfl h2 (by simp) At8 rfl) ?_;refine lu (Aa9 rfl h3 (by simp) AH7 rfl) ?_;refine zc (zF rfl CB8) (fun w hm=>Ce7 p hp bp bl wy hw q b o c w (hP.mono0 (by decide) hm) (Sl.mono hS (by decide) hm (by simp)) (hm.old_at hb (by simp)) hr nx) ?_;exact Aa4 (.r1 rfl (.tmp rfl)) (by first | rfl | simp)
-- Cb7
theorem AG7 (hb2:W.heap[bl]? = some (lsO p)):Calls Tryz.prog 136 #[pV bp,.slice q wy.length c] W (Pure (.bool (isP p.pl wy)) W):=by
  have hn5:p.cards.l.length≤5:=hp.n;have hwl:wy.length=p.cards.l.length:=hw.1;refine Aa2 Tryz.func136 rfl rfl ?_;refine csr ?_;refine Ac3 (New.box rfl) rfl rfl rfl (fun b2=>?_)
  refine Ac3 (New.box rfl) rfl rfl rfl (fun b3=>?_)
  refine vp rfl rfl rfl rfl ?_;refine nnx ?_;refine RunC.seq ?_;refine csr ?_;refine Aa0 (Aa1 rfl (.head _) AH7 rfl) rfl rfl rfl ?_;refine Aa0 (Ad7 rfl Ao3) rfl rfl rfl ?_;refine vp rfl rfl rfl rfl ?_;refine nnx ?_;refine RunC.block ?_;refine Ad6 (wy.length) (fun k q=>(9,.int .i64 (k:Int))::q) (fun _=>_) (fun _=>[]) (fun k=>((List.range k).any fun (c:Nat)=>!decide (wy.getD c (-1) = -1) && !markP p.pl c (wy.getD c (-1)).toNat)=false) rfl rfl (Ac8 (t:=9) rfl rfl (Sub.cons (t:=2) rfl (Sub.cons (t:=3) rfl (Sub.cons (t:=7) rfl (Sub.cons (t:=8) rfl (Sub.nil _)))))) (.cons .here rfl (.cons .here rfl .nil)) ?_;intro k kN kI;refine csr ?_;refine vp rfl rfl rfl rfl ?_;refine nnx ?_;refine RunC.seq ?_;refine RunC.cond rfl ?_ ?_
  ·intro c0
   have c0':=c0;clear c0;try simp only [nH] at c0'
   have hk:k < wy.length:=by omega
   obtain ⟨y,hy⟩:∃ y,wy[k]=y:=⟨_,rfl⟩;have hyd:wy.getD k (-1)=y:=(Ai5 hk).trans hy;have hyr:=hw.2 y (hy ▸ List.getElem_mem hk);refine RunC.skip ?_;refine RunE.next ?_;refine RunC.seq ?_;refine RunC.block ?_;refine csr ?_;refine vp rfl rfl rfl rfl ?_;refine Aa0 (Aa6 rfl rfl Ao3 (by omega) (by omega) (Sl.ptrM hS hk)) rfl rfl rfl ?_;refine Aa0 (Ab2 rfl (fun w hm=>Sl.loadM1 hS (by decide) hm (by simp) Af4 hk (v:=.int .i64 y) (by simp [intC,hy]))) rfl rfl rfl ?_;refine vp rfl rfl rfl rfl ?_;refine vp rfl rfl rfl rfl ?_;refine nsr ?_
   iterate 3 refine vp rfl rfl rfl rfl ?_
   refine Ab3 (dj:=16) (dp:=22) 6 rfl (fun g16=>by
     have g16':=g16;try simp only [nH] at g16'
     refine Aa0 (Aa1 rfl (.tail _ (.head _)) At8 rfl) rfl rfl rfl ?_;refine vp rfl rfl rfl rfl ?_;refine vp rfl rfl rfl rfl ?_;refine Ab1 (Ab7 rfl CC1) rfl rfl rfl (fun w hm=>AR3 p hp bp bl k y (by omega) (by have hne:y ≠ -1:=(by simpa using g16);omega) w (hP.mono0 (by decide) hm) (hm.old_at hb (by simp))) ?_;refine vp rfl rfl rfl rfl ?_;refine vp rfl rfl rfl rfl ?_;exact Af6 (Sub.cons rfl (Sub.skip rfl (Sub.skip rfl (Sub.skip rfl (Sub.skip rfl (Sub.skip rfl (Sub.skip rfl (Ai7 rfl (by rw [g16]) (Ad8 _))))))))) (List.Sublist.refl _)
   ) (fun g16=>by
     have g16':=g16;try simp only [nH] at g16'
     iterate 5 refine Ac9 rfl rfl rfl ?_
     refine vp rfl rfl rfl rfl ?_;exact Af6 (Sub.cons rfl (Sub.skip rfl (Sub.skip rfl (Sub.skip rfl (Sub.skip rfl (Sub.skip rfl (Sub.skip rfl (Ai7 rfl (by rw [g16]) (Ad8 _))))))))) (List.Sublist.refl _)
   ) ?_
   refine nnx ?_;refine RunC.cond rfl ?_ ?_
   ·intro c1
    have c1':=c1;clear c1;try simp only [nH] at c1'
    have hyes:((List.range wy.length).any fun (c:Nat)=>!decide (wy.getD c (-1) = -1) && !markP p.pl c (wy.getD c (-1)).toNat)=true:=AM0 hk (by rw [hyd];simpa using c1');refine csr ?_;refine vp rfl rfl rfl rfl ?_;refine nnx ?_;refine RunC.ret ?_;refine Ac5 ?_;refine Ab8 ?_;refine Ab8 ?_;refine Ac5 ?_;refine Ab8 ?_;exact Aa4 (.r1 rfl (.tmp rfl)) (by unfold isP;rw [hyes];rfl)
   intro c1;have c1':=c1;clear c1;try simp only [nH] at c1'
   refine RunC.skip ?_;refine Ac0 ?_;refine RunE.next ?_;refine RunC.region ?_;refine Aa0 (Val.add rfl rfl (IntWalk.i64_in _ ⟨by omega,by omega⟩)) rfl rfl rfl ?_;refine vp rfl rfl rfl rfl ?_;refine RunL.nil ?_;exact Ad2 (by omega) (by rw [BH8,kI,hyd];have h9:=c1';simp only [Bool.false_or,Bool.and_eq_false_iff];simp at h9 ⊢;exact h9) rfl (Ac8 (t:=9) rfl rfl (Sub.cons (t:=2) rfl (Sub.cons (t:=3) rfl (Sub.cons (t:=7) rfl (Sub.cons (t:=8) rfl (Sub.nil _)))))) (.cons .here rfl (.cons .here rfl .nil))
  intro c0;have c0':=c0;clear c0;try simp only [nH] at c0'
  obtain rfl:k=wy.length:=by omega
  refine RunC.exit ?_;refine Ac7 ?_;refine Ac7 ?_;refine Ab0 ?_;refine RunE.next ?_;refine csr ?_;refine Aa0 (Aa1 rfl (.head _) AH7 rfl) rfl rfl rfl ?_;refine Ab1 (Ab7 rfl CC0) rfl rfl rfl (fun w hm=>Bf2 p.cards.l.length hn5 wy hw q b o c w (Sl.mono hS (by decide) hm (by simp))) ?_;refine vp rfl rfl rfl rfl ?_;refine vp rfl rfl rfl rfl ?_
  refine Ab3 (dj:=27) (dp:=35) 8 rfl (fun g27=>by
    have g27':=g27;try simp only [nH] at g27'
    have hrf:roundX wy=false:=by simpa using g27
    refine Aa0 (Aa1 rfl (.tail _ (.head _)) At8 rfl) rfl rfl rfl ?_;refine vp rfl rfl rfl rfl ?_;refine Aa0 (Val.fieldAddr rfl Bp6) rfl rfl rfl ?_;refine Aa0 (Aa9 rfl hb (by simp) Cr6 rfl) rfl rfl rfl ?_;refine vp rfl rfl rfl rfl ?_;refine Ab1 (Ab7 rfl CB9) rfl rfl rfl (fun w hm=>Br5 p [false,true] (some ⟨bl,0,none⟩) bl 0 2 205 #[pV b2,pV b3] (fun nx=>!canW nx p.pl wy) w (Sl.rows (xs:=[false,true].map (lsC p)) (hm.old_at hb2 (by simp)) (by simp [lsC])) (by decide) Cb7 (fun i h w2 h2=>Bz7 p hp bp bl wy hw q b o c w2 (hP.mono0 (by decide) (hm.pass h2)) (Sl.mono hS (by decide) (hm.pass h2) (by simp)) ((hm.pass h2).old_at hb (by simp)) hrf _ b2 b3 (h2.old_at (hm.at (.tail _ (.head _))) (by simp)) (h2.old_at (hm.at (.head _)) (by simp)))) ?_;refine vp rfl rfl rfl rfl ?_;refine vp rfl rfl rfl rfl ?_;exact Af6 (Sub.cons rfl (Sub.skip rfl (Sub.skip rfl (Sub.skip rfl (Sub.skip rfl (Sub.skip rfl (Sub.skip rfl (Sub.skip rfl (Sub.skip rfl (Ai7 rfl (by rw [g27]) (Ad8 _))))))))))) (List.Sublist.refl _)
  ) (fun g27=>by
    have g27':=g27;try simp only [nH] at g27'
    iterate 7 refine Ac9 rfl rfl rfl ?_
    refine vp rfl rfl rfl rfl ?_;exact Af6 (Sub.cons rfl (Sub.skip rfl (Sub.skip rfl (Sub.skip rfl (Sub.skip rfl (Sub.skip rfl (Sub.skip rfl (Sub.skip rfl (Sub.skip rfl (Ai7 rfl (by rw [g27]) (Ad8 _))))))))))) (List.Sublist.refl _)
  ) ?_
  refine vp rfl rfl rfl rfl ?_;refine nnx ?_;refine RunC.ret ?_;exact Aa4 (.r1 rfl (.tmp rfl)) (by unfold isP;rw [kI];rfl)
end
end Go.Proofs.YtmkdbdbenfbkhaaGreatDoor
namespace Go.Wk
open Go Go.Eng Go.RowKit Go.Bk
abbrev OI (l:List Int):={ z:Eng.Own // OwnOk 1 z l.length (l.map intC).flatten }
theorem Cz4 (l:List Int):(l.map intC).flatten.length=l.length * 1:=AE8 (f:=intC) (sz:=1) (fun _=>rfl) l
theorem Cn7 (l:List Int) (v:Int):(l.map intC).flatten++intC v=((l++[v]).map intC).flatten:=by simp [intC]
abbrev Ei:=List Int×Eng.Own
abbrev encI (x:Ei):List Value:=[ownV x.2 x.1.length]
abbrev ebI (T:TypeId) (x:Ei):Blks:=ownB T x.2 (x.1.map intC).flatten
def SpI (n:Nat) (total:List (List Int)) (xs:List Ei):Prop:=∀ x∈xs,x.1∈total∧WayV n x.1∧OwnOk 1 x.2 x.1.length (x.1.map intC).flatten
theorem SpI.snoc {n:Nat} {total:List (List Int)} {xs:List Ei} (h:SpI n total xs) {x:Ei} (h1:x.1∈total) (h2:WayV n x.1) (h3:OwnOk 1 x.2 x.1.length (x.1.map intC).flatten):SpI n total (xs++[x]):=fun y hy=>by
  rcases List.mem_append.1 hy with hy | hy
  · exact h y hy
  · rw [List.mem_singleton.1 hy];exact ⟨h1,h2,h3⟩
def waysX (p:Ps) (n:Nat):Nat→List Int→List (List Int)
  | 0,l=>if isP p l=true then [l] else []
  | f + 1,l=>(List.range (n + 1)).flatMap fun (k:Nat)=>if (k:Int) - 1=(l.length:Int) then [] else waysX p n f (l++[(k:Int) - 1])
def nextY (p:Ps) (n f:Nat) (l:List Int) (k:Nat):List (List Int):=if (k:Int) - 1=(l.length:Int) then [] else waysX p n f (l++[(k:Int) - 1])
theorem Cr3 {p:Ps} {n f:Nat} {l:List Int}:waysX p n (f + 1) l=(List.range (n + 1)).flatMap (nextY p n f l):=rfl
def restY (p:Ps) (n f:Nat) (l:List Int) (k:Nat):List (List Int):=((List.range (n + 1)).drop k).flatMap (nextY p n f l)
def doneY (p:Ps) (n f:Nat) (l:List Int) (k:Nat):List (List Int):=((List.range (n + 1)).take k).flatMap (nextY p n f l)
theorem Ce4 {p:Ps} {n f:Nat} {l:List Int} {k:Nat} (hk:k < n + 1):doneY p n f l (k + 1)=doneY p n f l k++nextY p n f l k:=by
  unfold doneY;rw [List.take_succ_eq_append_getElem (by rw [List.length_range];exact hk),List.flatMap_append,List.getElem_range];simp
theorem Ce5 {p:Ps} {n f:Nat} {l:List Int}:doneY p n f l (n + 1)=(List.range (n + 1)).flatMap (nextY p n f l):=by
  unfold doneY;rw [List.take_of_length_le (by rw [List.length_range];exact Nat.le_refl _)]
theorem Cw3 {p:Ps} {n f:Nat} {l:List Int} {k:Nat} (hk:k < n + 1):(List.range (n + 1)).flatMap (nextY p n f l)=doneY p n f l k++(nextY p n f l k++restY p n f l (k + 1)):=by
  unfold doneY restY
  conv=>lhs;rw [← List.take_append_drop k (List.range (n + 1)),List.drop_eq_getElem_cons (by rw [List.length_range];exact hk)]
  rw [List.flatMap_append,List.flatMap_cons,List.getElem_range]
end Go.Wk
namespace Go.Proofs.YtmkdbdbenfbkhaaGreatDoor
open Go Go.Eng Go.Bk Go.Wk
theorem An0 (l:List Int) (hl:l.length≤1000) (q:Option Addr) (b o cap:Nat) (W:World) (hS:Sl W q b o 1 (l.map intC)) (hq0:q=none→l.length=0∧cap=0):Calls Tryz.prog 137 #[.slice q l.length cap] W (News (fun z:OI l=>ownV z.1 l.length) (fun z=>ownB 3 z.1 (l.map intC).flatten++[]) W):=by
  cases q with
  | none =>
    obtain ⟨h1,rfl⟩:=hq0 rfl;have h0:l=[]:=List.length_eq_zero_iff.1 h1;subst h0;refine Aa2 Tryz.func137 rfl rfl ?_;refine st ?_;refine lv (Aw1 rfl BS3) ?_;refine RunC.cond rfl ?_ (fun h=>absurd h (by simp))
    intro c0;clear c0;refine su ?_;exact RunE.ret (chg:=[]) (.r1 rfl (.tmp rfl)) (fun _ hm=>⟨⟨none,OwnOk.start⟩,rfl,hm⟩)
  | some a =>
    refine Aa2 Tryz.func137 rfl rfl ?_;refine st ?_;refine lv (Ax4 rfl BS3) ?_;refine RunC.cond rfl (fun h=>absurd h (by simp)) ?_;intro c0;clear c0;refine st ?_;refine zn (As4 Ao3) (fun b5=>?_)
    refine RunL.append (A:=[]) (B:=_) (x:=(some (b5,0,[]))) (ys:=(l.map intC).flatten) Cv6 rfl rfl rfl OwnOk.empty (Cz4 l) (fun h=>by cases h) (fun w hm=>(Sl.mono hS (by decide) hm (by simp)).flat (by decide)) (AL4 (f:=intC) (fun _=>rfl) l) (by simp only [maxLen];omega) (by omega) rfl (fun z7 hz7=>?_)
    refine su ?_;exact RunE.ret (chg:=[]) (.r1 rfl (.tmp rfl)) (fun _ hm=>⟨⟨z7,by simpa using hz7⟩,by simp,hm.pick (Pick.refl _)⟩)
end Go.Proofs.YtmkdbdbenfbkhaaGreatDoor
namespace Go.Proofs.YtmkdbdbenfbkhaaGreatDoor
open Go Go.Eng Go.Bk Go.Wk
abbrev cyO (l:Nat):Obj:=.cells [Value.func (.yield l) #[] #[]].toArray 244 (0,0)
abbrev coO (x1 x2 x3:Nat):Obj:=.cells [Value.func (.func 135) #[] #[pV x1,pV x2,pV x3]].toArray 244 (0,0)
def YldI {X:Type} (n:Nat) (total:List (List Int)) (l:Nat) (U:X→Blks) (I:List Ei→X→Prop) (Ix:X→Prop) (Ip:List PanicEntry→X→Prop) (W0:World):Prop :=
  ∀ pre v x tl w1,I pre x→SpI n total (pre++[v])→pre.length < total.length→Mem W0 [] (ebI 3 v++(U x++tl)) w1→YieldAt (Fr none) 8 Tryz.prog l (encI v).toArray w1 fun e w'=>∃ x',Mem W0 [] (U x'++tl) w'∧((e = .returned (.bool true)∧I (pre++[v]) x')∨(e = .returned (.bool false)∧Ix x')∨(∃ c,e = .panicked c∧Ip c x'))
set_option maxHeartbeats 1000000 in
theorem Cw4 {X:Type} (p:PsA) (hp:PV p.pl) (bp bl:Nat) (W0:World) (hP:p.cards.ok Pt.cells 5 W0) (total:List (List Int)) (yl:Nat) (U:X→Blks) (I:List Ei→X→Prop) (Ix:X→Prop) (Ip:List PanicEntry→X→Prop) (hy:YldI p.cards.l.length total yl (fun x=>(bp,plO p bl)::(bl,lsO p)::U x) I Ix Ip W0) (x1 x2 x3:Nat) (f:Nat) (hf0:f=0) (ord:List Int) (pre:List Ei) (x:X) (rest:Blks) (w0:World) (z:Eng.Own) (post:List (List Int)) (hord:WayV p.cards.l.length ord) (hI:I pre x) (hsp:SpI p.cards.l.length total pre) (htot:pre.map (·.1)++(waysX p.pl p.cards.l.length f ord++post)=total) (hz:OwnOk 1 z ord.length (ord.map intC).flatten)
    (hm0:Mem W0 [] ((bp,plO p bl)::(bl,lsO p)::(x1,y3O bp)::(x2,cyO yl)::(x3,coO x1 x2 x3)::(U x++(ownB 3 z ((ord).map intC).flatten++rest))) w0):Calls Tryz.prog 135 #[ownV z ord.length,pV x1,pV x2,pV x3] w0 (GrowQ W0 [] (fun y:Bool×(List Ei×X)×Eng.Own=>.bool y.1) (fun y=>(bp,plO p bl)::(bl,lsO p)::(x1,y3O bp)::(x2,cyO yl)::(x3,coO x1 x2 x3)::(U y.2.1.2++(ownB 3 y.2.2 ((ord).map intC).flatten++rest))) (fun y=>SameB z y.2.2∧OwnOk 1 y.2.2 ord.length (ord.map intC).flatten∧((y.1=true∧I y.2.1.1 y.2.1.2∧SpI p.cards.l.length total y.2.1.1∧y.2.1.1.map (·.1)=pre.map (·.1)++waysX p.pl p.cards.l.length f ord)∨(y.1=false∧Ix y.2.1.2))) (fun q:List PanicEntry×X=>q.1) (fun q=>(bp,plO p bl)::(bl,lsO p)::(x1,y3O bp)::(x2,cyO yl)::(x3,coO x1 x2 x3)::(U q.2++rest)) (fun q=>Ip q.1 q.2)):=by
  have hn5:p.cards.l.length≤5:=hp.n;have hlen:=hord.1;subst hf0;have hm1:Mem W0 [] ((bp,plO p bl)::(bl,lsO p)::(x1,y3O bp)::(x2,cyO yl)::(x3,coO x1 x2 x3)::(U x++(ownB 3 z ((ord).map intC).flatten++(rest++[])))) w0:=by rw [List.append_nil];exact hm0
  cases hcan:isP p.pl ord with
  | false =>
    have hw0:waysX p.pl p.cards.l.length 0 ord=[]:=by unfold waysX;rw [if_neg (by rw [hcan];decide)]
    rw [hw0];refine Af0 hm1 Tryz.func135 rfl rfl ?_;refine csr ?_;refine vp rfl rfl rfl rfl ?_;refine nnx ?_;refine RunC.seq ?_;refine csr ?_;refine vp rfl rfl rfl rfl ?_;refine Aa0 (Am7 rfl Ao3 hz) rfl rfl rfl ?_;refine Aa0 (Aa1 rfl (.tail _ (.tail _ (.head _))) At8 rfl) rfl rfl rfl ?_;refine vp rfl rfl rfl rfl ?_;refine Aa0 (Val.fieldAddr rfl An8) rfl rfl rfl ?_;refine Aa0 (Val.fieldAddr rfl Aq9) rfl rfl rfl ?_;refine Aa0 (Aa1 rfl (.head _) Bb5 rfl) rfl rfl rfl ?_;refine Aa0 (Ad7 rfl AK2) rfl rfl rfl ?_;refine vp rfl rfl rfl rfl ?_;refine nnx ?_;refine RunC.cond rfl ?_ (fun h=>absurd h (by simp;omega))
    intro c0;clear c0;refine RunC.seq ?_;refine Ae9 8 As5 (.cons .here rfl (.cons .here rfl (.cons .here rfl (.cons .here rfl (.cons .here rfl .nil))))) ?_;refine va 0 rfl (Aa1 rfl (.tail _ (.tail _ (.head _))) At8 rfl) rfl rfl rfl (.cons .here rfl (.cons .here rfl (.cons .here rfl (.cons .here rfl (.cons .here rfl .nil))))) rfl ?_;refine va 1 rfl (Aa8 rfl) rfl rfl rfl (.cons .here rfl (.cons .here rfl (.cons .here rfl (.cons .here rfl (.cons .here rfl .nil))))) rfl ?_;refine RunA.one (i:=2) (by kernel_rfl) (by kernel_rfl) ?_;refine Ac4 rfl (Ab7 rfl Bz0) rfl rfl rfl (fun w hm=>(show Calls Tryz.prog 136 #[pV bp,ownV z ord.length] w (Pure (.bool false) w) from by rw [Ad5 hz];have h9:=AG7 p hp bp bl ord hord (ownQ z) (ownK z) 0 (ownC z) w (hP.mono0 (by decide) hm) (Ah1 (f:=intC) (fun _=>rfl) (by decide) hz (fun _ _ h=>hm.at (.tail _ (.tail _ (.tail _ (.tail _ (.tail _ ((by first | exact List.mem_append_right _ (List.mem_append_left _ h) | exact List.mem_append_right _ (List.mem_append_right _ (List.mem_append_left _ h))))))))))) (hm.at (.head _)) (hm.at (.tail _ (.head _)));rw [hcan] at h9;exact h9)) (Aa5 (.cons .here rfl (.cons .here rfl (.cons .here rfl (.cons .here rfl (.cons .here rfl .nil))))) (.cons .here rfl (.cons .here rfl (.cons .here rfl (.cons .here rfl (.cons .here rfl .nil))))) rfl ?_)
    refine va 3 rfl (Aa8 rfl) rfl rfl rfl (.cons .here rfl (.cons .here rfl (.cons .here rfl (.cons .here rfl (.cons .here rfl .nil))))) rfl ?_;refine va 4 rfl (Aa8 rfl) rfl rfl rfl (.cons .here rfl (.cons .here rfl (.cons .here rfl (.cons .here rfl (.cons .here rfl .nil))))) rfl ?_;refine Ay0 (dj:=20) true rfl rfl ?_;refine Ak0 (i:=5) rfl (by kernel_rfl) (by kernel_rfl) rfl rfl rfl (fun _ _ _ h=>h) (.cons .here rfl (.cons .here rfl (.cons .here rfl (.cons .here rfl (.cons .here rfl .nil))))) rfl ?_;refine Ak0 (i:=6) rfl (by kernel_rfl) (by kernel_rfl) rfl rfl rfl (fun _ _ _ h=>h) (.cons .here rfl (.cons .here rfl (.cons .here rfl (.cons .here rfl (.cons .here rfl .nil))))) rfl ?_;refine RunA.one (i:=7) (by kernel_rfl) (by kernel_rfl) ?_;refine Ac6 rfl rfl rfl rfl (Aa5 (.cons .here rfl (.cons .here rfl (.cons .here rfl (.cons .here rfl (.cons .here rfl .nil))))) (.cons .here rfl (.cons .here rfl (.cons .here rfl (.cons .here rfl (.cons .here rfl .nil))))) rfl ?_)
    refine Af3 (by kernel_rfl) ?_;refine RunB.one (i:=8) (by kernel_rfl) ?_;refine Ac6 rfl rfl rfl rfl (Ab5 ?_)
    refine RunB.one (i:=9) (by kernel_rfl) ?_;refine Ac2 rfl (Aa8 rfl) rfl rfl rfl (Ab5 ?_)
    refine RunB.one (i:=10) (by kernel_rfl) ?_;refine Ac2 rfl (Aa8 rfl) rfl rfl rfl (Ab5 ?_)
    refine RunB.done (by kernel_rfl) ?_;refine RunE.next ?_;refine RunC.ret ?_;refine Ab8 ?_;exact Ai3 ((true,(pre,x),z):Bool×(List Ei×X)×Eng.Own) ⟨SameB.rfl',hz,.inl ⟨rfl,hI,hsp,by simp⟩⟩ (.r1 rfl (.tmp rfl)) rfl (Pick.cnt fun x=>by simp only [nC];omega)
  | true =>
    have hw0:waysX p.pl p.cards.l.length 0 ord=[ord]:=by unfold waysX;rw [if_pos hcan]
    rw [hw0] at htot ⊢;have hmem:ord∈total:=by rw [← htot];simp
    have hlt:pre.length < total.length:=by rw [← htot];simp
    refine Af0 hm1 Tryz.func135 rfl rfl ?_;refine csr ?_;refine vp rfl rfl rfl rfl ?_;refine nnx ?_;refine RunC.seq ?_;refine csr ?_;refine vp rfl rfl rfl rfl ?_;refine Aa0 (Am7 rfl Ao3 hz) rfl rfl rfl ?_;refine Aa0 (Aa1 rfl (.tail _ (.tail _ (.head _))) At8 rfl) rfl rfl rfl ?_;refine vp rfl rfl rfl rfl ?_;refine Aa0 (Val.fieldAddr rfl An8) rfl rfl rfl ?_;refine Aa0 (Val.fieldAddr rfl Aq9) rfl rfl rfl ?_;refine Aa0 (Aa1 rfl (.head _) Bb5 rfl) rfl rfl rfl ?_;refine Aa0 (Ad7 rfl AK2) rfl rfl rfl ?_;refine vp rfl rfl rfl rfl ?_;refine nnx ?_;refine RunC.cond rfl ?_ (fun h=>absurd h (by simp;omega))
    intro c0;clear c0;refine RunC.seq ?_;refine Bh8 ?_;refine AS9 As5 ?_;refine RunAF.all (rs:=[0,1]) (by kernel_rfl) (by simp) (fun m hm=>?_)
    simp only [List.mem_cons,List.not_mem_nil,or_false] at hm
    rcases hm with rfl | rfl
    ·refine RunIF.of rfl ?_ (hlo:=(fun _ _ h=>by rcases h with ⟨_,_,h,_⟩ | ⟨_,_,h,_⟩ <;> cases h))
     refine Ac2 rfl (Aa1 rfl (.tail _ (.tail _ (.head _))) At8 rfl) rfl rfl rfl (Ab9 ?_)
     refine RunAF.one (i:=1) (by kernel_rfl) ?_;refine RunIF.of rfl ?_ (hlo:=(fun _ _ h=>by rcases h with ⟨_,_,h,_⟩ | ⟨_,_,h,_⟩ <;> cases h))
     refine Ac2 rfl (Aa8 rfl) rfl rfl rfl (Ab9 ?_)
     refine RunAF.one (i:=2) (by kernel_rfl) ?_;refine RunIF.of rfl ?_ (hlo:=(fun _ _ h=>by rcases h with ⟨_,_,h,_⟩ | ⟨_,_,h,_⟩ <;> cases h))
     refine Ac4 rfl (Ab7 rfl Bz0) rfl rfl rfl (fun w hm=>(show Calls Tryz.prog 136 #[pV bp,ownV z ord.length] w (Pure (.bool true) w) from by rw [Ad5 hz];have h9:=AG7 p hp bp bl ord hord (ownQ z) (ownK z) 0 (ownC z) w (hP.mono0 (by decide) hm) (Ah1 (f:=intC) (fun _=>rfl) (by decide) hz (fun _ _ h=>hm.at (.tail _ (.tail _ (.tail _ (.tail _ (.tail _ ((by first | exact List.mem_append_right _ (List.mem_append_left _ h) | exact List.mem_append_right _ (List.mem_append_right _ (List.mem_append_left _ h))))))))))) (hm.at (.head _)) (hm.at (.tail _ (.head _)));rw [hcan] at h9;exact h9)) (Ab9 ?_)
     refine RunAF.one (i:=3) (by kernel_rfl) ?_;refine RunIF.of rfl ?_ (hlo:=(fun _ _ h=>by rcases h with ⟨_,_,h,_⟩ | ⟨_,_,h,_⟩ <;> cases h))
     refine Ac2 rfl (Aa8 rfl) rfl rfl rfl (Ab9 ?_)
     refine RunAF.one (i:=4) (by kernel_rfl) ?_;refine RunIF.of rfl ?_ (hlo:=(fun _ _ h=>by rcases h with ⟨_,_,h,_⟩ | ⟨_,_,h,_⟩ <;> cases h))
     refine Ac2 rfl (Aa8 rfl) rfl rfl rfl (Ab9 ?_)
     refine RunAF.all (rs:=[5,6]) (by kernel_rfl) (by simp) (fun m hm=>?_)
     simp only [List.mem_cons,List.not_mem_nil,or_false] at hm
     rcases hm with rfl | rfl
     ·refine RunIF.of rfl ?_ (hlo:=(fun _ _ h=>by rcases h with ⟨_,_,h,_⟩ | ⟨_,_,h,_⟩ <;> cases h))
      refine Ac2 rfl (Aa1 rfl (.tail _ (.tail _ (.tail _ (.head _)))) AA2 rfl) rfl rfl rfl (Ab9 ?_)
      refine RunAF.one (i:=6) (by kernel_rfl) ?_;refine RunIF.of rfl ?_ (hlo:=(fun _ _ h=>by rcases h with ⟨_,_,h,_⟩ | ⟨_,_,h,_⟩ <;> cases h))
      refine Ac2 rfl (Aa8 rfl) rfl rfl rfl (Ab9 ?_)
      refine RunAF.one (i:=7) (by kernel_rfl) ?_;refine RunIF.of rfl ?_ (hlo:=(fun _ _ h=>by rcases h with ⟨_,_,h,_⟩ | ⟨_,_,h,_⟩ <;> cases h))
      refine Ae4 [(bp,_),(bl,_),(x1,_),(x2,_),(x3,_)] _ rfl rfl (Ab7 rfl AG6) rfl rfl rfl (fun w hm=>(by rw [Ad5 hz];exact An0 ord (by omega) (ownQ z) (ownK z) 0 (ownC z) w (Ah1 (f:=intC) (fun _=>rfl) (by decide) hz (fun _ _ h=>hm.at (.tail _ (.tail _ (.tail _ (.tail _ (.tail _ ((by first | exact List.mem_append_right _ (List.mem_append_left _ h) | exact List.mem_append_right _ (List.mem_append_right _ (List.mem_append_left _ h))))))))))) (Ap3 hz))) (fun z23=>(Ab9 ?_))
      obtain ⟨z23,hz23⟩:=z23;dsimp only;refine RunAF.one (i:=8) (by kernel_rfl) ?_;refine RunIF.yieldQ rfl (Ae2 rfl rfl) rfl rfl rfl (fun w hm=>(Ah6 (α:=Ei) (encs:=encI) (eb:=ebI 3) (U:=(fun x=>(bp,plO p bl)::(bl,lsO p)::U x)) (I:=I) (Ix:=Ix) (Ip:=Ip) (pre:=pre) (v:=(ord,z23)) (N':=fun x=>(bp,plO p bl)::(bl,lsO p)::(x1,y3O bp)::(x2,cyO yl)::(x3,coO x1 x2 x3)::(U x++(ownB 3 z ((ord).map intC).flatten++(rest++[])))) (tl:=(x1,y3O bp)::(x2,cyO yl)::(x3,coO x1 x2 x3)::(ownB 3 z ((ord).map intC).flatten++rest)) (fun x=>(Pick.cnt fun x=>by simp only [nC];omega)) (hy pre (ord,z23) x ((x1,y3O bp)::(x2,cyO yl)::(x3,coO x1 x2 x3)::(ownB 3 z ((ord).map intC).flatten++rest)) w hI (hsp.snoc hmem hord hz23) hlt (show Mem W0 [] (ownB 3 z23 ((ord).map intC).flatten++(((bp,plO p bl)::(bl,lsO p)::U x)++((x1,y3O bp)::(x2,cyO yl)::(x3,coO x1 x2 x3)::(ownB 3 z ((ord).map intC).flatten++rest)))) w from ((show Mem W0 [] ((bp,plO p bl)::(bl,lsO p)::(x1,y3O bp)::(x2,cyO yl)::(x3,coO x1 x2 x3)::(ownB 3 z23 ((ord).map intC).flatten++(U x++(ownB 3 z ((ord).map intC).flatten++(rest++[]))))) w from hm).pick (Pick.cnt fun x=>by simp only [nC];omega)))))) (fun p24 hp24=>?_) (fun z24 hz24=>(Ab9 ?_))
      ·refine Aa7 ?_
       refine Aa7 ?_;exact Al9 p24 hp24 rfl (Pick.cnt fun x=>by simp only [nC];omega)
      refine RunAF.one (i:=9) (by kernel_rfl) ?_;refine RunIF.of rfl ?_ (hlo:=(fun _ _ h=>by rcases h with ⟨_,_,h,_⟩ | ⟨_,_,h,_⟩ <;> cases h))
      refine Ac2 rfl (Aa8 rfl) rfl rfl rfl (Ab9 ?_)
      refine RunAF.one (i:=10) (by kernel_rfl) ?_;refine RunIF.of rfl ?_ (hlo:=(fun _ _ h=>by rcases h with ⟨_,_,h,_⟩ | ⟨_,_,h,_⟩ <;> cases h))
      refine Ac2 rfl (Aa8 rfl) rfl rfl rfl (Ab9 ?_)
      refine RunAF.done (by kernel_rfl) ?_;refine RunE.next ?_;refine RunC.ret ?_;refine Ab8 ?_;exact Ai3 ((z24.1,(pre++[(ord,z23)],z24.2),z):Bool×(List Ei×X)×Eng.Own) ⟨SameB.rfl',hz,hz24.imp (fun h=>⟨h.1,h.2,hsp.snoc hmem hord hz23,by simp⟩) id⟩ (.r1 rfl (.tmp rfl)) rfl (Pick.cnt fun x=>by simp only [nC];omega)
     refine RunIF.of rfl ?_ (hlo:=(fun _ _ h=>by rcases h with ⟨_,_,h,_⟩ | ⟨_,_,h,_⟩ <;> cases h))
     refine Ac2 rfl (Aa8 rfl) rfl rfl rfl (Ab9 ?_)
     refine RunAF.all (rs:=[5,7]) (by kernel_rfl) (by simp) (fun m hm=>?_)
     simp only [List.mem_cons,List.not_mem_nil,or_false] at hm
     rcases hm with rfl | rfl
     ·refine RunIF.of rfl ?_ (hlo:=(fun _ _ h=>by rcases h with ⟨_,_,h,_⟩ | ⟨_,_,h,_⟩ <;> cases h))
      refine Ac2 rfl (Aa1 rfl (.tail _ (.tail _ (.tail _ (.head _)))) AA2 rfl) rfl rfl rfl (Ab9 ?_)
      refine RunAF.one (i:=7) (by kernel_rfl) ?_;refine RunIF.of rfl ?_ (hlo:=(fun _ _ h=>by rcases h with ⟨_,_,h,_⟩ | ⟨_,_,h,_⟩ <;> cases h))
      refine Ae4 [(bp,_),(bl,_),(x1,_),(x2,_),(x3,_)] _ rfl rfl (Ab7 rfl AG6) rfl rfl rfl (fun w hm=>(by rw [Ad5 hz];exact An0 ord (by omega) (ownQ z) (ownK z) 0 (ownC z) w (Ah1 (f:=intC) (fun _=>rfl) (by decide) hz (fun _ _ h=>hm.at (.tail _ (.tail _ (.tail _ (.tail _ (.tail _ ((by first | exact List.mem_append_right _ (List.mem_append_left _ h) | exact List.mem_append_right _ (List.mem_append_right _ (List.mem_append_left _ h))))))))))) (Ap3 hz))) (fun z23=>(Ab9 ?_))
      obtain ⟨z23,hz23⟩:=z23;dsimp only;refine RunAF.one (i:=8) (by kernel_rfl) ?_;refine RunIF.yieldQ rfl (Ae2 rfl rfl) rfl rfl rfl (fun w hm=>(Ah6 (α:=Ei) (encs:=encI) (eb:=ebI 3) (U:=(fun x=>(bp,plO p bl)::(bl,lsO p)::U x)) (I:=I) (Ix:=Ix) (Ip:=Ip) (pre:=pre) (v:=(ord,z23)) (N':=fun x=>(bp,plO p bl)::(bl,lsO p)::(x1,y3O bp)::(x2,cyO yl)::(x3,coO x1 x2 x3)::(U x++(ownB 3 z ((ord).map intC).flatten++(rest++[])))) (tl:=(x1,y3O bp)::(x2,cyO yl)::(x3,coO x1 x2 x3)::(ownB 3 z ((ord).map intC).flatten++rest)) (fun x=>(Pick.cnt fun x=>by simp only [nC];omega)) (hy pre (ord,z23) x ((x1,y3O bp)::(x2,cyO yl)::(x3,coO x1 x2 x3)::(ownB 3 z ((ord).map intC).flatten++rest)) w hI (hsp.snoc hmem hord hz23) hlt (show Mem W0 [] (ownB 3 z23 ((ord).map intC).flatten++(((bp,plO p bl)::(bl,lsO p)::U x)++((x1,y3O bp)::(x2,cyO yl)::(x3,coO x1 x2 x3)::(ownB 3 z ((ord).map intC).flatten++rest)))) w from ((show Mem W0 [] ((bp,plO p bl)::(bl,lsO p)::(x1,y3O bp)::(x2,cyO yl)::(x3,coO x1 x2 x3)::(ownB 3 z23 ((ord).map intC).flatten++(U x++(ownB 3 z ((ord).map intC).flatten++(rest++[]))))) w from hm).pick (Pick.cnt fun x=>by simp only [nC];omega)))))) (fun p24 hp24=>?_) (fun z24 hz24=>(Ab9 ?_))
      ·refine Aa7 ?_
       refine Aa7 ?_;exact Al9 p24 hp24 rfl (Pick.cnt fun x=>by simp only [nC];omega)
      refine RunAF.one (i:=9) (by kernel_rfl) ?_;refine RunIF.of rfl ?_ (hlo:=(fun _ _ h=>by rcases h with ⟨_,_,h,_⟩ | ⟨_,_,h,_⟩ <;> cases h))
      refine Ac2 rfl (Aa8 rfl) rfl rfl rfl (Ab9 ?_)
      refine RunAF.one (i:=10) (by kernel_rfl) ?_;refine RunIF.of rfl ?_ (hlo:=(fun _ _ h=>by rcases h with ⟨_,_,h,_⟩ | ⟨_,_,h,_⟩ <;> cases h))
      refine Ac2 rfl (Aa8 rfl) rfl rfl rfl (Ab9 ?_)
      refine RunAF.done (by kernel_rfl) ?_;refine RunE.next ?_;refine RunC.ret ?_;refine Ab8 ?_;exact Ai3 ((z24.1,(pre++[(ord,z23)],z24.2),z):Bool×(List Ei×X)×Eng.Own) ⟨SameB.rfl',hz,hz24.imp (fun h=>⟨h.1,h.2,hsp.snoc hmem hord hz23,by simp⟩) id⟩ (.r1 rfl (.tmp rfl)) rfl (Pick.cnt fun x=>by simp only [nC];omega)
     refine RunIF.of rfl ?_ (hlo:=(fun _ _ h=>by rcases h with ⟨_,_,h,_⟩ | ⟨_,_,h,_⟩ <;> cases h))
     refine Ae4 [(bp,_),(bl,_),(x1,_),(x2,_),(x3,_)] _ rfl rfl (Ab7 rfl AG6) rfl rfl rfl (fun w hm=>(by rw [Ad5 hz];exact An0 ord (by omega) (ownQ z) (ownK z) 0 (ownC z) w (Ah1 (f:=intC) (fun _=>rfl) (by decide) hz (fun _ _ h=>hm.at (.tail _ (.tail _ (.tail _ (.tail _ (.tail _ ((by first | exact List.mem_append_right _ (List.mem_append_left _ h) | exact List.mem_append_right _ (List.mem_append_right _ (List.mem_append_left _ h))))))))))) (Ap3 hz))) (fun z23=>(Ab9 ?_))
     obtain ⟨z23,hz23⟩:=z23;dsimp only;refine RunAF.one (i:=5) (by kernel_rfl) ?_;refine RunIF.of rfl ?_ (hlo:=(fun _ _ h=>by rcases h with ⟨_,_,h,_⟩ | ⟨_,_,h,_⟩ <;> cases h))
     refine Ac2 rfl (Aa1 rfl (.tail _ (.tail _ (.tail _ (.head _)))) AA2 rfl) rfl rfl rfl (Ab9 ?_)
     refine RunAF.one (i:=8) (by kernel_rfl) ?_;refine RunIF.yieldQ rfl (Ae2 rfl rfl) rfl rfl rfl (fun w hm=>(Ah6 (α:=Ei) (encs:=encI) (eb:=ebI 3) (U:=(fun x=>(bp,plO p bl)::(bl,lsO p)::U x)) (I:=I) (Ix:=Ix) (Ip:=Ip) (pre:=pre) (v:=(ord,z23)) (N':=fun x=>(bp,plO p bl)::(bl,lsO p)::(x1,y3O bp)::(x2,cyO yl)::(x3,coO x1 x2 x3)::(U x++(ownB 3 z ((ord).map intC).flatten++(rest++[])))) (tl:=(x1,y3O bp)::(x2,cyO yl)::(x3,coO x1 x2 x3)::(ownB 3 z ((ord).map intC).flatten++rest)) (fun x=>(Pick.cnt fun x=>by simp only [nC];omega)) (hy pre (ord,z23) x ((x1,y3O bp)::(x2,cyO yl)::(x3,coO x1 x2 x3)::(ownB 3 z ((ord).map intC).flatten++rest)) w hI (hsp.snoc hmem hord hz23) hlt (show Mem W0 [] (ownB 3 z23 ((ord).map intC).flatten++(((bp,plO p bl)::(bl,lsO p)::U x)++((x1,y3O bp)::(x2,cyO yl)::(x3,coO x1 x2 x3)::(ownB 3 z ((ord).map intC).flatten++rest)))) w from ((show Mem W0 [] ((bp,plO p bl)::(bl,lsO p)::(x1,y3O bp)::(x2,cyO yl)::(x3,coO x1 x2 x3)::(ownB 3 z23 ((ord).map intC).flatten++(U x++(ownB 3 z ((ord).map intC).flatten++(rest++[]))))) w from hm).pick (Pick.cnt fun x=>by simp only [nC];omega)))))) (fun p24 hp24=>?_) (fun z24 hz24=>(Ab9 ?_))
     ·refine Aa7 ?_
      refine Aa7 ?_;exact Al9 p24 hp24 rfl (Pick.cnt fun x=>by simp only [nC];omega)
     refine RunAF.one (i:=9) (by kernel_rfl) ?_;refine RunIF.of rfl ?_ (hlo:=(fun _ _ h=>by rcases h with ⟨_,_,h,_⟩ | ⟨_,_,h,_⟩ <;> cases h))
     refine Ac2 rfl (Aa8 rfl) rfl rfl rfl (Ab9 ?_)
     refine RunAF.one (i:=10) (by kernel_rfl) ?_;refine RunIF.of rfl ?_ (hlo:=(fun _ _ h=>by rcases h with ⟨_,_,h,_⟩ | ⟨_,_,h,_⟩ <;> cases h))
     refine Ac2 rfl (Aa8 rfl) rfl rfl rfl (Ab9 ?_)
     refine RunAF.done (by kernel_rfl) ?_;refine RunE.next ?_;refine RunC.ret ?_;refine Ab8 ?_;exact Ai3 ((z24.1,(pre++[(ord,z23)],z24.2),z):Bool×(List Ei×X)×Eng.Own) ⟨SameB.rfl',hz,hz24.imp (fun h=>⟨h.1,h.2,hsp.snoc hmem hord hz23,by simp⟩) id⟩ (.r1 rfl (.tmp rfl)) rfl (Pick.cnt fun x=>by simp only [nC];omega)
    refine RunIF.of rfl ?_ (hlo:=(fun _ _ h=>by rcases h with ⟨_,_,h,_⟩ | ⟨_,_,h,_⟩ <;> cases h))
    refine Ac2 rfl (Aa8 rfl) rfl rfl rfl (Ab9 ?_)
    refine RunAF.one (i:=0) (by kernel_rfl) ?_;refine RunIF.of rfl ?_ (hlo:=(fun _ _ h=>by rcases h with ⟨_,_,h,_⟩ | ⟨_,_,h,_⟩ <;> cases h))
    refine Ac2 rfl (Aa1 rfl (.tail _ (.tail _ (.head _))) At8 rfl) rfl rfl rfl (Ab9 ?_)
    refine RunAF.one (i:=2) (by kernel_rfl) ?_;refine RunIF.of rfl ?_ (hlo:=(fun _ _ h=>by rcases h with ⟨_,_,h,_⟩ | ⟨_,_,h,_⟩ <;> cases h))
    refine Ac4 rfl (Ab7 rfl Bz0) rfl rfl rfl (fun w hm=>(show Calls Tryz.prog 136 #[pV bp,ownV z ord.length] w (Pure (.bool true) w) from by rw [Ad5 hz];have h9:=AG7 p hp bp bl ord hord (ownQ z) (ownK z) 0 (ownC z) w (hP.mono0 (by decide) hm) (Ah1 (f:=intC) (fun _=>rfl) (by decide) hz (fun _ _ h=>hm.at (.tail _ (.tail _ (.tail _ (.tail _ (.tail _ ((by first | exact List.mem_append_right _ (List.mem_append_left _ h) | exact List.mem_append_right _ (List.mem_append_right _ (List.mem_append_left _ h))))))))))) (hm.at (.head _)) (hm.at (.tail _ (.head _)));rw [hcan] at h9;exact h9)) (Ab9 ?_)
    refine RunAF.one (i:=3) (by kernel_rfl) ?_;refine RunIF.of rfl ?_ (hlo:=(fun _ _ h=>by rcases h with ⟨_,_,h,_⟩ | ⟨_,_,h,_⟩ <;> cases h))
    refine Ac2 rfl (Aa8 rfl) rfl rfl rfl (Ab9 ?_)
    refine RunAF.one (i:=4) (by kernel_rfl) ?_;refine RunIF.of rfl ?_ (hlo:=(fun _ _ h=>by rcases h with ⟨_,_,h,_⟩ | ⟨_,_,h,_⟩ <;> cases h))
    refine Ac2 rfl (Aa8 rfl) rfl rfl rfl (Ab9 ?_)
    refine RunAF.all (rs:=[5,6]) (by kernel_rfl) (by simp) (fun m hm=>?_)
    simp only [List.mem_cons,List.not_mem_nil,or_false] at hm
    rcases hm with rfl | rfl
    ·refine RunIF.of rfl ?_ (hlo:=(fun _ _ h=>by rcases h with ⟨_,_,h,_⟩ | ⟨_,_,h,_⟩ <;> cases h))
     refine Ac2 rfl (Aa1 rfl (.tail _ (.tail _ (.tail _ (.head _)))) AA2 rfl) rfl rfl rfl (Ab9 ?_)
     refine RunAF.one (i:=6) (by kernel_rfl) ?_;refine RunIF.of rfl ?_ (hlo:=(fun _ _ h=>by rcases h with ⟨_,_,h,_⟩ | ⟨_,_,h,_⟩ <;> cases h))
     refine Ac2 rfl (Aa8 rfl) rfl rfl rfl (Ab9 ?_)
     refine RunAF.one (i:=7) (by kernel_rfl) ?_;refine RunIF.of rfl ?_ (hlo:=(fun _ _ h=>by rcases h with ⟨_,_,h,_⟩ | ⟨_,_,h,_⟩ <;> cases h))
     refine Ae4 [(bp,_),(bl,_),(x1,_),(x2,_),(x3,_)] _ rfl rfl (Ab7 rfl AG6) rfl rfl rfl (fun w hm=>(by rw [Ad5 hz];exact An0 ord (by omega) (ownQ z) (ownK z) 0 (ownC z) w (Ah1 (f:=intC) (fun _=>rfl) (by decide) hz (fun _ _ h=>hm.at (.tail _ (.tail _ (.tail _ (.tail _ (.tail _ ((by first | exact List.mem_append_right _ (List.mem_append_left _ h) | exact List.mem_append_right _ (List.mem_append_right _ (List.mem_append_left _ h))))))))))) (Ap3 hz))) (fun z23=>(Ab9 ?_))
     obtain ⟨z23,hz23⟩:=z23;dsimp only;refine RunAF.one (i:=8) (by kernel_rfl) ?_;refine RunIF.yieldQ rfl (Ae2 rfl rfl) rfl rfl rfl (fun w hm=>(Ah6 (α:=Ei) (encs:=encI) (eb:=ebI 3) (U:=(fun x=>(bp,plO p bl)::(bl,lsO p)::U x)) (I:=I) (Ix:=Ix) (Ip:=Ip) (pre:=pre) (v:=(ord,z23)) (N':=fun x=>(bp,plO p bl)::(bl,lsO p)::(x1,y3O bp)::(x2,cyO yl)::(x3,coO x1 x2 x3)::(U x++(ownB 3 z ((ord).map intC).flatten++(rest++[])))) (tl:=(x1,y3O bp)::(x2,cyO yl)::(x3,coO x1 x2 x3)::(ownB 3 z ((ord).map intC).flatten++rest)) (fun x=>(Pick.cnt fun x=>by simp only [nC];omega)) (hy pre (ord,z23) x ((x1,y3O bp)::(x2,cyO yl)::(x3,coO x1 x2 x3)::(ownB 3 z ((ord).map intC).flatten++rest)) w hI (hsp.snoc hmem hord hz23) hlt (show Mem W0 [] (ownB 3 z23 ((ord).map intC).flatten++(((bp,plO p bl)::(bl,lsO p)::U x)++((x1,y3O bp)::(x2,cyO yl)::(x3,coO x1 x2 x3)::(ownB 3 z ((ord).map intC).flatten++rest)))) w from ((show Mem W0 [] ((bp,plO p bl)::(bl,lsO p)::(x1,y3O bp)::(x2,cyO yl)::(x3,coO x1 x2 x3)::(ownB 3 z23 ((ord).map intC).flatten++(U x++(ownB 3 z ((ord).map intC).flatten++(rest++[]))))) w from hm).pick (Pick.cnt fun x=>by simp only [nC];omega)))))) (fun p24 hp24=>?_) (fun z24 hz24=>(Ab9 ?_))
     ·refine Aa7 ?_
      refine Aa7 ?_;exact Al9 p24 hp24 rfl (Pick.cnt fun x=>by simp only [nC];omega)
     refine RunAF.one (i:=9) (by kernel_rfl) ?_;refine RunIF.of rfl ?_ (hlo:=(fun _ _ h=>by rcases h with ⟨_,_,h,_⟩ | ⟨_,_,h,_⟩ <;> cases h))
     refine Ac2 rfl (Aa8 rfl) rfl rfl rfl (Ab9 ?_)
     refine RunAF.one (i:=10) (by kernel_rfl) ?_;refine RunIF.of rfl ?_ (hlo:=(fun _ _ h=>by rcases h with ⟨_,_,h,_⟩ | ⟨_,_,h,_⟩ <;> cases h))
     refine Ac2 rfl (Aa8 rfl) rfl rfl rfl (Ab9 ?_)
     refine RunAF.done (by kernel_rfl) ?_;refine RunE.next ?_;refine RunC.ret ?_;refine Ab8 ?_;exact Ai3 ((z24.1,(pre++[(ord,z23)],z24.2),z):Bool×(List Ei×X)×Eng.Own) ⟨SameB.rfl',hz,hz24.imp (fun h=>⟨h.1,h.2,hsp.snoc hmem hord hz23,by simp⟩) id⟩ (.r1 rfl (.tmp rfl)) rfl (Pick.cnt fun x=>by simp only [nC];omega)
    refine RunIF.of rfl ?_ (hlo:=(fun _ _ h=>by rcases h with ⟨_,_,h,_⟩ | ⟨_,_,h,_⟩ <;> cases h))
    refine Ac2 rfl (Aa8 rfl) rfl rfl rfl (Ab9 ?_)
    refine RunAF.all (rs:=[5,7]) (by kernel_rfl) (by simp) (fun m hm=>?_)
    simp only [List.mem_cons,List.not_mem_nil,or_false] at hm
    rcases hm with rfl | rfl
    ·refine RunIF.of rfl ?_ (hlo:=(fun _ _ h=>by rcases h with ⟨_,_,h,_⟩ | ⟨_,_,h,_⟩ <;> cases h))
     refine Ac2 rfl (Aa1 rfl (.tail _ (.tail _ (.tail _ (.head _)))) AA2 rfl) rfl rfl rfl (Ab9 ?_)
     refine RunAF.one (i:=7) (by kernel_rfl) ?_;refine RunIF.of rfl ?_ (hlo:=(fun _ _ h=>by rcases h with ⟨_,_,h,_⟩ | ⟨_,_,h,_⟩ <;> cases h))
     refine Ae4 [(bp,_),(bl,_),(x1,_),(x2,_),(x3,_)] _ rfl rfl (Ab7 rfl AG6) rfl rfl rfl (fun w hm=>(by rw [Ad5 hz];exact An0 ord (by omega) (ownQ z) (ownK z) 0 (ownC z) w (Ah1 (f:=intC) (fun _=>rfl) (by decide) hz (fun _ _ h=>hm.at (.tail _ (.tail _ (.tail _ (.tail _ (.tail _ ((by first | exact List.mem_append_right _ (List.mem_append_left _ h) | exact List.mem_append_right _ (List.mem_append_right _ (List.mem_append_left _ h))))))))))) (Ap3 hz))) (fun z23=>(Ab9 ?_))
     obtain ⟨z23,hz23⟩:=z23;dsimp only;refine RunAF.one (i:=8) (by kernel_rfl) ?_;refine RunIF.yieldQ rfl (Ae2 rfl rfl) rfl rfl rfl (fun w hm=>(Ah6 (α:=Ei) (encs:=encI) (eb:=ebI 3) (U:=(fun x=>(bp,plO p bl)::(bl,lsO p)::U x)) (I:=I) (Ix:=Ix) (Ip:=Ip) (pre:=pre) (v:=(ord,z23)) (N':=fun x=>(bp,plO p bl)::(bl,lsO p)::(x1,y3O bp)::(x2,cyO yl)::(x3,coO x1 x2 x3)::(U x++(ownB 3 z ((ord).map intC).flatten++(rest++[])))) (tl:=(x1,y3O bp)::(x2,cyO yl)::(x3,coO x1 x2 x3)::(ownB 3 z ((ord).map intC).flatten++rest)) (fun x=>(Pick.cnt fun x=>by simp only [nC];omega)) (hy pre (ord,z23) x ((x1,y3O bp)::(x2,cyO yl)::(x3,coO x1 x2 x3)::(ownB 3 z ((ord).map intC).flatten++rest)) w hI (hsp.snoc hmem hord hz23) hlt (show Mem W0 [] (ownB 3 z23 ((ord).map intC).flatten++(((bp,plO p bl)::(bl,lsO p)::U x)++((x1,y3O bp)::(x2,cyO yl)::(x3,coO x1 x2 x3)::(ownB 3 z ((ord).map intC).flatten++rest)))) w from ((show Mem W0 [] ((bp,plO p bl)::(bl,lsO p)::(x1,y3O bp)::(x2,cyO yl)::(x3,coO x1 x2 x3)::(ownB 3 z23 ((ord).map intC).flatten++(U x++(ownB 3 z ((ord).map intC).flatten++(rest++[]))))) w from hm).pick (Pick.cnt fun x=>by simp only [nC];omega)))))) (fun p24 hp24=>?_) (fun z24 hz24=>(Ab9 ?_))
     ·refine Aa7 ?_
      refine Aa7 ?_;exact Al9 p24 hp24 rfl (Pick.cnt fun x=>by simp only [nC];omega)
     refine RunAF.one (i:=9) (by kernel_rfl) ?_;refine RunIF.of rfl ?_ (hlo:=(fun _ _ h=>by rcases h with ⟨_,_,h,_⟩ | ⟨_,_,h,_⟩ <;> cases h))
     refine Ac2 rfl (Aa8 rfl) rfl rfl rfl (Ab9 ?_)
     refine RunAF.one (i:=10) (by kernel_rfl) ?_;refine RunIF.of rfl ?_ (hlo:=(fun _ _ h=>by rcases h with ⟨_,_,h,_⟩ | ⟨_,_,h,_⟩ <;> cases h))
     refine Ac2 rfl (Aa8 rfl) rfl rfl rfl (Ab9 ?_)
     refine RunAF.done (by kernel_rfl) ?_;refine RunE.next ?_;refine RunC.ret ?_;refine Ab8 ?_;exact Ai3 ((z24.1,(pre++[(ord,z23)],z24.2),z):Bool×(List Ei×X)×Eng.Own) ⟨SameB.rfl',hz,hz24.imp (fun h=>⟨h.1,h.2,hsp.snoc hmem hord hz23,by simp⟩) id⟩ (.r1 rfl (.tmp rfl)) rfl (Pick.cnt fun x=>by simp only [nC];omega)
    refine RunIF.of rfl ?_ (hlo:=(fun _ _ h=>by rcases h with ⟨_,_,h,_⟩ | ⟨_,_,h,_⟩ <;> cases h))
    refine Ae4 [(bp,_),(bl,_),(x1,_),(x2,_),(x3,_)] _ rfl rfl (Ab7 rfl AG6) rfl rfl rfl (fun w hm=>(by rw [Ad5 hz];exact An0 ord (by omega) (ownQ z) (ownK z) 0 (ownC z) w (Ah1 (f:=intC) (fun _=>rfl) (by decide) hz (fun _ _ h=>hm.at (.tail _ (.tail _ (.tail _ (.tail _ (.tail _ ((by first | exact List.mem_append_right _ (List.mem_append_left _ h) | exact List.mem_append_right _ (List.mem_append_right _ (List.mem_append_left _ h))))))))))) (Ap3 hz))) (fun z23=>(Ab9 ?_))
    obtain ⟨z23,hz23⟩:=z23;dsimp only;refine RunAF.one (i:=5) (by kernel_rfl) ?_;refine RunIF.of rfl ?_ (hlo:=(fun _ _ h=>by rcases h with ⟨_,_,h,_⟩ | ⟨_,_,h,_⟩ <;> cases h))
    refine Ac2 rfl (Aa1 rfl (.tail _ (.tail _ (.tail _ (.head _)))) AA2 rfl) rfl rfl rfl (Ab9 ?_)
    refine RunAF.one (i:=8) (by kernel_rfl) ?_;refine RunIF.yieldQ rfl (Ae2 rfl rfl) rfl rfl rfl (fun w hm=>(Ah6 (α:=Ei) (encs:=encI) (eb:=ebI 3) (U:=(fun x=>(bp,plO p bl)::(bl,lsO p)::U x)) (I:=I) (Ix:=Ix) (Ip:=Ip) (pre:=pre) (v:=(ord,z23)) (N':=fun x=>(bp,plO p bl)::(bl,lsO p)::(x1,y3O bp)::(x2,cyO yl)::(x3,coO x1 x2 x3)::(U x++(ownB 3 z ((ord).map intC).flatten++(rest++[])))) (tl:=(x1,y3O bp)::(x2,cyO yl)::(x3,coO x1 x2 x3)::(ownB 3 z ((ord).map intC).flatten++rest)) (fun x=>(Pick.cnt fun x=>by simp only [nC];omega)) (hy pre (ord,z23) x ((x1,y3O bp)::(x2,cyO yl)::(x3,coO x1 x2 x3)::(ownB 3 z ((ord).map intC).flatten++rest)) w hI (hsp.snoc hmem hord hz23) hlt (show Mem W0 [] (ownB 3 z23 ((ord).map intC).flatten++(((bp,plO p bl)::(bl,lsO p)::U x)++((x1,y3O bp)::(x2,cyO yl)::(x3,coO x1 x2 x3)::(ownB 3 z ((ord).map intC).flatten++rest)))) w from ((show Mem W0 [] ((bp,plO p bl)::(bl,lsO p)::(x1,y3O bp)::(x2,cyO yl)::(x3,coO x1 x2 x3)::(ownB 3 z23 ((ord).map intC).flatten++(U x++(ownB 3 z ((ord).map intC).flatten++(rest++[]))))) w from hm).pick (Pick.cnt fun x=>by simp only [nC];omega)))))) (fun p24 hp24=>?_) (fun z24 hz24=>(Ab9 ?_))
    ·refine Aa7 ?_
     refine Aa7 ?_;exact Al9 p24 hp24 rfl (Pick.cnt fun x=>by simp only [nC];omega)
    refine RunAF.one (i:=9) (by kernel_rfl) ?_;refine RunIF.of rfl ?_ (hlo:=(fun _ _ h=>by rcases h with ⟨_,_,h,_⟩ | ⟨_,_,h,_⟩ <;> cases h))
    refine Ac2 rfl (Aa8 rfl) rfl rfl rfl (Ab9 ?_)
    refine RunAF.one (i:=10) (by kernel_rfl) ?_;refine RunIF.of rfl ?_ (hlo:=(fun _ _ h=>by rcases h with ⟨_,_,h,_⟩ | ⟨_,_,h,_⟩ <;> cases h))
    refine Ac2 rfl (Aa8 rfl) rfl rfl rfl (Ab9 ?_)
    refine RunAF.done (by kernel_rfl) ?_;refine RunE.next ?_;refine RunC.ret ?_;refine Ab8 ?_;exact Ai3 ((z24.1,(pre++[(ord,z23)],z24.2),z):Bool×(List Ei×X)×Eng.Own) ⟨SameB.rfl',hz,hz24.imp (fun h=>⟨h.1,h.2,hsp.snoc hmem hord hz23,by simp⟩) id⟩ (.r1 rfl (.tmp rfl)) rfl (Pick.cnt fun x=>by simp only [nC];omega)
end Go.Proofs.YtmkdbdbenfbkhaaGreatDoor
namespace Go.Proofs.YtmkdbdbenfbkhaaGreatDoor
open Go Go.Eng Go.Bk Go.Wk
abbrev viO (v:Int):Obj:=.cells (intC v).toArray 3 (0,0)
set_option maxHeartbeats 2000000 in
theorem CH8 {X:Type} (p:PsA) (hp:PV p.pl) (bp bl:Nat) (W0:World) (hP:p.cards.ok Pt.cells 5 W0) (total:List (List Int)) (yl:Nat) (U:X→Blks) (I:List Ei→X→Prop) (Ix:X→Prop) (Ip:List PanicEntry→X→Prop) (hy:YldI p.cards.l.length total yl (fun x=>(bp,plO p bl)::(bl,lsO p)::U x) I Ix Ip W0) (x1 x2 x3:Nat):∀ (f:Nat) (ord:List Int) (pre:List Ei) (x:X) (rest:Blks) (w0:World) (z:Eng.Own) (post:List (List Int)),ord.length + f=p.cards.l.length→(∀ v∈ord,-1≤v∧v < p.cards.l.length)→I pre x→SpI p.cards.l.length total pre→pre.map (·.1)++(waysX p.pl p.cards.l.length f ord++post)=total→OwnOk 1 z ord.length (ord.map intC).flatten →
    Mem W0 [] ((bp,plO p bl)::(bl,lsO p)::(x1,y3O bp)::(x2,cyO yl)::(x3,coO x1 x2 x3)::(U x++(ownB 3 z ((ord).map intC).flatten++rest))) w0→Calls Tryz.prog 135 #[ownV z ord.length,pV x1,pV x2,pV x3] w0 (GrowQ W0 [] (fun y:Bool×(List Ei×X)×Eng.Own=>.bool y.1) (fun y=>(bp,plO p bl)::(bl,lsO p)::(x1,y3O bp)::(x2,cyO yl)::(x3,coO x1 x2 x3)::(U y.2.1.2++(ownB 3 y.2.2 ((ord).map intC).flatten++rest))) (fun y=>SameB z y.2.2∧OwnOk 1 y.2.2 ord.length (ord.map intC).flatten∧((y.1=true∧I y.2.1.1 y.2.1.2∧SpI p.cards.l.length total y.2.1.1∧y.2.1.1.map (·.1)=pre.map (·.1)++waysX p.pl p.cards.l.length f ord)∨(y.1=false∧Ix y.2.1.2))) (fun q:List PanicEntry×X=>q.1) (fun q=>(bp,plO p bl)::(bl,lsO p)::(x1,y3O bp)::(x2,cyO yl)::(x3,coO x1 x2 x3)::(U q.2++rest)) (fun q=>Ip q.1 q.2)):=by
  intro f
  induction f with
  | zero =>
    intro ord pre x rest w0 z post hlen hord hI hsp htot hz hm0;exact Cw4 p hp bp bl W0 hP total yl U I Ix Ip hy x1 x2 x3 0 rfl ord pre x rest w0 z post ⟨by omega,hord⟩ hI hsp htot hz hm0
  | succ f ih =>
    intro ord pre x rest w0 z post hlen hord hI hsp htot hz hm0;have hn5:p.cards.l.length≤5:=hp.n;have hm1:Mem W0 [] ((bp,plO p bl)::(bl,lsO p)::(x1,y3O bp)::(x2,cyO yl)::(x3,coO x1 x2 x3)::(U x++(ownB 3 z ((ord).map intC).flatten++(rest++[])))) w0:=by rw [List.append_nil];exact hm0
    rw [Cr3] at htot ⊢;refine Af0 hm1 Tryz.func135 rfl rfl ?_;refine csr ?_;refine vp rfl rfl rfl rfl ?_;refine nnx ?_;refine RunC.seq ?_;refine csr ?_;refine vp rfl rfl rfl rfl ?_;refine Aa0 (Am7 rfl Ao3 hz) rfl rfl rfl ?_;refine Aa0 (Aa1 rfl (.tail _ (.tail _ (.head _))) At8 rfl) rfl rfl rfl ?_;refine vp rfl rfl rfl rfl ?_;refine Aa0 (Val.fieldAddr rfl An8) rfl rfl rfl ?_;refine Aa0 (Val.fieldAddr rfl Aq9) rfl rfl rfl ?_;refine Aa0 (Aa1 rfl (.head _) Bb5 rfl) rfl rfl rfl ?_;refine Aa0 (Ad7 rfl AK2) rfl rfl rfl ?_;refine vp rfl rfl rfl rfl ?_;refine nnx ?_;refine RunC.cond rfl (fun h=>absurd h (by simp;omega)) ?_;intro c0;clear c0;refine RunC.skip ?_;refine RunE.next ?_;refine RunC.seq ?_;refine csr ?_;refine vp rfl rfl rfl rfl ?_;refine nnx ?_;refine RunC.block ?_;refine Ak3 (Ad8 _) (news':=[(bp,plO p bl),(bl,lsO p),(x1,y3O bp),(x2,cyO yl),(x3,coO x1 x2 x3)]++(U x++(ownB 3 z ((ord).map intC).flatten++(rest++[])))) (.cons .here rfl (.cons .here rfl (.cons .here rfl (.cons .here rfl (.cons .here rfl (Pick.refl _)))))) ?_;refine Aj3 (X:=(List Ei×X)×Eng.Own) (n0:=[(bp,plO p bl),(bl,lsO p),(x1,y3O bp),(x2,cyO yl),(x3,coO x1 x2 x3)]) ((p.cards.l.length + 1)) (fun m y q=>(6,.int .i64 ((m:Int) - 1))::(0,ownV y.2 ord.length)::q) (fun _ _=>_) (fun m y=>[]) (fun m y=>U y.1.2++(ownB 3 y.2 ((ord).map intC).flatten++(rest++[]))) (fun m y=>(SameB z y.2∧OwnOk 1 y.2 ord.length (ord.map intC).flatten)∧I y.1.1 y.1.2∧SpI p.cards.l.length total y.1.1∧y.1.1.map (·.1)=pre.map (·.1)++doneY p.pl p.cards.l.length f ord m) ((pre,x),z) ⟨⟨SameB.rfl',hz⟩,hI,hsp,by simp [doneY]⟩ rfl (Ac8 (t:=6) rfl rfl (Ac8 (t:=0) rfl rfl (Sub.cons (t:=1) rfl (Sub.cons (t:=2) rfl (Sub.cons (t:=3) rfl (Sub.nil _)))))) (Pick.cnt fun x=>by simp only [nC];omega) ?_;intro m y mN mI;obtain ⟨hyz,hyI,hysp,hye⟩:=mI;refine RunC.seq ?_;refine csr ?_;refine vp rfl rfl rfl rfl ?_;refine Aa0 (Aa1 rfl (.tail _ (.tail _ (.head _))) At8 rfl) rfl rfl rfl ?_;refine vp rfl rfl rfl rfl ?_;refine Aa0 (Val.fieldAddr rfl An8) rfl rfl rfl ?_;refine Aa0 (Val.fieldAddr rfl Aq9) rfl rfl rfl ?_;refine Aa0 (Aa1 rfl (.head _) Bb5 rfl) rfl rfl rfl ?_;refine Aa0 (Ad7 rfl AK2) rfl rfl rfl ?_;refine vp rfl rfl rfl rfl ?_;refine nnx ?_;refine RunC.cond rfl ?_ ?_
    ·intro c1
     have c1':=c1;clear c1;try simp only [nH] at c1'
     have hvN:m < p.cards.l.length + 1:=by omega
     obtain ⟨v,hve⟩:∃ v:Int,(m:Int) - 1=v:=⟨_,rfl⟩;rw [hve];obtain ⟨o2,ho2⟩:∃ o,ord++[v]=o:=⟨_,rfl⟩;have hof:(ord.map intC).flatten++intC v=(o2.map intC).flatten:=by rw [Cn7,ho2]
     have hol:o2.length=ord.length + 1:=by rw [← ho2,List.length_append];rfl
     have hol2:o2.length + f=p.cards.l.length:=by omega
     have ho2i:∀ u∈o2,-1≤u∧u < p.cards.l.length:=fun u hu=>by
       rw [← ho2] at hu
       rcases List.mem_append.1 hu with h | h
       · exact hord u h
       · rw [List.mem_singleton.1 h];omega
     obtain ⟨post2,hpost2⟩:∃ q,restY p.pl p.cards.l.length f ord (m + 1)++post=q:=⟨_,rfl⟩;refine RunC.skip ?_;refine RunE.next ?_;refine RunC.seq ?_;refine RunC.block ?_;refine RunC.seq ?_;refine An2 (X:=(Bool×(List Ei×X))×Eng.Own) 10 (n0:=[(bp,_),(bl,_),(x1,_),(x2,_),(x3,_)]) (fun k q=>(48,.bool (!k.1.1))::(0,ownV k.2 ord.length)::q) (fun k=>[]) (fun k=>[]) (fun k=>U k.1.2.2++(ownB 3 k.2 ((ord).map intC).flatten++(rest++[]))) (fun k=>SameB z k.2∧OwnOk 1 k.2 ord.length (ord.map intC).flatten∧((k.1.1=true∧I k.1.2.1 k.1.2.2∧SpI p.cards.l.length total k.1.2.1∧k.1.2.1.map (·.1)=pre.map (·.1)++doneY p.pl p.cards.l.length f ord (m + 1))∨(k.1.1=false∧Ix k.1.2.2))) As5 (.cons .here rfl (.cons .here rfl (.cons .here rfl (.cons .here rfl (.cons .here rfl .nil))))) (Sub.cons (t:=1) rfl (Sub.cons (t:=2) rfl (Sub.cons (t:=3) rfl (Sub.cons (t:=6) rfl (Sub.nil _))))) (.cons .here rfl (.cons .here rfl (.cons .here rfl (.cons .here rfl (.cons .here rfl .nil))))) ?_ ?_
     ·refine va 0 rfl (Aa8 rfl) rfl rfl rfl (.cons .here rfl (.cons .here rfl (.cons .here rfl (.cons .here rfl (.cons .here rfl .nil))))) rfl ?_
      refine va 1 rfl (Aa8 rfl) rfl rfl rfl (.cons .here rfl (.cons .here rfl (.cons .here rfl (.cons .here rfl (.cons .here rfl .nil))))) rfl ?_;refine va 2 rfl (Am7 rfl Ao3 hyz.2) rfl rfl rfl (.cons .here rfl (.cons .here rfl (.cons .here rfl (.cons .here rfl (.cons .here rfl .nil))))) rfl ?_;refine va 3 rfl (Aa8 rfl) rfl rfl rfl (.cons .here rfl (.cons .here rfl (.cons .here rfl (.cons .here rfl (.cons .here rfl .nil))))) rfl ?_;refine va 4 rfl (Aa8 rfl) rfl rfl rfl (.cons .here rfl (.cons .here rfl (.cons .here rfl (.cons .here rfl (.cons .here rfl .nil))))) rfl ?_;refine Ah5 (dj:=40) rfl ?_ ?_
      ·intro g40
       have g40':=g40;clear g40;try simp only [nH] at g40'
       have hnc:¬ (m:Int) - 1=(ord.length:Int):=(by rw [hve];simpa using g40');have hnx:nextY p.pl p.cards.l.length f ord m=waysX p.pl p.cards.l.length f o2:=by (unfold nextY;rw [if_neg hnc,hve,ho2])
       have htot2:y.1.1.map (·.1)++(waysX p.pl p.cards.l.length f o2++post2)=total:=by rw [← hnx,← hpost2,← htot,hye,Cw3 hvN];simp only [List.append_assoc]
       refine va 5 rfl (Aa1 rfl (.tail _ (.tail _ (.tail _ (.tail _ (.head _))))) AA2 rfl) rfl rfl rfl (.cons .here rfl (.cons .here rfl (.cons .here rfl (.cons .here rfl (.cons .here rfl .nil))))) rfl ?_;refine va 6 rfl (Aa8 rfl) rfl rfl rfl (.cons .here rfl (.cons .here rfl (.cons .here rfl (.cons .here rfl (.cons .here rfl .nil))))) rfl ?_;refine va 7 rfl (Aa8 rfl) rfl rfl rfl (.cons .here rfl (.cons .here rfl (.cons .here rfl (.cons .here rfl (.cons .here rfl .nil))))) rfl ?_;refine RunA.one (i:=8) (by kernel_rfl) (by kernel_rfl) ?_;refine Ae0 rfl (New.buildSlice (parts:=[(0,.tmp 43)]) rfl Ao3 Ap0 rfl rfl rfl rfl) rfl rfl rfl (fun b44=>(Aa5 (.cons .here rfl (.cons .here rfl (.cons .here rfl (.cons .here rfl (.cons .here rfl (.cons .here rfl .nil)))))) (.cons (.there .here) rfl (.cons (.there .here) rfl (.cons (.there .here) rfl (.cons (.there .here) rfl (.cons (.there .here) rfl .nil))))) rfl ?_))
       refine RunA.one (i:=9) (by kernel_rfl) (by kernel_rfl) ?_;refine Ax6 [(b44,_),(bp,_),(bl,_),(x1,_),(x2,_),(x3,_)] _ _ _ rfl ?_;refine AK1 (A:=[(b44,_),(bp,_),(bl,_),(x1,_),(x2,_),(x3,_)]) (B:=_) (x:=y.2) (ys:=(intC v)) rfl rfl Cv6 rfl rfl rfl hyz.2 rfl (fun h=>by cases h) (by decide) (fun w hm=>Ah3 (hm.at (.head _))) (Ak2 rfl) (by simp only [maxLen];omega) (by omega) rfl (fun z45 L45 hz45 hL45=>(Aa5 (.cons .here rfl (.cons .here rfl (.cons .here rfl (.cons .here rfl (.cons .here rfl (.cons .here rfl .nil)))))) (.cons .here rfl (.cons .here rfl (.cons .here rfl (.cons .here rfl (.cons .here rfl (.cons .here rfl .nil)))))) rfl ?_))
       refine Af3 (by kernel_rfl) ?_;refine RunB.one (i:=10) (by kernel_rfl) ?_;rw [hof] at hz45 ⊢;rw [← hol] at hz45 ⊢;refine AZ9 rfl (Ac1 rfl rfl Cd3) rfl rfl rfl (fun w hm=>(AL5 (nw':=fun k:Bool×(List Ei×X)×Eng.Own=>(b44,viO v)::(bp,plO p bl)::(bl,lsO p)::(x1,y3O bp)::(x2,cyO yl)::(x3,coO x1 x2 x3)::(U k.2.1.2++(ownB 3 k.2.2 ((o2).map intC).flatten++(L45++(rest++[]))))) (np':=fun q:List PanicEntry×X=>(b44,viO v)::(bp,plO p bl)::(bl,lsO p)::(x1,y3O bp)::(x2,cyO yl)::(x3,coO x1 x2 x3)::(U q.2++(rest++[]))) (ih o2 y.1.1 y.1.2 ((b44,viO v)::(L45++rest)) w z45 post2 hol2 ho2i hyI hysp htot2 hz45 ((show Mem W0 [] ((b44,viO v)::(bp,plO p bl)::(bl,lsO p)::(x1,y3O bp)::(x2,cyO yl)::(x3,coO x1 x2 x3)::(ownB 3 z45 ((o2).map intC).flatten++(L45++(U y.1.2++(rest++[]))))) w from hm).pick (Pick.cnt fun x=>by simp only [nC];omega))) (fun k=>(Pick.cnt fun x=>by simp only [nC];omega)) (fun q=>(Pick.cnt fun x=>by simp only [nC];omega)))) (fun p46 hp46=>?_) (fun z46 hz46=>(Ab5 ?_))
       ·refine AB0 ?_
        refine Aa7 ?_;refine Ad1 ?_;refine Aa7 ?_;refine Aa7 ?_;refine Ad1 ?_;refine Aa7 ?_;exact Al9 p46 hp46 rfl (Pick.cnt fun x=>by simp only [nC];omega)
       refine RunB.one (i:=11) (by kernel_rfl) ?_;refine Ac2 rfl (Aa8 rfl) rfl rfl rfl (Ab5 ?_)
       refine RunB.one (i:=12) (by kernel_rfl) ?_;refine Ac2 rfl (Aa8 rfl) rfl rfl rfl (Ab5 ?_)
       refine RunB.done (by kernel_rfl) ?_;obtain ⟨x9,hx1,hx2,hx3⟩:=hL45.back (ys:=intC v) hz46.1 hyz.2 (m:=1) (by rw [hof,← hol];exact hz46.2.1);rw [hof] at hx3;exact Ad3 ((z46.1,z46.2.1),x9) ⟨hyz.1.trans hx1,hx2,hz46.2.2.imp (fun h=>⟨h.1,h.2.1,h.2.2.1,by rw [h.2.2.2,hye,Ce4 hvN,hnx,List.append_assoc]⟩) id⟩ rfl (Ac8 (t:=48) rfl rfl (Ac8 (t:=0) rfl (hx1.v _).symm (Sub.cons (t:=1) rfl (Sub.cons (t:=2) rfl (Sub.cons (t:=3) rfl (Sub.cons (t:=6) rfl (Sub.nil _))))))) (.cons (.there .here) rfl (.cons (.there .here) rfl (.cons (.there .here) rfl (.cons (.there .here) rfl (.cons (.there .here) rfl (Pick.skip (Pick.cnt fun q=>by have h9:=hx3 q;simp only [nC];omega)))))))
      intro g40;have g40':=g40;clear g40;try simp only [nH] at g40'
      have hnc:(m:Int) - 1=(ord.length:Int):=(by rw [hve];simpa using g40');have hnx:nextY p.pl p.cards.l.length f ord m=[]:=by (unfold nextY;rw [if_pos hnc])
      refine Ak0 (i:=5) rfl (by kernel_rfl) (by kernel_rfl) rfl rfl rfl (fun _ _ _ h=>h) (.cons .here rfl (.cons .here rfl (.cons .here rfl (.cons .here rfl (.cons .here rfl .nil))))) rfl ?_;refine Ak0 (i:=6) rfl (by kernel_rfl) (by kernel_rfl) rfl rfl rfl (fun _ _ _ h=>h) (.cons .here rfl (.cons .here rfl (.cons .here rfl (.cons .here rfl (.cons .here rfl .nil))))) rfl ?_;refine Ak0 (i:=7) rfl (by kernel_rfl) (by kernel_rfl) rfl rfl rfl (fun _ _ _ h=>h) (.cons .here rfl (.cons .here rfl (.cons .here rfl (.cons .here rfl (.cons .here rfl .nil))))) rfl ?_;refine RunA.one (i:=8) (by kernel_rfl) (by kernel_rfl) ?_;refine Ac6 rfl rfl rfl rfl (Aa5 (.cons .here rfl (.cons .here rfl (.cons .here rfl (.cons .here rfl (.cons .here rfl .nil))))) (.cons .here rfl (.cons .here rfl (.cons .here rfl (.cons .here rfl (.cons .here rfl .nil))))) rfl ?_)
      refine RunA.one (i:=9) (by kernel_rfl) (by kernel_rfl) ?_;refine Ac6 rfl rfl rfl rfl (Aa5 (.cons .here rfl (.cons .here rfl (.cons .here rfl (.cons .here rfl (.cons .here rfl .nil))))) (.cons .here rfl (.cons .here rfl (.cons .here rfl (.cons .here rfl (.cons .here rfl .nil))))) rfl ?_)
      refine Af3 (by kernel_rfl) ?_;refine RunB.one (i:=10) (by kernel_rfl) ?_;refine Ac6 rfl rfl rfl rfl (Ab5 ?_)
      refine RunB.one (i:=11) (by kernel_rfl) ?_;refine Ac6 rfl rfl rfl rfl (Ab5 ?_)
      refine RunB.one (i:=12) (by kernel_rfl) ?_;refine Ac2 rfl (Aa8 rfl) rfl rfl rfl (Ab5 ?_)
      refine RunB.done (by kernel_rfl) ?_;exact Ad3 ((true,y.1),y.2) ⟨hyz.1,hyz.2,.inl ⟨rfl,hyI,hysp,by rw [Ce4 hvN,hnx,List.append_nil];exact hye⟩⟩ rfl (Ac8 (t:=48) rfl rfl (Ac8 (t:=0) rfl rfl (Sub.cons (t:=1) rfl (Sub.cons (t:=2) rfl (Sub.cons (t:=3) rfl (Sub.cons (t:=6) rfl (Sub.nil _))))))) (.cons .here rfl (.cons .here rfl (.cons .here rfl (.cons .here rfl (.cons .here rfl (Pick.cnt fun q=>by simp only [nC];omega))))))
     intro k kI;refine RunE.next ?_;refine RunC.cond rfl ?_ ?_
     ·intro c2
      have c2':=c2;clear c2;try simp only [nH] at c2'
      have hk2:Ix k.1.2.2:=(kI.2.2.resolve_left (fun h=>by rw [show k.1.1=false by simpa using c2'] at h;cases h.1)).2;refine csr ?_;refine vp rfl rfl rfl rfl ?_;refine nnx ?_;refine RunC.ret ?_;refine Ac5 ?_;refine Ab8 ?_;refine Ab8 ?_;refine Ac5 ?_;refine Ab8 ?_;exact Ai3 ((false,k.1.2,k.2):Bool×(List Ei×X)×Eng.Own) ⟨kI.1,kI.2.1,.inr ⟨rfl,hk2⟩⟩ (.r1 rfl (.tmp rfl)) rfl (Pick.cnt fun x=>by simp only [nC];omega)
     intro c2;have c2':=c2;clear c2;try simp only [nH] at c2'
     have hk2:=kI.2.2.resolve_right (fun h=>by rw [show k.1.1=true by simpa using c2'] at h;cases h.1);refine RunC.skip ?_;refine Ac0 ?_;refine RunE.next ?_;refine RunC.region ?_;refine vp rfl rfl rfl rfl ?_;refine Aa0 (Val.add rfl rfl (IntWalk.i64_in _ ⟨by omega,by omega⟩)) rfl rfl rfl ?_;refine vp rfl rfl rfl rfl ?_;refine RunL.nil ?_;exact Ae7 (k.1.2,k.2) (by omega) ⟨⟨kI.1,kI.2.1⟩,hk2.2⟩ rfl (Ac8 (t:=6) rfl (congrArg (Value.int .i64) (by omega)) (Ac8 (t:=0) rfl rfl (Sub.cons (t:=1) rfl (Sub.cons (t:=2) rfl (Sub.cons (t:=3) rfl (Sub.nil _)))))) (Pick.cnt fun x=>by simp only [nC];omega)
    intro c1;have c1':=c1;clear c1;try simp only [nH] at c1'
    obtain rfl:m=p.cards.l.length + 1:=by omega
    rw [Ce5] at hye;refine RunC.exit ?_;refine Ac7 ?_;refine Ac7 ?_;refine Ab0 ?_;refine RunE.next ?_;refine csr ?_;refine vp rfl rfl rfl rfl ?_;refine nnx ?_;refine RunC.ret ?_;exact Ai3 ((true,y.1,y.2):Bool×(List Ei×X)×Eng.Own) ⟨hyz.1,hyz.2,.inl ⟨rfl,hyI,hysp,hye⟩⟩ (.r1 rfl (.tmp rfl)) rfl (Pick.cnt fun x=>by simp only [nC];omega)
end Go.Proofs.YtmkdbdbenfbkhaaGreatDoor
namespace Go.Wk
open Go Go.Eng Go.RowKit Go.Bk
def totP (p:Ps):List (List Int):=waysX p p.cards.length p.cards.length []
end Go.Wk
namespace Go.Proofs.YtmkdbdbenfbkhaaGreatDoor
open Go Go.Eng Go.Bk Go.Wk
set_option maxHeartbeats 1000000 in
theorem CH9 (p:PsA) (hp:PV p.pl) (bp bl:Nat) (W0:World) (hP:p.cards.ok Pt.cells 5 W0) (b1:Nat) :
    SeqR Tryz.prog 134 #[pV b1] encI (ebI 3) [(b1,y3O bp)] [(bp,plO p bl),(bl,lsO p)] cpmisf (fun xs=>SpI p.cards.l.length (totP p.pl) xs∧xs.map (·.1)=totP p.pl) (SpI p.cards.l.length (totP p.pl)) (fun _ _=>False) (totP p.pl).length W0:=by
  intro X U l I Ix Ip rest w0 u0 hy i0 hm0;have hm1:Mem W0 [] ((bp,plO p bl)::(bl,lsO p)::(b1,y3O bp)::(U u0++(rest++[]))) w0:=hm0.pick (Pick.cnt fun x=>by simp only [List.nil_append,List.cons_append,List.count_append,List.count_cons,List.count_nil];omega);refine Al2 (vs:=[.func (.yield l) #[] #[],pV b1]) hm1 Tryz.func134 rfl rfl (AF7 ?_) 8
  refine csr ?_;refine Ac3 (New.box rfl) rfl rfl rfl (fun b2=>?_)
  refine nsr ?_;refine Ac3 (New.alloc Ch2) rfl rfl rfl (fun b3=>?_)
  refine nsr ?_;refine vp rfl rfl rfl rfl ?_;refine Ab4 (Sto.store rfl rfl .here AA2 rfl rfl) rfl rfl ?_;refine nnx ?_;refine RunC.region ?_;refine Aa0 (Aa1 rfl (.head _) AA2 rfl) rfl rfl rfl ?_;refine AZ8 (Ac1 rfl rfl Cd3) rfl rfl rfl (fun w hm=>(AL5 (nw':=fun k:Bool×(List Ei×X)×Eng.Own=>(bp,plO p bl)::(bl,lsO p)::(b1,y3O bp)::(U k.2.1.2++(rest++[]))) (np':=fun q:List PanicEntry×X=>(bp,plO p bl)::(bl,lsO p)::(b1,y3O bp)::(U q.2++(rest++[]))) (CH8 p hp bp bl W0 hP (totP p.pl) l U I Ix Ip hy b1 b2 b3 p.cards.l.length [] [] u0 rest w none [] (by simp) (fun _ h=>by cases h) i0 (fun _ h=>by cases h) (by simp;rfl) OwnOk.start ((show Mem W0 [] ((b3,coO b1 b2 b3)::(b2,cyO l)::(bp,plO p bl)::(bl,lsO p)::(b1,y3O bp)::(U u0++(rest++[]))) w from hm).pick (Pick.cnt fun x=>by simp only [nC,AA6,List.nil_append];omega))) (fun k=>(Pick.cnt fun x=>by simp only [nC,AA6,List.nil_append];omega)) (fun q=>(Pick.cnt fun x=>by simp only [nC,AA6,List.nil_append];omega)))) (fun p6 hp6=>?_) (fun z6 hz6=>?_)
  ·exact fun _ w s=>⟨s.defers,p6.2,s.mem.pick (Pick.cnt fun x=>by simp only [nC,AA6,List.nil_append];omega),.inr (.inl ⟨p6.1,rfl,hp6⟩)⟩
  refine RunL.nil ?_;exact Ah7 (chg:=[]) (.r0 rfl) (fun _ hm=>⟨z6.2.1.2,hm.pick (Pick.cnt fun x=>by simp only [nC,AA6,List.nil_append];omega),.inl ⟨_,rfl,hz6.2.2.imp (fun h=>⟨z6.2.1.1,⟨h.2.2.1,h.2.2.2⟩,h.2.1⟩) (fun h=>h.2)⟩⟩)
-- Cd4
theorem Br0 (bp:Nat) (W:World):Calls Tryz.prog 56 #[pV bp] W (News (fun b=>.func (.func 134) #[] #[pV b]) (fun b=>[(b,y3O bp)]) W):=by
  refine Aa2 Tryz.func56 rfl rfl ?_;refine st ?_;refine zn (New.box rfl) (fun b1=>?_)
  exact RunE.ret (chg:=[]) (.r1 rfl (.tmp rfl)) (fun _ hm=>⟨b1,rfl,hm.pick (.cons .here rfl .nil)⟩)
end Go.Proofs.YtmkdbdbenfbkhaaGreatDoor
namespace Go.Wk
open Go Go.Eng Go.RowKit Go.Bk
theorem Bi5 {p:Ps} {n:Nat} (hn:n≤5):∀ (f:Nat) (l:List Int),(waysX p n f l).length≤6 ^ f
  | 0,l=>by unfold waysX;split <;> simp
  | f + 1,l=>by
    rw [Cr3]
    have h1:=Aj8 (f:=nextY p n f l) (B:=6 ^ f) (List.range (n + 1)) (fun v _=>by
      unfold nextY
      split
      · exact Nat.zero_le _
      · exact Bi5 hn f _)
    rw [List.length_range] at h1;have h2:=Nat.mul_le_mul_right (6 ^ f) (show n + 1≤6 by omega);rw [Nat.pow_succ];omega
theorem Cj7 {p:Ps} (h:PV p):(totP p).length≤7776:=by
  have h1:=Bi5 (p:=p) h.n p.cards.length [];have h2:6 ^ p.cards.length≤6 ^ 5:=Nat.pow_le_pow_right (by decide) h.n;unfold totP;omega
def waysA (p:Ps):Int×Int:=if printsX p=true then (((totP p).length:Int),0) else (0,1)
end Go.Wk
namespace Go.Proofs.YtmkdbdbenfbkhaaGreatDoor
open Go Go.Eng Go.Bk Go.Wk
-- Ca0
set_option maxHeartbeats 1000000 in
theorem AZ5 (p:PsA) (hl:p.cards.l.length≤10000) (W:World) (hP:p.cards.ok Pt.cells 5 W):Calls Tryz.prog 14 #[p.v] W (Pure (.tuple #[.int .i64 (waysA p.pl).1,.int .i64 (waysA p.pl).2]) W):=by
  refine Ai9 Tryz.func14 rfl rfl ?_;refine csr ?_;refine Ac3 (New.box rfl) rfl rfl rfl (fun b1=>?_)
  refine Ac3 (New.alloc Ap0) rfl rfl rfl (fun b2=>?_)
  refine Ac3 (New.alloc AF8) rfl rfl rfl (fun b3=>?_)
  refine nsr ?_;refine vp rfl rfl rfl rfl ?_;refine Ao6 rfl ?_;refine nnx ?_;refine RunC.seq ?_;refine csr ?_;refine Aa0 (Ab6 rfl (.tail _ (.tail _ (.head _))) Bv0 rfl) rfl rfl rfl ?_;refine BB7 (Ab7 rfl CM3) rfl rfl rfl (fun w hm=>Br1 p hl w (hP.mono0 (by decide) hm)) (fun e6 he6=>?_) (fun a6 ha6 z6=>?_)
  ·obtain ⟨hbad,rfl⟩:=BU8 he6
   refine Aa7 ?_;refine Aa7 ?_;exact Ba1 AA9 Ca0 .here (.r2 rfl (.one rfl (.tail _ (.head _)) Af4 rfl) (.one rfl (.head _) Ak8 rfl)) (by unfold waysA;rw [hbad];rfl)
  obtain ⟨bp,bl⟩:=z6;have hpx:=Cl9 ha6;have hp:=CR6 hpx;have hN:=Cj7 hp;dsimp only;refine Ai2 (Ab7 rfl CM2) rfl rfl rfl (fun w hm=>Br0 bp w) (fun b7=>?_)
  refine nnx ?_;refine RunC.block ?_;refine Ak3 (Ad8 _) (news':=[(bp,plO p bl),(bl,lsO p),(b2,.cells [Value.int .i64 ((0:Nat):Int)].toArray 3 (0,0)),(b3,.cells [Value.int .i64 0].toArray 42 (0,0)),(b7,y3O bp)]++([])) (.cons (.there .here) rfl (.cons (.there .here) rfl (.cons (.there (.there .here)) rfl (.cons (.there .here) rfl (.cons .here rfl .nil))))) ?_;refine AT0 (α:=Ei) (X:=Nat) (Y:=Unit) (encs:=encI) (fun v y q=>q) (fun v y=>[]) (fun x=>[(bp,plO p bl),(bl,lsO p),(b2,.cells [Value.int .i64 (x:Int)].toArray 3 (0,0))]) (fun pre x=>x=pre.length) (fun _ _=>False) 0 rfl ([(b3,.cells [Value.int .i64 0].toArray 42 (0,0))]) (Sub.cons (t:=2) rfl (Sub.cons (t:=3) rfl (Sub.nil _))) (Pick.cnt fun x=>by simp only [nC,Int.natCast_add,Int.cast_ofNat_Int];omega) (fun _=>rfl) rfl rfl Cd4 (fun lp D rc=>SeqR.at' (U:=(fun x:Nat=>[(b2,.cells [Value.int .i64 (x:Int)].toArray 3 (0,0))])) (CH9 p hp bp bl W hP b7) lp D rc) ?_ ?_ ?_ ?_
  ·intro l D ob pre v x tl hI hsp
   refine Ar2 (Ad8 _) (news':=[(l,ob),(D,dfrO),(bp,plO p bl),(bl,lsO p),(b2,.cells [Value.int .i64 (x:Int)].toArray 3 (0,0))]++(ebI 3 v++tl)) (Pick.cnt fun x=>by simp only [nC,Int.natCast_add,Int.cast_ofNat_Int];omega) ?_;refine RunCR.skip ?_;exact Ax9 () (Sub.cons (t:=2) rfl (Sub.cons (t:=3) rfl (Sub.nil _))) (Pick.cnt fun x=>by simp only [nC,Int.natCast_add,Int.cast_ofNat_Int];omega)
  ·intro l D ob pre v y x tl hI hsp hlen
   refine Ar2 (Ad8 _) (news':=[(l,ob),(D,dfrO),(bp,plO p bl),(bl,lsO p),(b2,.cells [Value.int .i64 (x:Int)].toArray 3 (0,0))]++(ebI 3 v++tl)) (Pick.cnt fun x=>by simp only [nC,Int.natCast_add,Int.cast_ofNat_Int];omega) ?_;refine RunCR.block ?_;refine Ad4 ?_;subst hI;refine Aa0 (Aa1 rfl (.tail _ (.tail _ (.tail _ (.tail _ (.head _))))) Af4 rfl) rfl rfl rfl ?_;refine Aa0 (Val.add rfl rfl (IntWalk.i64_in _ ⟨by omega,by omega⟩)) rfl rfl rfl ?_;refine Ab4 (Sto.store rfl rfl (.there (.there (.there (.there .here)))) Af4 rfl rfl) rfl rfl ?_;refine RunL.nil ?_;refine Ac0 ?_;exact Af9 (pre.length + 1) (by rw [List.length_append];rfl) (Pick.cnt fun x=>by simp only [nC,Int.natCast_add,Int.cast_ofNat_Int];omega)
  ·intro D xs x hS hI
   have hlt:xs.length=(totP p.pl).length:=by rw [← hS.2,List.length_map]
   subst hI;refine Ac0 ?_;refine RunE.next ?_;refine csr ?_;refine Aa0 (Aa1 rfl (.tail _ (.tail _ (.tail _ (.head _)))) Af4 rfl) rfl rfl rfl ?_;refine Ab4 (Sto.store rfl rfl (.there (.there (.there .here))) Af4 rfl rfl) rfl rfl ?_;refine Ab4 (Sto.store rfl rfl (.there (.there (.there (.there .here)))) Ak8 rfl rfl) rfl rfl ?_;refine nnx ?_;refine RunC.ret ?_;exact Ba3 [D] AA9 Ca0 (.cons .here rfl (.cons .here rfl (.cons .here rfl (.cons .here rfl (.cons .here rfl .nil))))) (.r2 rfl (.one rfl (.tail _ (.tail _ (.head _))) Af4 rfl) (.one rfl (.tail _ (.tail _ (.tail _ (.head _)))) Ak8 rfl)) (Ay8 (by unfold waysA;rw [if_pos hpx,hlt]))
  intro _ _ _ hst;exact hst.elim
end Go.Proofs.YtmkdbdbenfbkhaaGreatDoor
namespace Go.Proofs.YtmkdbdbenfbkhaaGreatDoor
open Go Go.Eng Go.Bk Go.RowKit
theorem Af7 (a b:Int) (W:World):Calls Tryz.prog 27 #[.int .i64 a,.int .i64 b] W (Pure (.agg #[.int .i64 a,.int .i64 b]) W):=by
  refine Aa2 Tryz.func27 rfl rfl ?_;refine st ?_;refine zn (New.alloc Ag0) (fun b4=>?_)
  refine lv (Val.build (parts:=[(0,.tmp 5),(1,.tmp 6)]) rfl Ag0 AD6 rfl) ?_;refine Ab4 (Sto.store rfl rfl .here Ah0 rfl rfl) rfl rfl ?_;refine su ?_;exact Aa4 (.r1 rfl (.agg rfl (.head _) Ah0 rfl)) (by first | rfl | simp)
theorem Bo1 (l l2:List Int) (q q2:Option Addr) (b o c b2 o2 c2:Nat) (W:World) (hS:Sl W q b o 1 (l.map intC)) (hS2:Sl W q2 b2 o2 1 (l2.map intC)) (hl:l.length≤100000) (hl2:l2.length≤100000):Calls Tryz.prog 18 #[.slice q l.length c,.slice q2 l2.length c2] W (Pure (.bool (decide (l=l2))) W):=by
  refine Aa2 Tryz.func18 rfl rfl ?_;refine su ?_;refine cn rfl ?_ ?_
  ·intro c0'
   have hne:¬ l=l2:=fun h=>by (have h9:=c0';rw [h] at h9;simp at h9)
   refine su ?_;exact Aa4 (.r1 rfl (.tmp rfl)) (by rw [decide_eq_false hne])
  intro c0';have hle:l.length=l2.length:=by (have h9:=c0';omega)
  refine st ?_;refine Ad6 (l.length) (fun k q=>(5,.int .i64 (k:Int))::q) (fun _=>_) (fun _=>[]) (fun k=>l.take k=l2.take k) (by simp) rfl (zE 5 rfl rfl (zS 0 rfl (zS 1 rfl (Sub.nil _)))) .nil ?_;intro k kN kI;refine su ?_;refine cn rfl ?_ ?_
  ·intro c1'
   have hk:k < l.length:=by omega
   have hk2:k < l2.length:=by omega
   obtain ⟨x,hx⟩:∃ x,l[k]=x:=⟨_,rfl⟩;obtain ⟨y,hy⟩:∃ y,l2[k]=y:=⟨_,rfl⟩;refine st ?_;refine Ae9 8 As5 .nil ?_;refine va 0 rfl (Aa8 rfl) rfl rfl rfl .nil rfl ?_;refine va 1 rfl (Aa8 rfl) rfl rfl rfl .nil rfl ?_;refine va 2 rfl (Aa6 rfl rfl Ak6 (by omega) (by omega) (hS.ptrM hk)) rfl rfl rfl .nil rfl ?_;refine va 3 rfl (Ab2 rfl (fun w hm=>Sl.loadM1 hS (by decide) hm (by simp) Af4 hk (v:=.int .i64 x) (by simp [intC,hx]))) rfl rfl rfl .nil rfl ?_;refine va 4 rfl (Aa8 rfl) rfl rfl rfl .nil rfl ?_;refine va 5 rfl (Aa8 rfl) rfl rfl rfl .nil rfl ?_;refine va 6 rfl (Aa6 rfl rfl Ak6 (by omega) (by omega) (hS2.ptrM hk2)) rfl rfl rfl .nil rfl ?_;refine va 7 rfl (Ab2 rfl (fun w hm=>Sl.loadM1 hS2 (by decide) hm (by simp) Af4 hk2 (v:=.int .i64 y) (by simp [intC,hy]))) rfl rfl rfl .nil rfl ?_;refine zt ?_;refine zp 8 ?_;refine zd ?_;refine st ?_;refine cn rfl ?_ ?_
   ·intro c2'
    have hne:¬ l=l2:=fun h=>by (subst h;exact absurd (hx.symm.trans hy) (by simpa using c2'))
    refine su ?_;exact Aa4 (.r1 rfl (.tmp rfl)) (by rw [decide_eq_false hne])
   intro c2';refine st ?_;refine lv (Val.add rfl rfl (IntWalk.i64_in _ ⟨by omega,by omega⟩)) ?_;exact Ad2 (by omega) (by rw [List.take_succ_eq_append_getElem hk,List.take_succ_eq_append_getElem hk2,kI,hx,hy,show x=y by simpa using c2']) rfl (zE 5 rfl rfl (zS 0 rfl (zS 1 rfl (Sub.nil _)))) .nil
  intro c1';have hkl:k=l.length:=by omega
  have heq:l=l2:=by (have h9:=kI;rw [hkl,List.take_length,hle,List.take_length] at h9;exact h9)
  refine RunC.exit ?_;refine su ?_;refine Ab0 ?_;refine su ?_;exact Aa4 (.r1 rfl (.tmp rfl)) (by rw [decide_eq_true heq])
end Go.Proofs.YtmkdbdbenfbkhaaGreatDoor
namespace Go.Proofs.YtmkdbdbenfbkhaaGreatDoor
open Go Go.Eng
theorem Cv0:Enters Tryz.prog 14:=Aa3 Tryz.func14 (by kernel_rfl) rfl
theorem CN6:Enters Tryz.prog 16:=Aa3 Tryz.func16 (by kernel_rfl) rfl
theorem CN5:Enters Tryz.prog 17:=Aa3 Tryz.func17 (by kernel_rfl) rfl
theorem CN4:Enters Tryz.prog 18:=Aa3 Tryz.func18 (by kernel_rfl) rfl
theorem CN3:Enters Tryz.prog 26:=Aa3 Tryz.func26 (by kernel_rfl) rfl
theorem At1:Enters Tryz.prog 27:=Aa3 Tryz.func27 (by kernel_rfl) rfl
theorem CL7:Enters Tryz.prog 7:=Aa3 Tryz.func7 (by kernel_rfl) rfl
theorem BU1:placesB Tryz.prog 25=some [(0,1),(1,1),(2,1),(3,1),(4,1)]:=by kernel_rfl
end Go.Proofs.YtmkdbdbenfbkhaaGreatDoor
namespace Go.Wk
open Go Go.Eng Go.RowKit Go.Bk
theorem Cy8:mostL exT=[1,0,2]:=by rfl
theorem Cw2:waysA exP=(1,0):=by decide +kernel
theorem Cy7 (l:List Nat):(l.map fun (n:Nat)=>(n:Int)).map intC=l.map natC:=by rw [List.map_map];rfl
end Go.Wk
namespace Go.Proofs.YtmkdbdbenfbkhaaGreatDoor
open Go Go.Eng Go.Bk Go.Wk Go.RowKit
theorem Bj1 (W:World):Calls Tryz.prog 26 #[] W (News (fun z:ExT=>(exTA z).v) exTB W):=by
  refine Aa2 Tryz.func26 rfl rfl ?_;refine st ?_;refine zn (New.alloc AF9) (fun b0=>?_)
  iterate 4 refine zc (zF rfl At1) (fun w hm=>Af7 _ _ w) ?_
  refine zn (New.alloc Ag0) (fun b1=>?_)
  refine zn (New.alloc Ag0) (fun b2=>?_)
  refine zn (New.alloc Ag0) (fun b3=>?_)
  refine zn (New.alloc Ag0) (fun b4=>?_)
  refine Ab4 (Sto.store rfl rfl (.there (.there (.there .here))) Ah0 rfl rfl) rfl rfl ?_;refine Ab4 (Sto.store rfl rfl (.there (.there .here)) Ah0 rfl rfl) rfl rfl ?_;refine Ab4 (Sto.store rfl rfl (.there .here) Ah0 rfl rfl) rfl rfl ?_;refine Ab4 (Sto.store rfl rfl .here Ah0 rfl rfl) rfl rfl ?_;refine st ?_;refine BO3 (O:=Nat) [⟨9,[],[],fun _=>.agg #[.int .i64 30,.int .i64 40],fun _=>[]⟩,⟨10,[0],[],fun _=>.agg #[.int .i64 20,.int .i64 20],fun _=>[]⟩,⟨11,[0,1],[],fun _=>.agg #[.int .i64 60,.int .i64 70],fun _=>[]⟩,⟨12,[0,1,2],[3],fun l=>match l with | [b12]=>.slice (some ⟨b12,0,none⟩) 3 3 | _=>undef,fun l=>match l with | [b12]=>[(b12,.cells [.int .i64 30,.int .i64 40,.int .i64 20,.int .i64 20,.int .i64 60,.int .i64 70].toArray 37 (0,0))] | _=>[]⟩,⟨13,[],[],fun _=>.agg #[.int .i64 0,.int .i64 0],fun _=>[]⟩,⟨14,[],[],fun _=>.agg #[.int .i64 15,.int .i64 20],fun _=>[]⟩,⟨15,[],[],fun _=>.agg #[.int .i64 45,.int .i64 50],fun _=>[]⟩,⟨16,[4,5,6],[7],fun l=>match l with | [b16]=>.slice (some ⟨b16,0,none⟩) 3 3 | _=>undef,fun l=>match l with | [b16]=>[(b16,.cells [.int .i64 0,.int .i64 0,.int .i64 15,.int .i64 20,.int .i64 45,.int .i64 50].toArray 37 (0,0))] | _=>[]⟩,⟨17,[],[],fun _=>.agg #[.int .i64 15,.int .i64 20],fun _=>[]⟩,⟨18,[],[],fun _=>.agg #[.int .i64 0,.int .i64 0],fun _=>[]⟩,⟨19,[],[],fun _=>.agg #[.int .i64 30,.int .i64 35],fun _=>[]⟩,⟨20,[8,9,10],[11],fun l=>match l with | [b20]=>.slice (some ⟨b20,0,none⟩) 3 3 | _=>undef,fun l=>match l with | [b20]=>[(b20,.cells [.int .i64 15,.int .i64 20,.int .i64 0,.int .i64 0,.int .i64 30,.int .i64 35].toArray 37 (0,0))] | _=>[]⟩,⟨21,[],[],fun _=>.agg #[.int .i64 45,.int .i64 50],fun _=>[]⟩,⟨22,[],[],fun _=>.agg #[.int .i64 30,.int .i64 35],fun _=>[]⟩,⟨23,[],[],fun _=>.agg #[.int .i64 0,.int .i64 0],fun _=>[]⟩,⟨24,[12,13,14],[15],fun l=>match l with | [b24]=>.slice (some ⟨b24,0,none⟩) 3 3 | _=>undef,fun l=>match l with | [b24]=>[(b24,.cells [.int .i64 45,.int .i64 50,.int .i64 30,.int .i64 35,.int .i64 0,.int .i64 0].toArray 37 (0,0))] | _=>[]⟩,⟨25,[4,5,6,7,8,9,10,11,12,13,14,15],[7,11,15,16],fun l=>match l with | [b16,b20,b24,b25]=>.slice (some ⟨b25,0,none⟩) 3 3 | _=>undef,fun l=>match l with | [b16,b20,b24,b25]=>[(b25,.cells [.slice (some ⟨b16,0,none⟩) 3 3,.slice (some ⟨b20,0,none⟩) 3 3,.slice (some ⟨b24,0,none⟩) 3 3].toArray 22 (0,0))] | _=>[]⟩,⟨26,[0,1,2],[],fun _=>.agg #[.int .i64 10,.int .i64 15],fun _=>[]⟩,⟨27,[0,1,2,17],[],fun _=>.agg #[.int .i64 20,.int .i64 20],fun _=>[]⟩,⟨28,[0,1,2,17,18],[],fun _=>.agg #[.int .i64 5,.int .i64 10],fun _=>[]⟩,⟨29,[0,1,2,17,18,19],[20],fun l=>match l with | [b29]=>.slice (some ⟨b29,0,none⟩) 3 3 | _=>undef,fun l=>match l with | [b29]=>[(b29,.cells [.int .i64 10,.int .i64 15,.int .i64 20,.int .i64 20,.int .i64 5,.int .i64 10].toArray 37 (0,0))] | _=>[]⟩,⟨30,[0,1,2,17,18,19],[],fun _=>.agg #[.int .i64 420,.int .i64 480],fun _=>[]⟩,⟨31,[0,1,2,17,18,19,21],[],fun _=>.agg #[.int .i64 380,.int .i64 600],fun _=>[]⟩,⟨32,[0,1,2,17,18,19,21,22],[],fun _=>.agg #[.int .i64 500,.int .i64 540],fun _=>[]⟩,⟨33,[0,1,2,17,18,19,21,22,23],[24],fun l=>match l with | [b33]=>.slice (some ⟨b33,0,none⟩) 3 3 | _=>undef,fun l=>match l with | [b33]=>[(b33,.cells [.int .i64 420,.int .i64 480,.int .i64 380,.int .i64 600,.int .i64 500,.int .i64 540].toArray 37 (0,0))] | _=>[]⟩] 27 25 2 As5 (by kernel_rfl) (by rfl) rfl rfl rfl ?_ ?_
  ·refine AllOk.cons (fun x=>?_) ?_
   ·show OpOk _ _ _ _ _ (_) (_) 0 9 (fun _=>.agg #[.int .i64 30,.int .i64 40]) (fun _=>[])
    exact OpOk.callP rfl (zF rfl At1) rfl rfl (fun w hm=>Af7 _ _ w)
   refine AllOk.cons (fun x=>?_) ?_
   ·show OpOk _ _ _ _ _ ((9,.agg #[.int .i64 30,.int .i64 40])::_) (_) 1 10 (fun _=>.agg #[.int .i64 20,.int .i64 20]) (fun _=>[])
    exact OpOk.callP rfl (zF rfl At1) rfl rfl (fun w hm=>Af7 _ _ w)
   refine AllOk.cons (fun x=>?_) ?_
   ·show OpOk _ _ _ _ _ ((9,.agg #[.int .i64 30,.int .i64 40])::(10,.agg #[.int .i64 20,.int .i64 20])::_) (_) 2 11 (fun _=>.agg #[.int .i64 60,.int .i64 70]) (fun _=>[])
    exact OpOk.callP rfl (zF rfl At1) rfl rfl (fun w hm=>Af7 _ _ w)
   refine AllOk.cons (fun x=>?_) ?_
   ·show OpOk _ _ _ _ _ ((9,.agg #[.int .i64 30,.int .i64 40])::(10,.agg #[.int .i64 20,.int .i64 20])::(11,.agg #[.int .i64 60,.int .i64 70])::_) (_) 3 12 (fun b12=>.slice (some ⟨b12,0,none⟩) 3 3) (fun b12=>[(b12,.cells [.int .i64 30,.int .i64 40,.int .i64 20,.int .i64 20,.int .i64 60,.int .i64 70].toArray 37 (0,0))])
    exact OpOk.new rfl (New.buildSlice (parts:=[(0,.tmp 9),(1,.tmp 10),(2,.tmp 11)]) rfl Av4 Ag0 rfl rfl rfl rfl) rfl rfl
   refine AllOk.cons (fun x=>?_) ?_
   ·show OpOk _ _ _ _ _ (_) (_) 4 13 (fun _=>.agg #[.int .i64 0,.int .i64 0]) (fun _=>[])
    exact OpOk.val rfl (Ab6 rfl (.head _) Ah0 rfl) rfl rfl
   refine AllOk.cons (fun x=>?_) ?_
   ·show OpOk _ _ _ _ _ (_) (_) 5 14 (fun _=>.agg #[.int .i64 15,.int .i64 20]) (fun _=>[])
    exact OpOk.val rfl (Ab6 rfl (.tail _ (.tail _ (.tail _ (.head _)))) Ah0 rfl) rfl rfl
   refine AllOk.cons (fun x=>?_) ?_
   ·show OpOk _ _ _ _ _ (_) (_) 6 15 (fun _=>.agg #[.int .i64 45,.int .i64 50]) (fun _=>[])
    exact OpOk.val rfl (Ab6 rfl (.tail _ (.tail _ (.head _))) Ah0 rfl) rfl rfl
   refine AllOk.cons (fun x=>?_) ?_
   ·show OpOk _ _ _ _ _ ((13,.agg #[.int .i64 0,.int .i64 0])::(14,.agg #[.int .i64 15,.int .i64 20])::(15,.agg #[.int .i64 45,.int .i64 50])::_) (_) 7 16 (fun b16=>.slice (some ⟨b16,0,none⟩) 3 3) (fun b16=>[(b16,.cells [.int .i64 0,.int .i64 0,.int .i64 15,.int .i64 20,.int .i64 45,.int .i64 50].toArray 37 (0,0))])
    exact OpOk.new rfl (New.buildSlice (parts:=[(0,.tmp 13),(1,.tmp 14),(2,.tmp 15)]) rfl Av4 Ag0 rfl rfl rfl rfl) rfl rfl
   refine AllOk.cons (fun x=>?_) ?_
   ·show OpOk _ _ _ _ _ (_) (_) 8 17 (fun _=>.agg #[.int .i64 15,.int .i64 20]) (fun _=>[])
    exact OpOk.val rfl (Ab6 rfl (.tail _ (.tail _ (.tail _ (.head _)))) Ah0 rfl) rfl rfl
   refine AllOk.cons (fun x=>?_) ?_
   ·show OpOk _ _ _ _ _ (_) (_) 9 18 (fun _=>.agg #[.int .i64 0,.int .i64 0]) (fun _=>[])
    exact OpOk.val rfl (Ab6 rfl (.head _) Ah0 rfl) rfl rfl
   refine AllOk.cons (fun x=>?_) ?_
   ·show OpOk _ _ _ _ _ (_) (_) 10 19 (fun _=>.agg #[.int .i64 30,.int .i64 35]) (fun _=>[])
    exact OpOk.val rfl (Ab6 rfl (.tail _ (.head _)) Ah0 rfl) rfl rfl
   refine AllOk.cons (fun x=>?_) ?_
   ·show OpOk _ _ _ _ _ ((17,.agg #[.int .i64 15,.int .i64 20])::(18,.agg #[.int .i64 0,.int .i64 0])::(19,.agg #[.int .i64 30,.int .i64 35])::_) (_) 11 20 (fun b20=>.slice (some ⟨b20,0,none⟩) 3 3) (fun b20=>[(b20,.cells [.int .i64 15,.int .i64 20,.int .i64 0,.int .i64 0,.int .i64 30,.int .i64 35].toArray 37 (0,0))])
    exact OpOk.new rfl (New.buildSlice (parts:=[(0,.tmp 17),(1,.tmp 18),(2,.tmp 19)]) rfl Av4 Ag0 rfl rfl rfl rfl) rfl rfl
   refine AllOk.cons (fun x=>?_) ?_
   ·show OpOk _ _ _ _ _ (_) (_) 12 21 (fun _=>.agg #[.int .i64 45,.int .i64 50]) (fun _=>[])
    exact OpOk.val rfl (Ab6 rfl (.tail _ (.tail _ (.head _))) Ah0 rfl) rfl rfl
   refine AllOk.cons (fun x=>?_) ?_
   ·show OpOk _ _ _ _ _ (_) (_) 13 22 (fun _=>.agg #[.int .i64 30,.int .i64 35]) (fun _=>[])
    exact OpOk.val rfl (Ab6 rfl (.tail _ (.head _)) Ah0 rfl) rfl rfl
   refine AllOk.cons (fun x=>?_) ?_
   ·show OpOk _ _ _ _ _ (_) (_) 14 23 (fun _=>.agg #[.int .i64 0,.int .i64 0]) (fun _=>[])
    exact OpOk.val rfl (Ab6 rfl (.head _) Ah0 rfl) rfl rfl
   refine AllOk.cons (fun x=>?_) ?_
   ·show OpOk _ _ _ _ _ ((21,.agg #[.int .i64 45,.int .i64 50])::(22,.agg #[.int .i64 30,.int .i64 35])::(23,.agg #[.int .i64 0,.int .i64 0])::_) (_) 15 24 (fun b24=>.slice (some ⟨b24,0,none⟩) 3 3) (fun b24=>[(b24,.cells [.int .i64 45,.int .i64 50,.int .i64 30,.int .i64 35,.int .i64 0,.int .i64 0].toArray 37 (0,0))])
    exact OpOk.new rfl (New.buildSlice (parts:=[(0,.tmp 21),(1,.tmp 22),(2,.tmp 23)]) rfl Av4 Ag0 rfl rfl rfl rfl) rfl rfl
   refine AllOk.cons (fun x=>?_) ?_
   ·show OpOk _ _ _ _ _ ((13,.agg #[.int .i64 0,.int .i64 0])::(14,.agg #[.int .i64 15,.int .i64 20])::(15,.agg #[.int .i64 45,.int .i64 50])::(16,.slice (some ⟨(x 7),0,none⟩) 3 3)::(17,.agg #[.int .i64 15,.int .i64 20])::(18,.agg #[.int .i64 0,.int .i64 0])::(19,.agg #[.int .i64 30,.int .i64 35])::(20,.slice (some ⟨(x 11),0,none⟩) 3 3)::(21,.agg #[.int .i64 45,.int .i64 50])::(22,.agg #[.int .i64 30,.int .i64 35])::(23,.agg #[.int .i64 0,.int .i64 0])::(24,.slice (some ⟨(x 15),0,none⟩) 3 3)::_) (((x 7),.cells [.int .i64 0,.int .i64 0,.int .i64 15,.int .i64 20,.int .i64 45,.int .i64 50].toArray 37 (0,0))::((x 11),.cells [.int .i64 15,.int .i64 20,.int .i64 0,.int .i64 0,.int .i64 30,.int .i64 35].toArray 37 (0,0))::((x 15),.cells [.int .i64 45,.int .i64 50,.int .i64 30,.int .i64 35,.int .i64 0,.int .i64 0].toArray 37 (0,0))::_) 16 25 (fun b25=>.slice (some ⟨b25,0,none⟩) 3 3) (fun b25=>[(b25,.cells [.slice (some ⟨(x 7),0,none⟩) 3 3,.slice (some ⟨(x 11),0,none⟩) 3 3,.slice (some ⟨(x 15),0,none⟩) 3 3].toArray 22 (0,0))])
    generalize x 7=b16
    generalize x 11=b20
    generalize x 15=b24
    exact OpOk.new rfl (New.buildSlice (parts:=[(0,.tmp 16),(1,.tmp 20),(2,.tmp 24)]) rfl Aq3 Ak5 rfl rfl rfl rfl) rfl rfl
   refine AllOk.cons (fun x=>?_) ?_
   ·show OpOk _ _ _ _ _ ((9,.agg #[.int .i64 30,.int .i64 40])::(10,.agg #[.int .i64 20,.int .i64 20])::(11,.agg #[.int .i64 60,.int .i64 70])::_) (_) 17 26 (fun _=>.agg #[.int .i64 10,.int .i64 15]) (fun _=>[])
    exact OpOk.callP rfl (zF rfl At1) rfl rfl (fun w hm=>Af7 _ _ w)
   refine AllOk.cons (fun x=>?_) ?_
   ·show OpOk _ _ _ _ _ ((9,.agg #[.int .i64 30,.int .i64 40])::(10,.agg #[.int .i64 20,.int .i64 20])::(11,.agg #[.int .i64 60,.int .i64 70])::(26,.agg #[.int .i64 10,.int .i64 15])::_) (_) 18 27 (fun _=>.agg #[.int .i64 20,.int .i64 20]) (fun _=>[])
    exact OpOk.callP rfl (zF rfl At1) rfl rfl (fun w hm=>Af7 _ _ w)
   refine AllOk.cons (fun x=>?_) ?_
   ·show OpOk _ _ _ _ _ ((9,.agg #[.int .i64 30,.int .i64 40])::(10,.agg #[.int .i64 20,.int .i64 20])::(11,.agg #[.int .i64 60,.int .i64 70])::(26,.agg #[.int .i64 10,.int .i64 15])::(27,.agg #[.int .i64 20,.int .i64 20])::_) (_) 19 28 (fun _=>.agg #[.int .i64 5,.int .i64 10]) (fun _=>[])
    exact OpOk.callP rfl (zF rfl At1) rfl rfl (fun w hm=>Af7 _ _ w)
   refine AllOk.cons (fun x=>?_) ?_
   ·show OpOk _ _ _ _ _ ((9,.agg #[.int .i64 30,.int .i64 40])::(10,.agg #[.int .i64 20,.int .i64 20])::(11,.agg #[.int .i64 60,.int .i64 70])::(26,.agg #[.int .i64 10,.int .i64 15])::(27,.agg #[.int .i64 20,.int .i64 20])::(28,.agg #[.int .i64 5,.int .i64 10])::_) (_) 20 29 (fun b29=>.slice (some ⟨b29,0,none⟩) 3 3) (fun b29=>[(b29,.cells [.int .i64 10,.int .i64 15,.int .i64 20,.int .i64 20,.int .i64 5,.int .i64 10].toArray 37 (0,0))])
    exact OpOk.new rfl (New.buildSlice (parts:=[(0,.tmp 26),(1,.tmp 27),(2,.tmp 28)]) rfl Av4 Ag0 rfl rfl rfl rfl) rfl rfl
   refine AllOk.cons (fun x=>?_) ?_
   ·show OpOk _ _ _ _ _ ((9,.agg #[.int .i64 30,.int .i64 40])::(10,.agg #[.int .i64 20,.int .i64 20])::(11,.agg #[.int .i64 60,.int .i64 70])::(26,.agg #[.int .i64 10,.int .i64 15])::(27,.agg #[.int .i64 20,.int .i64 20])::(28,.agg #[.int .i64 5,.int .i64 10])::_) (_) 21 30 (fun _=>.agg #[.int .i64 420,.int .i64 480]) (fun _=>[])
    exact OpOk.callP rfl (zF rfl At1) rfl rfl (fun w hm=>Af7 _ _ w)
   refine AllOk.cons (fun x=>?_) ?_
   ·show OpOk _ _ _ _ _ ((9,.agg #[.int .i64 30,.int .i64 40])::(10,.agg #[.int .i64 20,.int .i64 20])::(11,.agg #[.int .i64 60,.int .i64 70])::(26,.agg #[.int .i64 10,.int .i64 15])::(27,.agg #[.int .i64 20,.int .i64 20])::(28,.agg #[.int .i64 5,.int .i64 10])::(30,.agg #[.int .i64 420,.int .i64 480])::_) (_) 22 31 (fun _=>.agg #[.int .i64 380,.int .i64 600]) (fun _=>[])
    exact OpOk.callP rfl (zF rfl At1) rfl rfl (fun w hm=>Af7 _ _ w)
   refine AllOk.cons (fun x=>?_) ?_
   ·show OpOk _ _ _ _ _ ((9,.agg #[.int .i64 30,.int .i64 40])::(10,.agg #[.int .i64 20,.int .i64 20])::(11,.agg #[.int .i64 60,.int .i64 70])::(26,.agg #[.int .i64 10,.int .i64 15])::(27,.agg #[.int .i64 20,.int .i64 20])::(28,.agg #[.int .i64 5,.int .i64 10])::(30,.agg #[.int .i64 420,.int .i64 480])::(31,.agg #[.int .i64 380,.int .i64 600])::_) (_) 23 32 (fun _=>.agg #[.int .i64 500,.int .i64 540]) (fun _=>[])
    exact OpOk.callP rfl (zF rfl At1) rfl rfl (fun w hm=>Af7 _ _ w)
   refine AllOk.cons (fun x=>?_) ?_
   ·show OpOk _ _ _ _ _ ((9,.agg #[.int .i64 30,.int .i64 40])::(10,.agg #[.int .i64 20,.int .i64 20])::(11,.agg #[.int .i64 60,.int .i64 70])::(26,.agg #[.int .i64 10,.int .i64 15])::(27,.agg #[.int .i64 20,.int .i64 20])::(28,.agg #[.int .i64 5,.int .i64 10])::(30,.agg #[.int .i64 420,.int .i64 480])::(31,.agg #[.int .i64 380,.int .i64 600])::(32,.agg #[.int .i64 500,.int .i64 540])::_) (_) 24 33 (fun b33=>.slice (some ⟨b33,0,none⟩) 3 3) (fun b33=>[(b33,.cells [.int .i64 420,.int .i64 480,.int .i64 380,.int .i64 600,.int .i64 500,.int .i64 540].toArray 37 (0,0))])
    exact OpOk.new rfl (New.buildSlice (parts:=[(0,.tmp 30),(1,.tmp 31),(2,.tmp 32)]) rfl Av4 Ag0 rfl rfl rfl rfl) rfl rfl
   exact AllOk.nil
  intro x
  show RunB _ _ _ _ 2 (listedK 25 27) ((9,.agg #[.int .i64 30,.int .i64 40])::(10,.agg #[.int .i64 20,.int .i64 20])::(11,.agg #[.int .i64 60,.int .i64 70])::(12,.slice (some ⟨(x 3),0,none⟩) 3 3)::(13,.agg #[.int .i64 0,.int .i64 0])::(14,.agg #[.int .i64 15,.int .i64 20])::(15,.agg #[.int .i64 45,.int .i64 50])::(16,.slice (some ⟨(x 7),0,none⟩) 3 3)::(17,.agg #[.int .i64 15,.int .i64 20])::(18,.agg #[.int .i64 0,.int .i64 0])::(19,.agg #[.int .i64 30,.int .i64 35])::(20,.slice (some ⟨(x 11),0,none⟩) 3 3)::(21,.agg #[.int .i64 45,.int .i64 50])::(22,.agg #[.int .i64 30,.int .i64 35])::(23,.agg #[.int .i64 0,.int .i64 0])::(24,.slice (some ⟨(x 15),0,none⟩) 3 3)::(25,.slice (some ⟨(x 16),0,none⟩) 3 3)::(26,.agg #[.int .i64 10,.int .i64 15])::(27,.agg #[.int .i64 20,.int .i64 20])::(28,.agg #[.int .i64 5,.int .i64 10])::(29,.slice (some ⟨(x 20),0,none⟩) 3 3)::(30,.agg #[.int .i64 420,.int .i64 480])::(31,.agg #[.int .i64 380,.int .i64 600])::(32,.agg #[.int .i64 500,.int .i64 540])::(33,.slice (some ⟨(x 24),0,none⟩) 3 3)::_) _ _ _ (((x 3),.cells [.int .i64 30,.int .i64 40,.int .i64 20,.int .i64 20,.int .i64 60,.int .i64 70].toArray 37 (0,0))::((x 7),.cells [.int .i64 0,.int .i64 0,.int .i64 15,.int .i64 20,.int .i64 45,.int .i64 50].toArray 37 (0,0))::((x 11),.cells [.int .i64 15,.int .i64 20,.int .i64 0,.int .i64 0,.int .i64 30,.int .i64 35].toArray 37 (0,0))::((x 15),.cells [.int .i64 45,.int .i64 50,.int .i64 30,.int .i64 35,.int .i64 0,.int .i64 0].toArray 37 (0,0))::((x 16),.cells [.slice (some ⟨(x 7),0,none⟩) 3 3,.slice (some ⟨(x 11),0,none⟩) 3 3,.slice (some ⟨(x 15),0,none⟩) 3 3].toArray 22 (0,0))::((x 20),.cells [.int .i64 10,.int .i64 15,.int .i64 20,.int .i64 20,.int .i64 5,.int .i64 10].toArray 37 (0,0))::((x 24),.cells [.int .i64 420,.int .i64 480,.int .i64 380,.int .i64 600,.int .i64 500,.int .i64 540].toArray 37 (0,0))::(b4,_)::(b3,_)::(b2,_)::(b1,_)::(b0,_)::_)
  generalize x 3=b12
  generalize x 7=b16
  generalize x 11=b20
  generalize x 15=b24
  generalize x 16=b25
  generalize x 20=b29
  generalize x 24=b33
  refine zo 25 rfl (Val.build (parts:=[(0,.const (.int .i64 360)),(1,.tmp 12),(2,.tmp 25),(3,.tmp 29),(4,.tmp 33)]) rfl AF9 BU1 rfl) ?_;refine zB 26 ?_;refine Ag9 rfl (Sto.store rfl rfl (.there (.there (.there (.there (.there (.there (.there (.there (.there (.there (.there .here))))))))))) At4 rfl rfl) rfl rfl (Ab5 ?_)
  refine zd ?_;refine su ?_;exact RunE.ret (chg:=[]) (.r1 rfl (.agg rfl (.tail _ (.tail _ (.tail _ (.tail _ (.tail _ (.tail _ (.tail _ (.tail _ (.tail _ (.tail _ (.tail _ (.head _)))))))))))) At4 rfl)) (fun _ hm=>⟨⟨b12,b16,b20,b24,b25,b29,b33⟩,rfl,hm.pick (.cons .here rfl (.cons .here rfl (.cons .here rfl (.cons .here rfl (.cons .here rfl (.cons .here rfl (.cons .here rfl .nil)))))))⟩)
theorem Bw6 (x:TrX) (o:TrXOk 10000 x) (htx:tourX x.pl=true) (tl:Blks) (W0 w:World) (hm:Mem W0 [] (trB x++tl) w):Calls Tryz.prog 17 #[.agg x.cells.toArray] w (News (fun z:MostT x.pl=>.tuple #[ownV z.1.1 (mostL x.pl).length,.int .i64 0]) (fun z=>eB 3 z.1.2++[]) w):=by
  have h9:=BO5 x.toA (o.sm (Nat.le_refl _)) (by rw [TrX.toA_pl];exact htx) w (Cs4 o hm);rw [Cf0 o,TrX.toA_pl] at h9;exact h9
theorem Bm1 (t:Tr) (hn:t.fr.length≤6) (z:Eng.Own×OE) (hz:MostOk t z) (l2:List Int) (q2:Option Addr) (b2 o2 c2:Nat) (w:World) (hE:∀ b o,(b,o)∈eB 3 z.2→w.heap[b]? = some o) (hS2:Sl w q2 b2 o2 1 (l2.map intC)) (hl2:l2.length≤100000) :
    Calls Tryz.prog 18 #[ownV z.1 (mostL t).length,.slice q2 l2.length c2] w (Pure (.bool (decide ((mostL t).map (fun (n:Nat)=>(n:Int))=l2))) w):=by
  have hp:=hz.plok hn hE;rw [Ad5 hp.own];have h9:=Bo1 ((mostL t).map fun (n:Nat)=>(n:Int)) l2 (ownQ z.1) q2 (ownK z.1) 0 (ownC z.1) b2 o2 c2 w (by rw [Cy7];exact hp.sl) hS2 (by rw [List.length_map];exact Nat.le_trans hp.few (by decide)) hl2;rw [List.length_map] at h9;exact h9
-- Bi6
set_option maxHeartbeats 1000000 in
theorem AF3 (W:World) (hL:Lw Tryz.prog W):Calls Tryz.prog 6 #[] W (Pure (.bool true) W):=by
  refine Aa2 Tryz.func6 rfl rfl ?_;refine csr ?_;refine vp rfl rfl rfl rfl ?_;refine nsr ?_;refine Ai2 (Ab7 rfl CN3) rfl rfl rfl (fun w hm=>Bj1 w) (fun b11=>?_)
  refine Ab1 (Ab7 rfl CL7) rfl rfl rfl (fun w hm=>(by have h9:=Ax3 (exTA b11) (Cz6 b11) w (hL.mono hm) (Cz8 hm);rw [wT] at h9;exact h9)) ?_
  iterate 5 refine vp rfl rfl rfl rfl ?_
  refine nnx ?_;refine RunC.seq ?_;refine Ak3 (Sub.cons (t:=0) rfl (Sub.cons (t:=1) rfl (Sub.cons (t:=2) rfl (Sub.nil _)))) .nil ?_;refine RunC.region ?_;refine vp rfl rfl rfl rfl ?_;refine As3 (Ab7 rfl CN6) rfl rfl rfl (fun w hm=>Bp3 (AV2 exTS w (hL.mono hm) (by rw [Be4];decide))) (fun z17=>?_)
  obtain ⟨⟨x17,e17⟩,h17⟩:=z17;obtain ⟨p17,e117,o17⟩:=CR0 h17 Cp4;subst e117;dsimp only
  iterate 3 refine vp rfl rfl rfl rfl ?_
  refine Ac3 (New.alloc AF9) rfl rfl rfl (fun b3=>?_)
  refine Ab4 (Sto.store (cs:=zsrdT) (cs':=x17.cells) rfl rfl .here At4 rfl (Ai1 rfl (BV0 _))) rfl rfl ?_;refine vp rfl rfl rfl rfl ?_;refine nsr ?_;refine Aa0 (Ab6 rfl (.head _) At4 rfl) rfl rfl rfl ?_;refine BB8 [(b3,_)] _ rfl (Ab7 rfl CN5) rfl rfl rfl (fun w hm=>Bw6 x17 o17 (by rw [p17];exact Ct9) [] W w (hm.pick (news':=trB x17++[]) (Pick.cnt fun x=>by simp only [nC];omega))) (fun z22=>?_)
  obtain ⟨⟨zm,em⟩,hzm⟩:=z22;rw [p17] at hzm;dsimp only
  iterate 5 refine vp rfl rfl rfl rfl ?_
  refine nsr ?_;refine Ab1 (Ab7 rfl At1) rfl rfl rfl (fun w hm=>Af7 _ _ w) ?_;refine Ab1 (Ab7 rfl At1) rfl rfl rfl (fun w hm=>Af7 _ _ w) ?_;refine Aa0 (Val.build (parts:=[(0,.tmp 25),(1,.tmp 26)]) rfl Bu4 BT9 rfl) rfl rfl rfl ?_;refine Ac3 (New.buildSlice (parts:=[(0,.tmp 27)]) rfl AK2 Bu4 rfl rfl rfl rfl) rfl rfl rfl (fun b28=>?_)
  refine Ab1 (Ab7 rfl At1) rfl rfl rfl (fun w hm=>Af7 _ _ w) ?_;refine Ab1 (Ab7 rfl At1) rfl rfl rfl (fun w hm=>Af7 _ _ w) ?_;refine Aa0 (Val.build (parts:=[(0,.tmp 28),(1,.tmp 29),(2,.tmp 30)]) rfl BO9 BU0 rfl) rfl rfl rfl ?_;refine Ac3 (New.alloc BO9) rfl rfl rfl (fun b7=>?_)
  refine Ab4 (Sto.store rfl rfl .here Bv0 rfl rfl) rfl rfl ?_;refine nsr ?_;refine Aa0 (Ab6 rfl (.head _) Bv0 rfl) rfl rfl rfl ?_;refine Ab1 (Ab7 rfl Cv0) rfl rfl rfl (fun w hm=>(by have h9:=AZ5 (exPA b28) (by show (1:Nat)≤_;decide) w (Bf8 exP.cards (hm.at (.tail _ (.head _))) (fun _=>rfl));rw [Cz9,Cw2] at h9;exact h9)) ?_
  iterate 5 refine vp rfl rfl rfl rfl ?_
  refine nsr ?_;refine vp rfl rfl rfl rfl ?_;refine Aa0 (AM2 rfl Bi6) rfl rfl rfl ?_;refine vp rfl rfl rfl rfl ?_;refine vp rfl rfl rfl rfl ?_;refine Al3 (dj:=40) true rfl (decide_eq_true (by show (5:Int) < ((exTS.length:Nat):Int);rw [Be4];decide)) ?_;refine vp rfl rfl rfl rfl ?_;refine Aa0 (Bs7 (l:=exTS) (b:=5) rfl rfl Bi6 (by rw [Be4];decide)) rfl rfl rfl ?_;refine Aa0 (AZ6 rfl rfl) rfl rfl rfl ?_;refine vp rfl rfl rfl rfl ?_;refine vp rfl rfl rfl rfl ?_;refine Al3 (dj:=45) true rfl (by rfl) ?_
  iterate 4 refine vp rfl rfl rfl rfl ?_
  refine Al3 (dj:=49) true rfl (by rfl) ?_
  iterate 4 refine vp rfl rfl rfl rfl ?_
  refine Al3 (dj:=53) true rfl (by rfl) ?_;refine vp rfl rfl rfl rfl ?_;refine Ac3 (New.buildSlice (parts:=[(0,.const (.int .i64 1)),(1,.const (.int .i64 0)),(2,.const (.int .i64 2))]) rfl Ak6 Ap0 rfl rfl rfl rfl) rfl rfl rfl (fun b55=>?_)
  refine Ab1 (Ab7 rfl CN4) rfl rfl rfl (fun w hm=>(BT5 (p:=(mostL exT).map (fun (n:Nat)=>(n:Int))=[1,0,2]) (by rw [p17];exact Bm1 exT (by decide) (zm,em) hzm [1,0,2] (some ⟨b55,0,none⟩) b55 0 3 w (fun b o h=>hm.at (.tail _ (.tail _ (.tail _ (.tail _ ((by first | exact List.mem_append_left _ h | exact List.mem_append_right _ (List.mem_append_left _ h)))))))) (Bf8 (c:=3) (f:=intC) [1,0,2] (hm.at (.head _)) (fun _=>rfl)) (by decide)) (by rw [Cy8];rfl))) ?_;refine vp rfl rfl rfl rfl ?_;refine vp rfl rfl rfl rfl ?_;refine Al3 (dj:=58) true rfl (by rfl) ?_
  iterate 4 refine vp rfl rfl rfl rfl ?_
  refine Al3 (dj:=62) true rfl (by rfl) ?_
  iterate 4 refine vp rfl rfl rfl rfl ?_
  refine Al3 (dj:=66) true rfl (by rfl) ?_
  iterate 4 refine vp rfl rfl rfl rfl ?_
  refine nnx ?_;refine RunC.ret ?_;exact Aa4 (.r1 rfl (.tmp rfl)) (by first | rfl | simp)
end Go.Proofs.YtmkdbdbenfbkhaaGreatDoor
namespace Go.Proofs.YtmkdbdbenfbkhaaGreatDoor
open Go Go.Eng Go.Bk Go.RowKit

theorem BL6 (t:TrA) (c:CbA) (r:RyA) (p:PsA) (W:World) (hT:TrOk W t) (hR:RyOk W r) (hn1:t.ways.l.length≤9223372036854775807) (hn2:r.shares.l.length≤9223372036854775807):Calls Tryz.prog 5 #[t.v,c.v,r.v,p.v] W (Pure (.bool (greatX t.pl c.pl r.pl p.pl)) W):=by
  have e1:t.pl.ways.length=t.ways.l.length:=by simp [TrA.pl]
  have e2:r.pl.shares.length=r.shares.l.length:=by simp [RyA.pl]
  have f0:len0 t.pl c.pl p.pl=[(t.ways.l.length:Int),(t.stay.l.length:Int),(t.light.l.length:Int),(c.homes.l.length:Int),(c.loans.l.length:Int),(p.cards.l.length:Int)].foldl Max.max (t.fr.l.length:Int):=by unfold len0;rw [e1];rfl
  have f1:len1 t.pl c.pl r.pl p.pl=[(r.terms.l.length:Int),(r.paid.l.length:Int),(r.prices.l.length:Int),(r.shares.l.length:Int),(r.reports.l.length:Int)].foldl Max.max (len0 t.pl c.pl p.pl):=by unfold len1;rw [e2];rfl
  refine Aa2 Tryz.func5 rfl rfl ?_;refine st ?_;refine zn (New.box rfl) (fun b4=>?_)
  refine zn (New.box rfl) (fun b5=>?_)
  refine zn (New.box rfl) (fun b6=>?_)
  refine zn (New.box rfl) (fun b7=>?_)
  refine Aa0 (BI1 (qs:=[(t.ways.l.length:Int),(t.stay.l.length:Int),(t.light.l.length:Int),(c.homes.l.length:Int),(c.loans.l.length:Int),(p.cards.l.length:Int)]) rfl rfl) rfl rfl rfl ?_;refine vp rfl rfl rfl rfl ?_;refine nsr ?_;rw [← f0];refine su ?_;refine Aa0 (BI1 (qs:=[(r.terms.l.length:Int),(r.paid.l.length:Int),(r.prices.l.length:Int),(r.shares.l.length:Int),(r.reports.l.length:Int)]) rfl rfl) rfl rfl rfl ?_;refine vp rfl rfl rfl rfl ?_;refine nnx ?_;refine RunC.seq ?_;refine csr ?_;rw [← f1];refine su ?_;refine Ad6 (t.ways.l.length) (fun k q=>(56,.int .i64 (k:Int))::(9,.int .i64 (len2 (len1 t.pl c.pl r.pl p.pl) (t.pl.ways.take k)))::q) (fun _=>_) (fun _=>[]) (fun _=>True) trivial rfl (zE 56 rfl rfl (zE 9 rfl (by rfl) (zS 4 rfl (zS 5 rfl (zS 6 rfl (zS 7 rfl (zS 54 rfl (zS 55 rfl (Sub.nil _))))))))) (.cons .here rfl (.cons .here rfl (.cons .here rfl (.cons .here rfl .nil)))) ?_;intro k kN kI;clear kI;refine st ?_;refine cn rfl ?_ ?_
  ·intro c0'
   have hk:k < t.ways.l.length:=by omega
   obtain ⟨x,hx⟩:∃ x,t.ways.l[k]=x:=⟨_,rfl⟩;refine st ?_;refine lv (Aa6 rfl rfl Aq3 (by omega) (by omega) (Sl.ptrM hT.ways hk)) ?_;refine lu (Ab2 rfl (fun w hm=>Sl.loadM1 hT.ways (by decide) hm (by simp) Az9 hk (v:=x.v) (by simp [SA.cell,hx]))) ?_;refine lv (Val.max rfl rfl) ?_;refine lv (Val.add rfl rfl (IntWalk.i64_in _ ⟨by omega,by omega⟩)) ?_;exact Ad2 (by omega) trivial rfl (zE 56 rfl rfl (zE 9 rfl (by rw [Ct5 (x:=x.l) (by rw [e1];exact hk) (by simp [TrA.pl,hx])]) (zS 4 rfl (zS 5 rfl (zS 6 rfl (zS 7 rfl (zS 54 rfl (zS 55 rfl (Sub.nil _))))))))) (.cons .here rfl (.cons .here rfl (.cons .here rfl (.cons .here rfl .nil))))
  intro c0';obtain rfl:k=t.ways.l.length:=by omega
  have g1:len2 (len1 t.pl c.pl r.pl p.pl) (t.pl.ways.take t.ways.l.length)=len2 (len1 t.pl c.pl r.pl p.pl) t.pl.ways:=by rw [← e1,List.take_length]
  rw [g1];refine RunC.exit ?_;refine su ?_;refine Ab0 ?_;refine su ?_;refine Ad6 (r.shares.l.length) (fun k q=>(68,.int .i64 (k:Int))::(9,.int .i64 (len2 (len2 (len1 t.pl c.pl r.pl p.pl) t.pl.ways) (r.pl.shares.take k)))::q) (fun _=>_) (fun _=>[]) (fun _=>True) trivial rfl (zE 68 rfl rfl (zE 9 rfl (by rfl) (zS 4 rfl (zS 5 rfl (zS 6 rfl (zS 7 rfl (zS 66 rfl (zS 67 rfl (Sub.nil _))))))))) (.cons .here rfl (.cons .here rfl (.cons .here rfl (.cons .here rfl .nil)))) ?_;intro k kN kI;clear kI;refine st ?_;refine cn rfl ?_ ?_
  ·intro c1'
   have hk:k < r.shares.l.length:=by omega
   obtain ⟨x,hx⟩:∃ x,r.shares.l[k]=x:=⟨_,rfl⟩;refine st ?_;refine lv (Aa6 rfl rfl BJ7 (by omega) (by omega) (Sl.ptrM hR.shares hk)) ?_;refine lu (Ab2 rfl (fun w hm=>Sl.loadM1 hR.shares (by decide) hm (by simp) As7 hk (v:=x.v) (by simp [SA.cell,hx]))) ?_;refine lv (Val.max rfl rfl) ?_;refine lv (Val.add rfl rfl (IntWalk.i64_in _ ⟨by omega,by omega⟩)) ?_;exact Ad2 (by omega) trivial rfl (zE 68 rfl rfl (zE 9 rfl (by rw [Ct5 (x:=x.l) (by rw [e2];exact hk) (by simp [RyA.pl,hx])]) (zS 4 rfl (zS 5 rfl (zS 6 rfl (zS 7 rfl (zS 66 rfl (zS 67 rfl (Sub.nil _))))))))) (.cons .here rfl (.cons .here rfl (.cons .here rfl (.cons .here rfl .nil))))
  intro c1';obtain rfl:k=r.shares.l.length:=by omega
  refine RunC.exit ?_;refine su ?_;refine Ab0 ?_;refine su ?_;exact Aa4 (.r1 rfl (.tmp rfl)) (by unfold greatX lenX;rw [show List.take r.shares.l.length r.pl.shares=r.pl.shares by rw [← e2,List.take_length]])
end Go.Proofs.YtmkdbdbenfbkhaaGreatDoor
namespace Go.Bk
open Go Go.Eng Go.RowKit
abbrev iSh:Sh:=.int .i64
abbrev spSh:Sh:=.st [iSh,iSh]
abbrev lnSh:Sh:=.st [iSh,iSh,iSh,iSh]
abbrev tmSh:Sh:=.st [iSh,iSh,iSh]
abbrev ptSh:Sh:=.st [spSh,spSh,iSh]
abbrev trSh:Sh:=.st [iSh,.sl spSh,.sl (.sl spSh),.sl spSh,.sl spSh]
abbrev cbSh:Sh:=.st [iSh,.sl iSh,iSh,.sl lnSh]
abbrev rySh:Sh:=.st [.sl tmSh,.sl iSh,.sl (.sl iSh),.sl lnSh,.sl iSh]
abbrev psSh:Sh:=.st [.sl ptSh,spSh,spSh]
theorem Ag4 {w:World} {s:Sh} {l:List Sh} {cs:List Value} (h:Rd w (.st (s::l)) cs):∃ a b,cs=a++b∧Rd w s a∧Rd w (.st l) b:=by
  cases h with
  | recS h1 h2=>exact ⟨_,_,rfl,h1,h2⟩
theorem AI1 {w:World} {cs:List Value} (h:Rd w (.st []) cs):cs=[]:=by cases h;rfl
theorem Ap2 {w:World} {cs:List Value} (h:Rd w iSh cs):∃ n:Int,cs=[.int .i64 n]∧True:=by cases h;exact ⟨_,rfl,trivial⟩
theorem Bk9 {w:World} {cs:List Value} (h:Rd w spSh cs):∃ s:Sp,cs=s.cells∧True:=by
  obtain ⟨a,b,rfl,h1,h⟩:=Ag4 h;obtain ⟨c,d,rfl,h2,h⟩:=Ag4 h;obtain rfl:=AI1 h;obtain ⟨n,rfl,_⟩:=Ap2 h1;obtain ⟨m,rfl,_⟩:=Ap2 h2;exact ⟨⟨n,m⟩,rfl,trivial⟩
theorem CQ6 {w:World} {cs:List Value} (h:Rd w tmSh cs):∃ s:Tm,cs=s.cells∧True:=by
  obtain ⟨a,b,rfl,h1,h⟩:=Ag4 h;obtain ⟨c,d,rfl,h2,h⟩:=Ag4 h;obtain ⟨e,f,rfl,h3,h⟩:=Ag4 h;obtain rfl:=AI1 h;obtain ⟨n,rfl,_⟩:=Ap2 h1;obtain ⟨m,rfl,_⟩:=Ap2 h2;obtain ⟨k,rfl,_⟩:=Ap2 h3;exact ⟨⟨n,m,k⟩,rfl,trivial⟩
theorem BT2 {w:World} {cs:List Value} (h:Rd w lnSh cs):∃ a b c d:Int,cs=[.int .i64 a,.int .i64 b,.int .i64 c,.int .i64 d]:=by
  obtain ⟨a,b,rfl,h1,h⟩:=Ag4 h;obtain ⟨c,d,rfl,h2,h⟩:=Ag4 h;obtain ⟨e,f,rfl,h3,h⟩:=Ag4 h;obtain ⟨i,j,rfl,h4,h⟩:=Ag4 h;obtain rfl:=AI1 h;obtain ⟨n,rfl,_⟩:=Ap2 h1;obtain ⟨m,rfl,_⟩:=Ap2 h2;obtain ⟨k,rfl,_⟩:=Ap2 h3;obtain ⟨l,rfl,_⟩:=Ap2 h4;exact ⟨n,m,k,l,rfl⟩
theorem CR2 {w:World} {cs:List Value} (h:Rd w lnSh cs):∃ s:Ln,cs=s.cells∧True:=by
  obtain ⟨a,b,c,d,rfl⟩:=BT2 h;exact ⟨⟨a,b,c,d⟩,rfl,trivial⟩
theorem CQ7 {w:World} {cs:List Value} (h:Rd w lnSh cs):∃ s:Rp,cs=s.cells∧True:=by
  obtain ⟨a,b,c,d,rfl⟩:=BT2 h;exact ⟨⟨a,b,c,d⟩,rfl,trivial⟩
theorem CQ8 {w:World} {cs:List Value} (h:Rd w ptSh cs):∃ s:Pt,cs=s.cells∧True:=by
  obtain ⟨a,b,rfl,h1,h⟩:=Ag4 h;obtain ⟨c,d,rfl,h2,h⟩:=Ag4 h;obtain ⟨e,f,rfl,h3,h⟩:=Ag4 h;obtain rfl:=AI1 h;obtain ⟨n,rfl,_⟩:=Bk9 h1;obtain ⟨m,rfl,_⟩:=Bk9 h2;obtain ⟨k,rfl,_⟩:=Ap2 h3;exact ⟨⟨n,m,k⟩,rfl,trivial⟩
theorem BE4 {α:Type} {f:α→List Value} {p:α→Prop}:∀ {xs:List (List Value)},(∀ x∈xs,∃ a,x=f a∧p a)→∃ l:List α,xs=l.map f∧∀ a∈l,p a
  | [],_=>⟨[],rfl,fun a h=>by cases h⟩
  | x::xs,h=>by
    obtain ⟨a,rfl,ha⟩:=h x (by simp);obtain ⟨l,rfl,hl⟩:=BE4 (xs:=xs) (fun y hy=>h y (List.mem_cons_of_mem _ hy));exact ⟨a::l,rfl,fun b hb=>by rcases List.mem_cons.1 hb with rfl | hb;exact ha;exact hl b hb⟩
structure SaIn {α:Type} (f:α→List Value) (sz:Nat) (p:α→Prop) (w:World) (s:SA α):Prop where
  ok:s.ok f sz w
  each:∀ a∈s.l,p a
  cap:s.l.length≤s.c
  few:s.c≤maxLen
  nq:s.q=none→s.l.length=0∧s.c=0
theorem AD5 {α:Type} {f:α→List Value} {p:α→Prop} {w:World} {e:Sh} (hx:∀ {x},Rd w e x→∃ a,x=f a∧p a) {cs:List Value} (h:Rd w (.sl e) cs):∃ s:SA α,cs=[s.v]∧SaIn f e.size p w s:=by
  cases h with
  | slNil=>exact ⟨⟨[],none,0,0,0⟩,rfl,⟨Sl.emp,(fun a h=>by cases h),Nat.le_refl _,Nat.zero_le _,fun _=>⟨rfl,rfl⟩⟩⟩
  | sl hs hl hc h =>
    obtain ⟨l,rfl,hl2⟩:=BE4 (f:=f) (p:=p) (fun x hx'=>hx (h x hx'));rw [List.length_map] at hl;exact ⟨⟨l,some _,_,_,_⟩,by rw [List.length_map];rfl,⟨hs,hl2,hl,hc,fun h=>by cases h⟩⟩
theorem CQ5 {w:World} {cs:List Value} (h:Rd w trSh cs):∃ t:TrA,cs=t.cells∧TrOk w t∧t.ways.l.length≤maxLen:=by
  obtain ⟨_,_,rfl,h1,h⟩:=Ag4 h;obtain ⟨_,_,rfl,h2,h⟩:=Ag4 h;obtain ⟨_,_,rfl,h3,h⟩:=Ag4 h;obtain ⟨_,_,rfl,h4,h⟩:=Ag4 h;obtain ⟨_,_,rfl,h5,h⟩:=Ag4 h;obtain rfl:=AI1 h;obtain ⟨n,rfl,_⟩:=Ap2 h1;obtain ⟨a,rfl,ha⟩:=AD5 Bk9 h2;obtain ⟨b,rfl,hb⟩:=AD5 (f:=SA.cell) (p:=fun s=>SaIn Sp.cells 2 (fun _=>True) w s) (AD5 Bk9) h3;obtain ⟨c,rfl,hc⟩:=AD5 Bk9 h4;obtain ⟨d,rfl,hd⟩:=AD5 Bk9 h5;exact ⟨⟨n,a,b,c,d⟩,rfl,⟨ha.ok,hb.ok,fun x hx=>(hb.each x hx).ok,hc.ok,hd.ok,hb.nq⟩,Nat.le_trans hb.cap hb.few⟩
theorem CQ9 {w:World} {cs:List Value} (h:Rd w psSh cs):∃ t:PsA,cs=t.cells∧SaIn Pt.cells 5 (fun _=>True) w t.cards:=by
  obtain ⟨_,_,rfl,h1,h⟩:=Ag4 h;obtain ⟨_,_,rfl,h2,h⟩:=Ag4 h;obtain ⟨_,_,rfl,h3,h⟩:=Ag4 h;obtain rfl:=AI1 h;obtain ⟨a,rfl,ha⟩:=AD5 CQ8 h1;obtain ⟨b,rfl,_⟩:=Bk9 h2;obtain ⟨c,rfl,_⟩:=Bk9 h3;exact ⟨⟨a,b,c⟩,rfl,ha⟩
theorem Few.sm {t:TrA} {c:CbA} {r:RyA} {p:PsA} (h:Few t.pl c.pl r.pl p.pl):TrSm t∧CbS c∧RySm r∧p.cards.l.length≤10000:=by
  obtain ⟨h1,h2,h3,h4,h5,h6,h7,h8,h9,h10,h11,h12,h13,h14⟩:=h;have e1:t.pl.ways.length=t.ways.l.length:=by simp [TrA.pl]
  have e2:r.pl.shares.length=r.shares.l.length:=by simp [RyA.pl]
  rw [e1] at h2;rw [e2] at h12
  refine ⟨⟨Nat.le_trans h1 (by decide),Nat.le_trans h2 (by decide),fun x hx=>Nat.le_trans (h3 x.l (List.mem_map.2 ⟨x,hx,rfl⟩)) (by decide),Nat.le_trans h4 (by decide),Nat.le_trans h5 (by decide)⟩,⟨Nat.le_trans h6 (by decide),Nat.le_trans h7 (by decide)⟩,
    ⟨Nat.le_trans h9 (by decide),Nat.le_trans h11 (by decide),Nat.le_trans h12 (by decide),fun x hx=>Nat.le_trans (h13 x.l (List.mem_map.2 ⟨x,hx,rfl⟩)) (by decide),Nat.le_trans h14 (by decide),Nat.le_trans h10 (by decide)⟩,Nat.le_trans h8 (by decide)⟩
end Go.Bk
namespace Go.Proofs.YtmkdbdbenfbkhaaGreatDoor
open Go Go.Eng
theorem Bg2:boolB Tryz.prog 4=true:=by kernel_rfl
theorem CO1:Enters Tryz.prog 10:=Aa3 Tryz.func10 (by kernel_rfl) rfl
theorem CO0:Enters Tryz.prog 11:=Aa3 Tryz.func11 (by kernel_rfl) rfl
theorem CN9:Enters Tryz.prog 12:=Aa3 Tryz.func12 (by kernel_rfl) rfl
theorem CN8:Enters Tryz.prog 13:=Aa3 Tryz.func13 (by kernel_rfl) rfl
theorem CN7:Enters Tryz.prog 15:=Aa3 Tryz.func15 (by kernel_rfl) rfl
theorem CS3:Enters Tryz.prog 5:=Aa3 Tryz.func5 (by kernel_rfl) rfl
theorem CL9:Enters Tryz.prog 6:=Aa3 Tryz.func6 (by kernel_rfl) rfl
theorem CS2:Enters Tryz.prog 8:=Aa3 Tryz.func8 (by kernel_rfl) rfl
theorem CS1:Enters Tryz.prog 9:=Aa3 Tryz.func9 (by kernel_rfl) rfl
end Go.Proofs.YtmkdbdbenfbkhaaGreatDoor
namespace Go.Wk
open Go Go.Eng Go.RowKit Go.Bk
theorem CK1 (c:Cb) (l:Ln):rloanX c l=Go.Le.loanV c l:=by
  unfold rloanX Go.Le.loanV
  by_cases h2:l.kind=2
  · have h01:¬ (l.kind=0∨l.kind=1):=by omega
    rw [if_neg h01,if_pos h2,if_pos h2]
  · rw [if_neg h2,if_neg h2]
    by_cases h01:l.kind=0∨l.kind=1
    · rw [if_pos h01]
      have e:(decide (l.kind=0) || decide (l.kind=1))=true:=by simpa using h01
      rw [e,Bool.true_and]
    · rw [if_neg h01]
      have e:(decide (l.kind=0) || decide (l.kind=1))=false:=by simpa using h01
      rw [e];rfl
theorem CG3 (c:Cb):cabX c=(Go.Le.cabV c && c.loans.all plainL):=by
  rw [CS4]
  congr 1
  unfold rcabX Go.Le.cabV
  have e:(!c.loans.any fun l=>!Go.Le.loanV c l)=c.loans.all (rloanX c):=by
    rw [List.any_eq_not_all_not];simp only [Bool.not_not];exact congrArg c.loans.all (funext fun l=>(CK1 c l).symm)
  rw [e,BX1]
theorem Cn1 (t:Tr):(decide ((if tourX t=true then (0:Int) else 1)=0) == !decide ((toursA t).2.2=1))=true:=by
  unfold toursA
  cases tourX t <;> rfl
theorem Cn2 (r:Ry):(decide ((if royalX r=true then (0:Int) else 1)=0) == !decide ((twiceA r).2.2=1))=true:=by
  unfold twiceA
  cases royalX r
  · rfl
  · rw [if_pos rfl,if_pos rfl]
    cases twiceL r.reports <;> rfl
theorem Cn3 (p:Ps):(decide ((if printsX p=true then (0:Int) else 1)=0) == !decide ((waysA p).2=1))=true:=by
  unfold waysA
  cases printsX p <;> rfl
theorem Cn4 (c:Cb):(decide ((if cabX c=true then (0:Int) else 1)=0) == (!decide ((Go.Le.CheckX c).2=1) && c.loans.all plainL))=true:=by
  have h:=Go.Le.check_err c;rw [CG3]
  cases hv:Go.Le.cabV c with
  | false =>
    rw [h.2 hv];rfl
  | true =>
    have h2:¬ (Go.Le.CheckX c).2=1:=fun h3=>by rw [h.1 h3] at hv;cases hv
    rw [decide_eq_false h2]
    cases c.loans.all plainL <;> rfl
theorem CJ3 {w:World} {cs:List Value} (h:Rd w cbSh cs):∃ t:CbA,cs=t.cells∧CbOk w t∧t.loans.l.length≤t.loans.c∧(t.loans.q=none→t.loans.c=0):=by
  obtain ⟨_,_,rfl,h1,h⟩:=Ag4 h;obtain ⟨_,_,rfl,h2,h⟩:=Ag4 h;obtain ⟨_,_,rfl,h3,h⟩:=Ag4 h;obtain ⟨_,_,rfl,h4,h⟩:=Ag4 h;obtain rfl:=AI1 h;obtain ⟨n,rfl,_⟩:=Ap2 h1;obtain ⟨a,rfl,ha⟩:=AD5 (f:=intC) Ap2 h2;obtain ⟨m,rfl,_⟩:=Ap2 h3;obtain ⟨b,rfl,hb⟩:=AD5 CR2 h4;exact ⟨⟨n,a,m,b⟩,rfl,⟨ha.ok,hb.ok⟩,hb.cap,fun hq=>(hb.nq hq).2⟩
theorem CJ2 {w:World} {cs:List Value} (h:Rd w rySh cs):∃ t:RyA,cs=t.cells∧RyOk w t∧t.shares.l.length≤maxLen∧t.reports.l.length≤t.reports.c∧(t.reports.q=none→t.reports.c=0):=by
  obtain ⟨_,_,rfl,h1,h⟩:=Ag4 h;obtain ⟨_,_,rfl,h2,h⟩:=Ag4 h;obtain ⟨_,_,rfl,h3,h⟩:=Ag4 h;obtain ⟨_,_,rfl,h4,h⟩:=Ag4 h;obtain ⟨_,_,rfl,h5,h⟩:=Ag4 h;obtain rfl:=AI1 h;obtain ⟨a,rfl,ha⟩:=AD5 CQ6 h1;obtain ⟨b,rfl,hb⟩:=AD5 (f:=intC) Ap2 h2;obtain ⟨c,rfl,hc⟩:=AD5 (f:=SA.cell) (p:=fun s=>SaIn intC 1 (fun _=>True) w s) (AD5 (f:=intC) Ap2) h3;obtain ⟨d,rfl,hd⟩:=AD5 CQ7 h4;obtain ⟨e,rfl,he⟩:=AD5 (f:=intC) Ap2 h5;exact ⟨⟨a,b,c,d,e⟩,rfl,⟨ha.ok,hb.ok,hc.ok,fun x hx=>(hc.each x hx).ok,hd.ok,he.ok⟩,Nat.le_trans hc.cap hc.few,hd.cap,fun hq=>(hd.nq hq).2⟩
end Go.Wk
namespace Go.Proofs.YtmkdbdbenfbkhaaGreatDoor
open Go Go.Eng Go.Bk Go.Wk Go.RowKit
set_option maxHeartbeats 1000000 in
theorem BM1 (t:TrA) (c:CbA) (r:RyA) (p:PsA) (W:World) (hL:Lw Tryz.prog W) (hT:TrOk W t) (hC:CbOk W c) (hR:RyOk W r) (hP:p.cards.ok Pt.cells 5 W) (hn1:t.ways.l.length≤9223372036854775807) (hn2:r.shares.l.length≤9223372036854775807)
    (hc1:c.loans.l.length≤c.loans.c) (hc2:c.loans.q=none→c.loans.c=0) (hr1:r.reports.l.length≤r.reports.c) (hr2:r.reports.q=none→r.reports.c=0):Calls Tryz.prog 3 #[t.v,c.v,r.v,p.v] W (Pure (.bool true) W):=by
  refine Aa2 Tryz.func3 rfl rfl ?_;refine csr ?_;refine Ac3 (New.box rfl) rfl rfl rfl (fun b4=>?_)
  refine Ac3 (New.box rfl) rfl rfl rfl (fun b5=>?_)
  refine Ac3 (New.box rfl) rfl rfl rfl (fun b6=>?_)
  refine Ac3 (New.box rfl) rfl rfl rfl (fun b7=>?_)
  refine vp rfl rfl rfl rfl ?_;refine nnx ?_;refine RunC.seq ?_;refine csr ?_;refine Aa0 (Ab6 rfl (.tail _ (.tail _ (.tail _ (.head _)))) At4 rfl) rfl rfl rfl ?_;refine Aa0 (Ab6 rfl (.tail _ (.tail _ (.head _))) Bv1 rfl) rfl rfl rfl ?_;refine Aa0 (Ab6 rfl (.tail _ (.head _)) BP7 rfl) rfl rfl rfl ?_;refine Aa0 (Ab6 rfl (.head _) Bv0 rfl) rfl rfl rfl ?_;refine Ab1 (Ab7 rfl CS3) rfl rfl rfl (fun w hm=>BL6 t c r p w (hT.mono0 hm) (hR.mono0 hm) hn1 hn2) ?_;refine nnx ?_;refine RunC.cond rfl ?_ ?_
  ·intro c0
   have c0':=c0;clear c0;try simp only [nH] at c0'
   refine csr ?_;refine Ab1 (Ab7 rfl CL9) rfl rfl rfl (fun w hm=>AF3 w (hL.mono hm)) ?_;refine vp rfl rfl rfl rfl ?_;refine nnx ?_;refine RunC.ret ?_;refine Ab8 ?_;exact Aa4 (.r1 rfl (.tmp rfl)) (by first | rfl | simp)
  intro c0;have c0':=c0;clear c0;try simp only [nH] at c0'
  obtain ⟨hst,hsc,hsr,hsp⟩:=(CK4 (by simpa using c0')).sm;refine RunC.skip ?_;refine RunE.next ?_;refine csr ?_;refine Aa0 (Ab6 rfl (.tail _ (.tail _ (.tail _ (.head _)))) At4 rfl) rfl rfl rfl ?_;refine Ab1 (Ab7 rfl CL7) rfl rfl rfl (fun w hm=>Ax3 t hst w (hL.mono hm) (hT.mono0 hm)) ?_
  iterate 5 refine vp rfl rfl rfl rfl ?_
  refine nsr ?_;refine Aa0 (Ab6 rfl (.tail _ (.tail _ (.tail _ (.head _)))) At4 rfl) rfl rfl rfl ?_;refine Ab1 (Ab7 rfl CS2) rfl rfl rfl (fun w hm=>BB6 t hst w (hT.mono0 hm)) ?_
  iterate 7 refine vp rfl rfl rfl rfl ?_
  refine nsr ?_;refine Aa0 (Ab6 rfl (.tail _ (.tail _ (.head _))) Bv1 rfl) rfl rfl rfl ?_;refine Ab1 (Ab7 rfl CS1) rfl rfl rfl (fun w hm=>AF4 c hsc w (hL.mono hm) (hC.mono0 hm)) ?_
  iterate 5 refine vp rfl rfl rfl rfl ?_
  refine nsr ?_;refine Aa0 (Ab6 rfl (.tail _ (.tail _ (.head _))) Bv1 rfl) rfl rfl rfl ?_;refine Ab1 (Ab7 rfl CO1) rfl rfl rfl (fun w hm=>BC2 c hsc hc1 hc2 w (hC.mono0 hm)) ?_
  iterate 5 refine vp rfl rfl rfl rfl ?_
  refine nsr ?_;refine Aa0 (Ab6 rfl (.tail _ (.head _)) BP7 rfl) rfl rfl rfl ?_;refine Ab1 (Ab7 rfl CO0) rfl rfl rfl (fun w hm=>AK8 r hsr w (hL.mono hm) (hR.mono0 hm)) ?_
  iterate 5 refine vp rfl rfl rfl rfl ?_
  refine nsr ?_;refine Aa0 (Ab6 rfl (.tail _ (.head _)) BP7 rfl) rfl rfl rfl ?_;refine Ab1 (Ab7 rfl CN9) rfl rfl rfl (fun w hm=>BB5 r hsr hr1 hr2 w (hR.mono0 hm)) ?_
  iterate 7 refine vp rfl rfl rfl rfl ?_
  refine nsr ?_;refine Aa0 (Ab6 rfl (.head _) Bv0 rfl) rfl rfl rfl ?_;refine As3 (Ab7 rfl CN8) rfl rfl rfl (fun w hm=>(AM6 p hsp w (SA.ok.mono0 hP (by decide) hm))) (fun z67=>?_)
  obtain ⟨y67,hy67⟩:=z67;dsimp only
  iterate 5 refine vp rfl rfl rfl rfl ?_
  refine nsr ?_;refine Aa0 (Ab6 rfl (.head _) Bv0 rfl) rfl rfl rfl ?_;refine Ab1 (Ab7 rfl Cv0) rfl rfl rfl (fun w hm=>AZ5 p hsp w (SA.ok.mono0 hP (by decide) hm)) ?_
  iterate 5 refine vp rfl rfl rfl rfl ?_
  refine nsr ?_
  iterate 4 refine vp rfl rfl rfl rfl ?_
  refine Aa0 (At3 rfl rfl Bg2) rfl rfl rfl ?_;refine vp rfl rfl rfl rfl ?_;refine Al3 (dj:=80) true rfl (Cn1 t.pl) ?_
  iterate 5 refine vp rfl rfl rfl rfl ?_
  refine Ab3 (dj:=85) (dp:=88) 3 rfl (fun g85=>by
    have g85':=g85;try simp only [nH] at g85'
    refine Aa0 (Ab6 rfl (.tail _ (.tail _ (.head _))) Bv1 rfl) rfl rfl rfl ?_;refine Ab1 (Ab7 rfl CN7) rfl rfl rfl (fun w hm=>Bk1 c hsc w (hC.mono0 hm)) ?_;refine vp rfl rfl rfl rfl ?_;exact Af6 (Sub.cons rfl (Sub.skip rfl (Sub.skip rfl (Sub.skip rfl (Ai7 rfl (by rw [g85]) (Ad8 _)))))) (List.Sublist.refl _)
  ) (fun g85=>by
    have g85':=g85;try simp only [nH] at g85'
    refine Ac9 rfl rfl rfl ?_;refine Ac9 rfl rfl rfl ?_;refine vp rfl rfl rfl rfl ?_;exact Af6 (Sub.cons rfl (Sub.skip rfl (Sub.skip rfl (Sub.skip rfl (Ai7 rfl (by rw [g85]) (Ad8 _)))))) (List.Sublist.refl _)
  ) ?_
  refine Aa0 (At3 rfl rfl Bg2) rfl rfl rfl ?_;refine vp rfl rfl rfl rfl ?_;refine vp rfl rfl rfl rfl ?_;refine Al3 (dj:=91) true rfl (by exact Cn4 c.pl) ?_
  iterate 4 refine vp rfl rfl rfl rfl ?_
  refine Aa0 (At3 rfl rfl Bg2) rfl rfl rfl ?_;refine vp rfl rfl rfl rfl ?_;refine vp rfl rfl rfl rfl ?_;refine Al3 (dj:=98) true rfl (Cn2 r.pl) ?_
  iterate 4 refine vp rfl rfl rfl rfl ?_
  refine Aa0 (At3 rfl rfl Bg2) rfl rfl rfl ?_;refine vp rfl rfl rfl rfl ?_;refine vp rfl rfl rfl rfl ?_;refine Al3 (dj:=105) true rfl (Cn3 p.pl) ?_;refine Ab1 (Ab7 rfl CL9) rfl rfl rfl (fun w hm=>AF3 w (hL.mono hm)) ?_;refine vp rfl rfl rfl rfl ?_;refine vp rfl rfl rfl rfl ?_;refine nnx ?_;refine RunC.ret ?_;exact Aa4 (.r1 rfl (.tmp rfl)) (by first | rfl | simp)
theorem AT5 (W:World) (vs:List Value) (hL:Lw Tryz.prog W) (h:RdAll W [trSh,cbSh,rySh,psSh] vs):Calls Tryz.prog 3 vs.toArray W (Pure (.bool true) W):=by
  cases h with
  | cons h1 h =>
  cases h with
  | cons h2 h =>
  cases h with
  | cons h3 h =>
  cases h with
  | cons h4 h =>
  cases h
  obtain ⟨t,rfl,ht,hn1⟩:=CQ5 h1;obtain ⟨c,rfl,hc,hc1,hc2⟩:=CJ3 h2;obtain ⟨r,rfl,hr,hn2,hr1,hr2⟩:=CJ2 h3;obtain ⟨p,rfl,hp⟩:=CQ9 h4;exact BM1 t c r p W hL ht hc hr hp.ok (Nat.le_trans hn1 (by decide)) (Nat.le_trans hn2 (by decide)) hc1 hc2 hr1 hr2
end Go.Proofs.YtmkdbdbenfbkhaaGreatDoor
