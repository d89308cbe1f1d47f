/- Walks of package book: slices.ContainsFunc at eight types. -/
import Derived.Test.YtleamcmljcdapaaGreatDoorT01
set_option linter.unusedSimpArgs false
set_option linter.unusedVariables false
namespace Go.Bk
open Go Go.Eng Go.RowKit
structure SA (α:Type) where
  l:List α
  q:Option Addr
  b:Nat
  o:Nat
  c:Nat
def SA.v {α:Type} (s:SA α):Value:=.slice s.q s.l.length s.c
def SA.cell {α:Type} (s:SA α):List Value:=[s.v]
def intC (n:Int):List Value:=[.int .i64 n]
def SA.ok {α:Type} (s:SA α) (f:α→List Value) (sz:Nat) (W:World):Prop:=Sl W s.q s.b s.o sz (s.l.map f)
theorem SA.ok.mono0 {α:Type} {s:SA α} {f:α→List Value} {sz:Nat} {W w:World} {news:Blks} (h:s.ok f sz W) (hz:0 < sz) (hm:Mem W [] news w):s.ok f sz w:=Sl.mono h hz hm (by simp)
def idxP {α:Type} (p:α→Bool) (l:List α):Int:=if l.any p then (l.findIdx p:Int) else -1
theorem idxP_at {α:Type} {p:α→Bool} {l:List α} {k:Nat} (hk:k < l.length) (h:p l[k]=true) (hn:∀ j (hj:j < l.length),j < k→p l[j]=false):idxP p l=(k:Int):=by
  unfold idxP
  rw [if_pos (List.any_eq_true.2 ⟨_,List.getElem_mem hk,h⟩),(List.findIdx_eq hk).2 ⟨h,fun j hj=>hn j (by omega) hj⟩]
theorem idxP_no {α:Type} {p:α→Bool} {l:List α} (hn:∀ j (hj:j < l.length),p l[j]=false):idxP p l = -1:=by
  unfold idxP
  rw [if_neg]
  rw [List.any_eq_true]
  rintro ⟨x,hx,h⟩
  obtain ⟨j,hj,rfl⟩:=List.getElem_of_mem hx
  rw [hn j hj] at h
  cases h
theorem idxP_ge {α:Type} (p:α→Bool) (l:List α):decide (0≤idxP p l)=l.any p:=by
  unfold idxP
  cases h:l.any p with
  | true=>rw [if_pos rfl];exact decide_eq_true (by omega)
  | false=>rw [if_neg (by decide)];rfl
end Go.Bk
namespace Go.Proofs.YtleamcmljcdapaaGreatDoor
open Go Go.Eng Go.Bk

theorem idxfSp_calls (l:List (Sp)) (q:Option Addr) (b o c:Nat) (gf:FuncId) (cap:Array Value) (p:Sp→Bool) (W:World) (hS:Sl W q b o 2 (l.map Sp.cells)) (hl:l.length≤1000000000) (he:Enters Tryz.prog gf) (hf:∀ i (h:i < l.length) w,Mem W [] [] w→Calls Tryz.prog gf ([(.agg (l[i]).cells.toArray:Value)]++cap.toList).toArray w (Pure (.bool (p l[i])) w)) :
    Calls Tryz.prog 171 #[.slice q l.length c,.func (.func gf) #[] cap] W (Pure (.int .i64 (idxP p l)) W):=by
  refine calls_start Tryz.func171 rfl rfl ?_
  refine st ?_
  refine lv (Val.len_sl rfl sl_22) ?_
  refine RunC.loopK (l.length) (fun k q=>(8,.int .i64 (k:Int))::q) (fun _=>_) (fun _=>[]) (fun k=>∀ j (h:j < l.length),j < k→p l[j]=false) (fun j _ h=>absurd h (by omega)) rfl (Sub.consE (t:=8) rfl rfl (Sub.cons (t:=0) rfl (Sub.cons (t:=1) rfl (Sub.cons (t:=7) rfl (Sub.nil _))))) .nil ?_
  intro k kN kI
  refine st ?_
  refine cn rfl ?_ ?_
  ·intro c0'
   have hk:k < l.length:=by omega
   obtain ⟨x,hx⟩:∃ x,l[k]=x:=⟨_,rfl⟩
   refine st ?_
   refine lv (Val.indexAddr_slp rfl rfl sl_22 (by omega) (by omega) (hS.ptrM hk)) ?_
   refine lv (Val.load_gen rfl (fun w hm=>hS.loadX (by decide) hm (by simp) ty_38 hk hx)) ?_
   refine RunL.callP (isCall_value rfl rfl he) rfl rfl rfl (fun w hm=>hx ▸ hf k hk w hm) ?_
   refine st ?_
   refine cn rfl ?_ ?_
   ·intro c1'
    refine st ?_
    refine RunC.ret ?_
    refine RunE.block_ret ?_
    refine RunE.pass_ret ?_
    refine RunE.pass_ret ?_
    refine RunE.block_ret ?_
    refine RunE.pass_ret ?_
    exact RunE.retP (.r1 rfl (.tmp rfl)) (by rw [idxP_at hk (by rw [hx];exact c1') kI])
   intro c1'
   refine st ?_
   refine lv (Val.add rfl rfl (IntWalk.i64_in _ ⟨by omega,by omega⟩)) ?_
   exact RunE.round (by omega) (fun j h h1=>by (rcases Nat.lt_or_ge j k with h4 | h4;exact kI j h h4;have e:j=k:=(by omega);subst e;rw [hx];exact c1')) rfl (Sub.consE (t:=8) rfl rfl (Sub.cons (t:=0) rfl (Sub.cons (t:=1) rfl (Sub.cons (t:=7) rfl (Sub.nil _))))) .nil
  intro c0'
  obtain rfl:k=l.length:=by omega
  refine RunC.exit ?_
  refine RunE.pass_exit ?_
  refine RunE.pass_exit ?_
  refine RunE.block_here ?_
  refine st ?_
  refine RunC.ret ?_
  exact RunE.retP (.r1 rfl (.tmp rfl)) (by rw [idxP_no (fun j hj=>kI j hj hj)])
theorem confSp_calls (l:List (Sp)) (q:Option Addr) (b o c:Nat) (gf:FuncId) (cap:Array Value) (p:Sp→Bool) (W:World) (hS:Sl W q b o 2 (l.map Sp.cells)) (hl:l.length≤1000000000) (he:Enters Tryz.prog gf) (hf:∀ i (h:i < l.length) w,Mem W [] [] w→Calls Tryz.prog gf ([(.agg (l[i]).cells.toArray:Value)]++cap.toList).toArray w (Pure (.bool (p l[i])) w)) :
    Calls Tryz.prog 142 #[.slice q l.length c,.func (.func gf) #[] cap] W (Pure (.bool (l.any p)) W):=by
  refine calls_start Tryz.func142 rfl rfl ?_
  refine st ?_
  refine RunL.callP (isCall_func rfl ent_171) rfl rfl rfl (fun w hm=>idxfSp_calls l q b o c gf cap p w (Sl.mono hS (by decide) hm (by simp)) hl he (fun i h w2 h2=>hf i h w2 (hm.pass h2))) ?_
  refine st ?_
  refine RunC.ret ?_
  exact RunE.retP (.r1 rfl (.tmp rfl)) (by rw [← idxP_ge])
theorem idxfLn_calls (l:List (Ln)) (q:Option Addr) (b o c:Nat) (gf:FuncId) (cap:Array Value) (p:Ln→Bool) (W:World) (hS:Sl W q b o 4 (l.map Ln.cells)) (hl:l.length≤1000000000) (he:Enters Tryz.prog gf) (hf:∀ i (h:i < l.length) w,Mem W [] [] w→Calls Tryz.prog gf ([(.agg (l[i]).cells.toArray:Value)]++cap.toList).toArray w (Pure (.bool (p l[i])) w)) :
    Calls Tryz.prog 178 #[.slice q l.length c,.func (.func gf) #[] cap] W (Pure (.int .i64 (idxP p l)) W):=by
  refine calls_start Tryz.func178 rfl rfl ?_
  refine st ?_
  refine lv (Val.len_sl rfl sl_28) ?_
  refine RunC.loopK (l.length) (fun k q=>(8,.int .i64 (k:Int))::q) (fun _=>_) (fun _=>[]) (fun k=>∀ j (h:j < l.length),j < k→p l[j]=false) (fun j _ h=>absurd h (by omega)) rfl (Sub.consE (t:=8) rfl rfl (Sub.cons (t:=0) rfl (Sub.cons (t:=1) rfl (Sub.cons (t:=7) rfl (Sub.nil _))))) .nil ?_
  intro k kN kI
  refine st ?_
  refine cn rfl ?_ ?_
  ·intro c0'
   have hk:k < l.length:=by omega
   obtain ⟨x,hx⟩:∃ x,l[k]=x:=⟨_,rfl⟩
   refine st ?_
   refine lv (Val.indexAddr_slp rfl rfl sl_28 (by omega) (by omega) (hS.ptrM hk)) ?_
   refine lv (Val.load_gen rfl (fun w hm=>hS.loadX (by decide) hm (by simp) ty_98 hk hx)) ?_
   refine RunL.callP (isCall_value rfl rfl he) rfl rfl rfl (fun w hm=>hx ▸ hf k hk w hm) ?_
   refine st ?_
   refine cn rfl ?_ ?_
   ·intro c1'
    refine st ?_
    refine RunC.ret ?_
    refine RunE.block_ret ?_
    refine RunE.pass_ret ?_
    refine RunE.pass_ret ?_
    refine RunE.block_ret ?_
    refine RunE.pass_ret ?_
    exact RunE.retP (.r1 rfl (.tmp rfl)) (by rw [idxP_at hk (by rw [hx];exact c1') kI])
   intro c1'
   refine st ?_
   refine lv (Val.add rfl rfl (IntWalk.i64_in _ ⟨by omega,by omega⟩)) ?_
   exact RunE.round (by omega) (fun j h h1=>by (rcases Nat.lt_or_ge j k with h4 | h4;exact kI j h h4;have e:j=k:=(by omega);subst e;rw [hx];exact c1')) rfl (Sub.consE (t:=8) rfl rfl (Sub.cons (t:=0) rfl (Sub.cons (t:=1) rfl (Sub.cons (t:=7) rfl (Sub.nil _))))) .nil
  intro c0'
  obtain rfl:k=l.length:=by omega
  refine RunC.exit ?_
  refine RunE.pass_exit ?_
  refine RunE.pass_exit ?_
  refine RunE.block_here ?_
  refine st ?_
  refine RunC.ret ?_
  exact RunE.retP (.r1 rfl (.tmp rfl)) (by rw [idxP_no (fun j hj=>kI j hj hj)])
theorem confLn_calls (l:List (Ln)) (q:Option Addr) (b o c:Nat) (gf:FuncId) (cap:Array Value) (p:Ln→Bool) (W:World) (hS:Sl W q b o 4 (l.map Ln.cells)) (hl:l.length≤1000000000) (he:Enters Tryz.prog gf) (hf:∀ i (h:i < l.length) w,Mem W [] [] w→Calls Tryz.prog gf ([(.agg (l[i]).cells.toArray:Value)]++cap.toList).toArray w (Pure (.bool (p l[i])) w)) :
    Calls Tryz.prog 152 #[.slice q l.length c,.func (.func gf) #[] cap] W (Pure (.bool (l.any p)) W):=by
  refine calls_start Tryz.func152 rfl rfl ?_
  refine st ?_
  refine RunL.callP (isCall_func rfl ent_178) rfl rfl rfl (fun w hm=>idxfLn_calls l q b o c gf cap p w (Sl.mono hS (by decide) hm (by simp)) hl he (fun i h w2 h2=>hf i h w2 (hm.pass h2))) ?_
  refine st ?_
  refine RunC.ret ?_
  exact RunE.retP (.r1 rfl (.tmp rfl)) (by rw [← idxP_ge])
theorem idxfTm_calls (l:List (Tm)) (q:Option Addr) (b o c:Nat) (gf:FuncId) (cap:Array Value) (p:Tm→Bool) (W:World) (hS:Sl W q b o 3 (l.map Tm.cells)) (hl:l.length≤1000000000) (he:Enters Tryz.prog gf) (hf:∀ i (h:i < l.length) w,Mem W [] [] w→Calls Tryz.prog gf ([(.agg (l[i]).cells.toArray:Value)]++cap.toList).toArray w (Pure (.bool (p l[i])) w)) :
    Calls Tryz.prog 179 #[.slice q l.length c,.func (.func gf) #[] cap] W (Pure (.int .i64 (idxP p l)) W):=by
  refine calls_start Tryz.func179 rfl rfl ?_
  refine st ?_
  refine lv (Val.len_sl rfl sl_31) ?_
  refine RunC.loopK (l.length) (fun k q=>(8,.int .i64 (k:Int))::q) (fun _=>_) (fun _=>[]) (fun k=>∀ j (h:j < l.length),j < k→p l[j]=false) (fun j _ h=>absurd h (by omega)) rfl (Sub.consE (t:=8) rfl rfl (Sub.cons (t:=0) rfl (Sub.cons (t:=1) rfl (Sub.cons (t:=7) rfl (Sub.nil _))))) .nil ?_
  intro k kN kI
  refine st ?_
  refine cn rfl ?_ ?_
  ·intro c0'
   have hk:k < l.length:=by omega
   obtain ⟨x,hx⟩:∃ x,l[k]=x:=⟨_,rfl⟩
   refine st ?_
   refine lv (Val.indexAddr_slp rfl rfl sl_31 (by omega) (by omega) (hS.ptrM hk)) ?_
   refine lv (Val.load_gen rfl (fun w hm=>hS.loadX (by decide) hm (by simp) ty_109 hk hx)) ?_
   refine RunL.callP (isCall_value rfl rfl he) rfl rfl rfl (fun w hm=>hx ▸ hf k hk w hm) ?_
   refine st ?_
   refine cn rfl ?_ ?_
   ·intro c1'
    refine st ?_
    refine RunC.ret ?_
    refine RunE.block_ret ?_
    refine RunE.pass_ret ?_
    refine RunE.pass_ret ?_
    refine RunE.block_ret ?_
    refine RunE.pass_ret ?_
    exact RunE.retP (.r1 rfl (.tmp rfl)) (by rw [idxP_at hk (by rw [hx];exact c1') kI])
   intro c1'
   refine st ?_
   refine lv (Val.add rfl rfl (IntWalk.i64_in _ ⟨by omega,by omega⟩)) ?_
   exact RunE.round (by omega) (fun j h h1=>by (rcases Nat.lt_or_ge j k with h4 | h4;exact kI j h h4;have e:j=k:=(by omega);subst e;rw [hx];exact c1')) rfl (Sub.consE (t:=8) rfl rfl (Sub.cons (t:=0) rfl (Sub.cons (t:=1) rfl (Sub.cons (t:=7) rfl (Sub.nil _))))) .nil
  intro c0'
  obtain rfl:k=l.length:=by omega
  refine RunC.exit ?_
  refine RunE.pass_exit ?_
  refine RunE.pass_exit ?_
  refine RunE.block_here ?_
  refine st ?_
  refine RunC.ret ?_
  exact RunE.retP (.r1 rfl (.tmp rfl)) (by rw [idxP_no (fun j hj=>kI j hj hj)])
theorem confTm_calls (l:List (Tm)) (q:Option Addr) (b o c:Nat) (gf:FuncId) (cap:Array Value) (p:Tm→Bool) (W:World) (hS:Sl W q b o 3 (l.map Tm.cells)) (hl:l.length≤1000000000) (he:Enters Tryz.prog gf) (hf:∀ i (h:i < l.length) w,Mem W [] [] w→Calls Tryz.prog gf ([(.agg (l[i]).cells.toArray:Value)]++cap.toList).toArray w (Pure (.bool (p l[i])) w)) :
    Calls Tryz.prog 161 #[.slice q l.length c,.func (.func gf) #[] cap] W (Pure (.bool (l.any p)) W):=by
  refine calls_start Tryz.func161 rfl rfl ?_
  refine st ?_
  refine RunL.callP (isCall_func rfl ent_179) rfl rfl rfl (fun w hm=>idxfTm_calls l q b o c gf cap p w (Sl.mono hS (by decide) hm (by simp)) hl he (fun i h w2 h2=>hf i h w2 (hm.pass h2))) ?_
  refine st ?_
  refine RunC.ret ?_
  exact RunE.retP (.r1 rfl (.tmp rfl)) (by rw [← idxP_ge])
theorem idxfRp_calls (l:List (Rp)) (q:Option Addr) (b o c:Nat) (gf:FuncId) (cap:Array Value) (p:Rp→Bool) (W:World) (hS:Sl W q b o 4 (l.map Rp.cells)) (hl:l.length≤1000000000) (he:Enters Tryz.prog gf) (hf:∀ i (h:i < l.length) w,Mem W [] [] w→Calls Tryz.prog gf ([(.agg (l[i]).cells.toArray:Value)]++cap.toList).toArray w (Pure (.bool (p l[i])) w)) :
    Calls Tryz.prog 182 #[.slice q l.length c,.func (.func gf) #[] cap] W (Pure (.int .i64 (idxP p l)) W):=by
  refine calls_start Tryz.func182 rfl rfl ?_
  refine st ?_
  refine lv (Val.len_sl rfl sl_33) ?_
  refine RunC.loopK (l.length) (fun k q=>(8,.int .i64 (k:Int))::q) (fun _=>_) (fun _=>[]) (fun k=>∀ j (h:j < l.length),j < k→p l[j]=false) (fun j _ h=>absurd h (by omega)) rfl (Sub.consE (t:=8) rfl rfl (Sub.cons (t:=0) rfl (Sub.cons (t:=1) rfl (Sub.cons (t:=7) rfl (Sub.nil _))))) .nil ?_
  intro k kN kI
  refine st ?_
  refine cn rfl ?_ ?_
  ·intro c0'
   have hk:k < l.length:=by omega
   obtain ⟨x,hx⟩:∃ x,l[k]=x:=⟨_,rfl⟩
   refine st ?_
   refine lv (Val.indexAddr_slp rfl rfl sl_33 (by omega) (by omega) (hS.ptrM hk)) ?_
   refine lv (Val.load_gen rfl (fun w hm=>hS.loadX (by decide) hm (by simp) ty_111 hk hx)) ?_
   refine RunL.callP (isCall_value rfl rfl he) rfl rfl rfl (fun w hm=>hx ▸ hf k hk w hm) ?_
   refine st ?_
   refine cn rfl ?_ ?_
   ·intro c1'
    refine st ?_
    refine RunC.ret ?_
    refine RunE.block_ret ?_
    refine RunE.pass_ret ?_
    refine RunE.pass_ret ?_
    refine RunE.block_ret ?_
    refine RunE.pass_ret ?_
    exact RunE.retP (.r1 rfl (.tmp rfl)) (by rw [idxP_at hk (by rw [hx];exact c1') kI])
   intro c1'
   refine st ?_
   refine lv (Val.add rfl rfl (IntWalk.i64_in _ ⟨by omega,by omega⟩)) ?_
   exact RunE.round (by omega) (fun j h h1=>by (rcases Nat.lt_or_ge j k with h4 | h4;exact kI j h h4;have e:j=k:=(by omega);subst e;rw [hx];exact c1')) rfl (Sub.consE (t:=8) rfl rfl (Sub.cons (t:=0) rfl (Sub.cons (t:=1) rfl (Sub.cons (t:=7) rfl (Sub.nil _))))) .nil
  intro c0'
  obtain rfl:k=l.length:=by omega
  refine RunC.exit ?_
  refine RunE.pass_exit ?_
  refine RunE.pass_exit ?_
  refine RunE.block_here ?_
  refine st ?_
  refine RunC.ret ?_
  exact RunE.retP (.r1 rfl (.tmp rfl)) (by rw [idxP_no (fun j hj=>kI j hj hj)])
theorem confRp_calls (l:List (Rp)) (q:Option Addr) (b o c:Nat) (gf:FuncId) (cap:Array Value) (p:Rp→Bool) (W:World) (hS:Sl W q b o 4 (l.map Rp.cells)) (hl:l.length≤1000000000) (he:Enters Tryz.prog gf) (hf:∀ i (h:i < l.length) w,Mem W [] [] w→Calls Tryz.prog gf ([(.agg (l[i]).cells.toArray:Value)]++cap.toList).toArray w (Pure (.bool (p l[i])) w)) :
    Calls Tryz.prog 164 #[.slice q l.length c,.func (.func gf) #[] cap] W (Pure (.bool (l.any p)) W):=by
  refine calls_start Tryz.func164 rfl rfl ?_
  refine st ?_
  refine RunL.callP (isCall_func rfl ent_182) rfl rfl rfl (fun w hm=>idxfRp_calls l q b o c gf cap p w (Sl.mono hS (by decide) hm (by simp)) hl he (fun i h w2 h2=>hf i h w2 (hm.pass h2))) ?_
  refine st ?_
  refine RunC.ret ?_
  exact RunE.retP (.r1 rfl (.tmp rfl)) (by rw [← idxP_ge])
theorem idxfPt_calls (l:List (Pt)) (q:Option Addr) (b o c:Nat) (gf:FuncId) (cap:Array Value) (p:Pt→Bool) (W:World) (hS:Sl W q b o 5 (l.map Pt.cells)) (hl:l.length≤1000000000) (he:Enters Tryz.prog gf) (hf:∀ i (h:i < l.length) w,Mem W [] [] w→Calls Tryz.prog gf ([(.agg (l[i]).cells.toArray:Value)]++cap.toList).toArray w (Pure (.bool (p l[i])) w)) :
    Calls Tryz.prog 165 #[.slice q l.length c,.func (.func gf) #[] cap] W (Pure (.int .i64 (idxP p l)) W):=by
  refine calls_start Tryz.func165 rfl rfl ?_
  refine st ?_
  refine lv (Val.len_sl rfl sl_36) ?_
  refine RunC.loopK (l.length) (fun k q=>(8,.int .i64 (k:Int))::q) (fun _=>_) (fun _=>[]) (fun k=>∀ j (h:j < l.length),j < k→p l[j]=false) (fun j _ h=>absurd h (by omega)) rfl (Sub.consE (t:=8) rfl rfl (Sub.cons (t:=0) rfl (Sub.cons (t:=1) rfl (Sub.cons (t:=7) rfl (Sub.nil _))))) .nil ?_
  intro k kN kI
  refine st ?_
  refine cn rfl ?_ ?_
  ·intro c0'
   have hk:k < l.length:=by omega
   obtain ⟨x,hx⟩:∃ x,l[k]=x:=⟨_,rfl⟩
   refine st ?_
   refine lv (Val.indexAddr_slp rfl rfl sl_36 (by omega) (by omega) (hS.ptrM hk)) ?_
   refine lv (Val.load_gen rfl (fun w hm=>hS.loadX (by decide) hm (by simp) ty_120 hk hx)) ?_
   refine RunL.callP (isCall_value rfl rfl he) rfl rfl rfl (fun w hm=>hx ▸ hf k hk w hm) ?_
   refine st ?_
   refine cn rfl ?_ ?_
   ·intro c1'
    refine st ?_
    refine RunC.ret ?_
    refine RunE.block_ret ?_
    refine RunE.pass_ret ?_
    refine RunE.pass_ret ?_
    refine RunE.block_ret ?_
    refine RunE.pass_ret ?_
    exact RunE.retP (.r1 rfl (.tmp rfl)) (by rw [idxP_at hk (by rw [hx];exact c1') kI])
   intro c1'
   refine st ?_
   refine lv (Val.add rfl rfl (IntWalk.i64_in _ ⟨by omega,by omega⟩)) ?_
   exact RunE.round (by omega) (fun j h h1=>by (rcases Nat.lt_or_ge j k with h4 | h4;exact kI j h h4;have e:j=k:=(by omega);subst e;rw [hx];exact c1')) rfl (Sub.consE (t:=8) rfl rfl (Sub.cons (t:=0) rfl (Sub.cons (t:=1) rfl (Sub.cons (t:=7) rfl (Sub.nil _))))) .nil
  intro c0'
  obtain rfl:k=l.length:=by omega
  refine RunC.exit ?_
  refine RunE.pass_exit ?_
  refine RunE.pass_exit ?_
  refine RunE.block_here ?_
  refine st ?_
  refine RunC.ret ?_
  exact RunE.retP (.r1 rfl (.tmp rfl)) (by rw [idxP_no (fun j hj=>kI j hj hj)])
theorem confPt_calls (l:List (Pt)) (q:Option Addr) (b o c:Nat) (gf:FuncId) (cap:Array Value) (p:Pt→Bool) (W:World) (hS:Sl W q b o 5 (l.map Pt.cells)) (hl:l.length≤1000000000) (he:Enters Tryz.prog gf) (hf:∀ i (h:i < l.length) w,Mem W [] [] w→Calls Tryz.prog gf ([(.agg (l[i]).cells.toArray:Value)]++cap.toList).toArray w (Pure (.bool (p l[i])) w)) :
    Calls Tryz.prog 132 #[.slice q l.length c,.func (.func gf) #[] cap] W (Pure (.bool (l.any p)) W):=by
  refine calls_start Tryz.func132 rfl rfl ?_
  refine st ?_
  refine RunL.callP (isCall_func rfl ent_165) rfl rfl rfl (fun w hm=>idxfPt_calls l q b o c gf cap p w (Sl.mono hS (by decide) hm (by simp)) hl he (fun i h w2 h2=>hf i h w2 (hm.pass h2))) ?_
  refine st ?_
  refine RunC.ret ?_
  exact RunE.retP (.r1 rfl (.tmp rfl)) (by rw [← idxP_ge])
theorem idxfI_calls (l:List (Int)) (q:Option Addr) (b o c:Nat) (gf:FuncId) (cap:Array Value) (p:Int→Bool) (W:World) (hS:Sl W q b o 1 (l.map (fun n:Int=>[Value.int .i64 n]))) (hl:l.length≤1000000000) (he:Enters Tryz.prog gf) (hf:∀ i (h:i < l.length) w,Mem W [] [] w→Calls Tryz.prog gf ([(.int .i64 l[i]:Value)]++cap.toList).toArray w (Pure (.bool (p l[i])) w)) :
    Calls Tryz.prog 180 #[.slice q l.length c,.func (.func gf) #[] cap] W (Pure (.int .i64 (idxP p l)) W):=by
  refine calls_start Tryz.func180 rfl rfl ?_
  refine st ?_
  refine lv (Val.len_sl rfl sl_27) ?_
  refine RunC.loopK (l.length) (fun k q=>(8,.int .i64 (k:Int))::q) (fun _=>_) (fun _=>[]) (fun k=>∀ j (h:j < l.length),j < k→p l[j]=false) (fun j _ h=>absurd h (by omega)) rfl (Sub.consE (t:=8) rfl rfl (Sub.cons (t:=0) rfl (Sub.cons (t:=1) rfl (Sub.cons (t:=7) rfl (Sub.nil _))))) .nil ?_
  intro k kN kI
  refine st ?_
  refine cn rfl ?_ ?_
  ·intro c0'
   have hk:k < l.length:=by omega
   obtain ⟨x,hx⟩:∃ x,l[k]=x:=⟨_,rfl⟩
   refine st ?_
   refine lv (Val.indexAddr_slp rfl rfl sl_27 (by omega) (by omega) (hS.ptrM hk)) ?_
   refine lv (Val.load_gen rfl (fun w hm=>hS.loadM1 (by decide) hm (by simp) ty_3 hk (v:=.int .i64 x) (by simp [hx]))) ?_
   refine RunL.callP (isCall_value rfl rfl he) rfl rfl rfl (fun w hm=>hx ▸ hf k hk w hm) ?_
   refine st ?_
   refine cn rfl ?_ ?_
   ·intro c1'
    refine st ?_
    refine RunC.ret ?_
    refine RunE.block_ret ?_
    refine RunE.pass_ret ?_
    refine RunE.pass_ret ?_
    refine RunE.block_ret ?_
    refine RunE.pass_ret ?_
    exact RunE.retP (.r1 rfl (.tmp rfl)) (by rw [idxP_at hk (by rw [hx];exact c1') kI])
   intro c1'
   refine st ?_
   refine lv (Val.add rfl rfl (IntWalk.i64_in _ ⟨by omega,by omega⟩)) ?_
   exact RunE.round (by omega) (fun j h h1=>by (rcases Nat.lt_or_ge j k with h4 | h4;exact kI j h h4;have e:j=k:=(by omega);subst e;rw [hx];exact c1')) rfl (Sub.consE (t:=8) rfl rfl (Sub.cons (t:=0) rfl (Sub.cons (t:=1) rfl (Sub.cons (t:=7) rfl (Sub.nil _))))) .nil
  intro c0'
  obtain rfl:k=l.length:=by omega
  refine RunC.exit ?_
  refine RunE.pass_exit ?_
  refine RunE.pass_exit ?_
  refine RunE.block_here ?_
  refine st ?_
  refine RunC.ret ?_
  exact RunE.retP (.r1 rfl (.tmp rfl)) (by rw [idxP_no (fun j hj=>kI j hj hj)])
theorem confI_calls (l:List (Int)) (q:Option Addr) (b o c:Nat) (gf:FuncId) (cap:Array Value) (p:Int→Bool) (W:World) (hS:Sl W q b o 1 (l.map (fun n:Int=>[Value.int .i64 n]))) (hl:l.length≤1000000000) (he:Enters Tryz.prog gf) (hf:∀ i (h:i < l.length) w,Mem W [] [] w→Calls Tryz.prog gf ([(.int .i64 l[i]:Value)]++cap.toList).toArray w (Pure (.bool (p l[i])) w)) :
    Calls Tryz.prog 162 #[.slice q l.length c,.func (.func gf) #[] cap] W (Pure (.bool (l.any p)) W):=by
  refine calls_start Tryz.func162 rfl rfl ?_
  refine st ?_
  refine RunL.callP (isCall_func rfl ent_180) rfl rfl rfl (fun w hm=>idxfI_calls l q b o c gf cap p w (Sl.mono hS (by decide) hm (by simp)) hl he (fun i h w2 h2=>hf i h w2 (hm.pass h2))) ?_
  refine st ?_
  refine RunC.ret ?_
  exact RunE.retP (.r1 rfl (.tmp rfl)) (by rw [← idxP_ge])
theorem idxfRS_calls (l:List (SA Sp)) (q:Option Addr) (b o c:Nat) (gf:FuncId) (cap:Array Value) (p:SA Sp→Bool) (W:World) (hS:Sl W q b o 1 (l.map SA.cell)) (hl:l.length≤1000000000) (he:Enters Tryz.prog gf) (hf:∀ i (h:i < l.length) w,Mem W [] [] w→Calls Tryz.prog gf ([((l[i]).v:Value)]++cap.toList).toArray w (Pure (.bool (p l[i])) w)) :
    Calls Tryz.prog 172 #[.slice q l.length c,.func (.func gf) #[] cap] W (Pure (.int .i64 (idxP p l)) W):=by
  refine calls_start Tryz.func172 rfl rfl ?_
  refine st ?_
  refine lv (Val.len_sl rfl sl_23) ?_
  refine RunC.loopK (l.length) (fun k q=>(8,.int .i64 (k:Int))::q) (fun _=>_) (fun _=>[]) (fun k=>∀ j (h:j < l.length),j < k→p l[j]=false) (fun j _ h=>absurd h (by omega)) rfl (Sub.consE (t:=8) rfl rfl (Sub.cons (t:=0) rfl (Sub.cons (t:=1) rfl (Sub.cons (t:=7) rfl (Sub.nil _))))) .nil ?_
  intro k kN kI
  refine st ?_
  refine cn rfl ?_ ?_
  ·intro c0'
   have hk:k < l.length:=by omega
   obtain ⟨x,hx⟩:∃ x,l[k]=x:=⟨_,rfl⟩
   refine st ?_
   refine lv (Val.indexAddr_slp rfl rfl sl_23 (by omega) (by omega) (hS.ptrM hk)) ?_
   refine lv (Val.load_gen rfl (fun w hm=>hS.loadM1 (by decide) hm (by simp) ty_22 hk (v:=(x).v) (by simp [hx,SA.cell]))) ?_
   refine RunL.callP (isCall_value rfl rfl he) rfl rfl rfl (fun w hm=>hx ▸ hf k hk w hm) ?_
   refine st ?_
   refine cn rfl ?_ ?_
   ·intro c1'
    refine st ?_
    refine RunC.ret ?_
    refine RunE.block_ret ?_
    refine RunE.pass_ret ?_
    refine RunE.pass_ret ?_
    refine RunE.block_ret ?_
    refine RunE.pass_ret ?_
    exact RunE.retP (.r1 rfl (.tmp rfl)) (by rw [idxP_at hk (by rw [hx];exact c1') kI])
   intro c1'
   refine st ?_
   refine lv (Val.add rfl rfl (IntWalk.i64_in _ ⟨by omega,by omega⟩)) ?_
   exact RunE.round (by omega) (fun j h h1=>by (rcases Nat.lt_or_ge j k with h4 | h4;exact kI j h h4;have e:j=k:=(by omega);subst e;rw [hx];exact c1')) rfl (Sub.consE (t:=8) rfl rfl (Sub.cons (t:=0) rfl (Sub.cons (t:=1) rfl (Sub.cons (t:=7) rfl (Sub.nil _))))) .nil
  intro c0'
  obtain rfl:k=l.length:=by omega
  refine RunC.exit ?_
  refine RunE.pass_exit ?_
  refine RunE.pass_exit ?_
  refine RunE.block_here ?_
  refine st ?_
  refine RunC.ret ?_
  exact RunE.retP (.r1 rfl (.tmp rfl)) (by rw [idxP_no (fun j hj=>kI j hj hj)])
theorem confRS_calls (l:List (SA Sp)) (q:Option Addr) (b o c:Nat) (gf:FuncId) (cap:Array Value) (p:SA Sp→Bool) (W:World) (hS:Sl W q b o 1 (l.map SA.cell)) (hl:l.length≤1000000000) (he:Enters Tryz.prog gf) (hf:∀ i (h:i < l.length) w,Mem W [] [] w→Calls Tryz.prog gf ([((l[i]).v:Value)]++cap.toList).toArray w (Pure (.bool (p l[i])) w)) :
    Calls Tryz.prog 143 #[.slice q l.length c,.func (.func gf) #[] cap] W (Pure (.bool (l.any p)) W):=by
  refine calls_start Tryz.func143 rfl rfl ?_
  refine st ?_
  refine RunL.callP (isCall_func rfl ent_172) rfl rfl rfl (fun w hm=>idxfRS_calls l q b o c gf cap p w (Sl.mono hS (by decide) hm (by simp)) hl he (fun i h w2 h2=>hf i h w2 (hm.pass h2))) ?_
  refine st ?_
  refine RunC.ret ?_
  exact RunE.retP (.r1 rfl (.tmp rfl)) (by rw [← idxP_ge])
theorem idxfRI_calls (l:List (SA Int)) (q:Option Addr) (b o c:Nat) (gf:FuncId) (cap:Array Value) (p:SA Int→Bool) (W:World) (hS:Sl W q b o 1 (l.map SA.cell)) (hl:l.length≤1000000000) (he:Enters Tryz.prog gf) (hf:∀ i (h:i < l.length) w,Mem W [] [] w→Calls Tryz.prog gf ([((l[i]).v:Value)]++cap.toList).toArray w (Pure (.bool (p l[i])) w)) :
    Calls Tryz.prog 181 #[.slice q l.length c,.func (.func gf) #[] cap] W (Pure (.int .i64 (idxP p l)) W):=by
  refine calls_start Tryz.func181 rfl rfl ?_
  refine st ?_
  refine lv (Val.len_sl rfl sl_32) ?_
  refine RunC.loopK (l.length) (fun k q=>(8,.int .i64 (k:Int))::q) (fun _=>_) (fun _=>[]) (fun k=>∀ j (h:j < l.length),j < k→p l[j]=false) (fun j _ h=>absurd h (by omega)) rfl (Sub.consE (t:=8) rfl rfl (Sub.cons (t:=0) rfl (Sub.cons (t:=1) rfl (Sub.cons (t:=7) rfl (Sub.nil _))))) .nil ?_
  intro k kN kI
  refine st ?_
  refine cn rfl ?_ ?_
  ·intro c0'
   have hk:k < l.length:=by omega
   obtain ⟨x,hx⟩:∃ x,l[k]=x:=⟨_,rfl⟩
   refine st ?_
   refine lv (Val.indexAddr_slp rfl rfl sl_32 (by omega) (by omega) (hS.ptrM hk)) ?_
   refine lv (Val.load_gen rfl (fun w hm=>hS.loadM1 (by decide) hm (by simp) ty_27 hk (v:=(x).v) (by simp [hx,SA.cell]))) ?_
   refine RunL.callP (isCall_value rfl rfl he) rfl rfl rfl (fun w hm=>hx ▸ hf k hk w hm) ?_
   refine st ?_
   refine cn rfl ?_ ?_
   ·intro c1'
    refine st ?_
    refine RunC.ret ?_
    refine RunE.block_ret ?_
    refine RunE.pass_ret ?_
    refine RunE.pass_ret ?_
    refine RunE.block_ret ?_
    refine RunE.pass_ret ?_
    exact RunE.retP (.r1 rfl (.tmp rfl)) (by rw [idxP_at hk (by rw [hx];exact c1') kI])
   intro c1'
   refine st ?_
   refine lv (Val.add rfl rfl (IntWalk.i64_in _ ⟨by omega,by omega⟩)) ?_
   exact RunE.round (by omega) (fun j h h1=>by (rcases Nat.lt_or_ge j k with h4 | h4;exact kI j h h4;have e:j=k:=(by omega);subst e;rw [hx];exact c1')) rfl (Sub.consE (t:=8) rfl rfl (Sub.cons (t:=0) rfl (Sub.cons (t:=1) rfl (Sub.cons (t:=7) rfl (Sub.nil _))))) .nil
  intro c0'
  obtain rfl:k=l.length:=by omega
  refine RunC.exit ?_
  refine RunE.pass_exit ?_
  refine RunE.pass_exit ?_
  refine RunE.block_here ?_
  refine st ?_
  refine RunC.ret ?_
  exact RunE.retP (.r1 rfl (.tmp rfl)) (by rw [idxP_no (fun j hj=>kI j hj hj)])
theorem confRI_calls (l:List (SA Int)) (q:Option Addr) (b o c:Nat) (gf:FuncId) (cap:Array Value) (p:SA Int→Bool) (W:World) (hS:Sl W q b o 1 (l.map SA.cell)) (hl:l.length≤1000000000) (he:Enters Tryz.prog gf) (hf:∀ i (h:i < l.length) w,Mem W [] [] w→Calls Tryz.prog gf ([((l[i]).v:Value)]++cap.toList).toArray w (Pure (.bool (p l[i])) w)) :
    Calls Tryz.prog 163 #[.slice q l.length c,.func (.func gf) #[] cap] W (Pure (.bool (l.any p)) W):=by
  refine calls_start Tryz.func163 rfl rfl ?_
  refine st ?_
  refine RunL.callP (isCall_func rfl ent_181) rfl rfl rfl (fun w hm=>idxfRI_calls l q b o c gf cap p w (Sl.mono hS (by decide) hm (by simp)) hl he (fun i h w2 h2=>hf i h w2 (hm.pass h2))) ?_
  refine st ?_
  refine RunC.ret ?_
  exact RunE.retP (.r1 rfl (.tmp rfl)) (by rw [← idxP_ge])
end Go.Proofs.YtleamcmljcdapaaGreatDoor
namespace Go.Proofs.YtleamcmljcdapaaGreatDoor
open Go Go.Eng
theorem ap_23:apB Tryz.prog 23=some (22,1,24):=by kernel_rfl
theorem ent_130:Enters Tryz.prog 130:=enters_of Tryz.func130 (by kernel_rfl) rfl
theorem ent_140:Enters Tryz.prog 140:=enters_of Tryz.func140 (by kernel_rfl) rfl
theorem ent_142:Enters Tryz.prog 142:=enters_of Tryz.func142 (by kernel_rfl) rfl
theorem sls_23:Tryz.prog.underlying 23=some (.slice 22):=by kernel_rfl
theorem ty_143:tyB Tryz.prog 143=some (false,1):=by kernel_rfl
end Go.Proofs.YtleamcmljcdapaaGreatDoor
namespace Go.Bk
open Go Go.Eng Go.RowKit
structure TrA where
  dawn:Int
  fr:SA Sp
  ways:SA (SA Sp)
  stay:SA Sp
  light:SA Sp
def TrA.cells (t:TrA):List Value:=[.int .i64 t.dawn,t.fr.v,t.ways.v,t.stay.v,t.light.v]
def TrA.v (t:TrA):Value:=.agg t.cells.toArray
def TrA.pl (t:TrA):Tr:=⟨t.dawn,t.fr.l,t.ways.l.map (·.l),t.stay.l,t.light.l⟩
structure TrOk (W:World) (t:TrA):Prop where
  fr:t.fr.ok Sp.cells 2 W
  ways:t.ways.ok SA.cell 1 W
  rows:∀ x∈t.ways.l,x.ok Sp.cells 2 W
  stay:t.stay.ok Sp.cells 2 W
  light:t.light.ok Sp.cells 2 W
  wq:t.ways.q=none→t.ways.l.length=0∧t.ways.c=0
theorem TrOk.mono0 {W w:World} {t:TrA} {news:Blks} (h:TrOk W t) (hm:Mem W [] news w):TrOk w t :=
  ⟨h.fr.mono0 (by decide) hm,h.ways.mono0 (by decide) hm,fun x hx=>(h.rows x hx).mono0 (by decide) hm,h.stay.mono0 (by decide) hm,h.light.mono0 (by decide) hm,h.wq⟩
structure TrSm (t:TrA):Prop where
  fr:t.fr.l.length≤10000
  ways:t.ways.l.length≤10000
  rows:∀ x∈t.ways.l,x.l.length≤10000
  stay:t.stay.l.length≤10000
  light:t.light.l.length≤10000
def TrA.all (t:TrA):List (SA Sp):=t.ways.l++[t.fr,t.stay,t.light]
theorem TrOk.all {W:World} {t:TrA} (h:TrOk W t):∀ x∈t.all,x.ok Sp.cells 2 W:=fun x hx=>by
  rcases List.mem_append.1 hx with hx | hx
  · exact h.rows x hx
  · simp only [List.mem_cons,List.not_mem_nil,or_false] at hx
    rcases hx with rfl | rfl | rfl
    · exact h.fr
    · exact h.stay
    · exact h.light
theorem TrSm.all {t:TrA} (h:TrSm t):∀ x∈t.all,x.l.length≤10000:=fun x hx=>by
  rcases List.mem_append.1 hx with hx | hx
  · exact h.rows x hx
  · simp only [List.mem_cons,List.not_mem_nil,or_false] at hx
    rcases hx with rfl | rfl | rfl
    · exact h.fr
    · exact h.stay
    · exact h.light
theorem any_map {α β:Type} (f:α→β) (p:β→Bool) (l:List α):(l.map f).any p=l.any fun x=>p (f x):=by induction l <;> simp_all
theorem tour_all (t:TrA) (n:Nat):(t.pl.ways++[t.pl.fr,t.pl.stay,t.pl.light]).any (badRow n)=t.all.any fun x=>badRow n x.l:=by
  unfold TrA.all TrA.pl
  simp [any_map]
  rfl
structure CbA where
  slots:Int
  homes:SA Int
  wrong:Int
  loans:SA Ln
def CbA.cells (c:CbA):List Value:=[.int .i64 c.slots,c.homes.v,.int .i64 c.wrong,c.loans.v]
def CbA.v (c:CbA):Value:=.agg c.cells.toArray
def CbA.pl (c:CbA):Cb:=⟨c.slots,c.homes.l,c.wrong,c.loans.l⟩
structure CbOk (W:World) (c:CbA):Prop where
  homes:c.homes.ok intC 1 W
  loans:c.loans.ok Ln.cells 4 W
theorem CbOk.mono0 {W w:World} {t:CbA} {news:Blks} (h:CbOk W t) (hm:Mem W [] news w):CbOk w t:=⟨h.homes.mono0 (by decide) hm,h.loans.mono0 (by decide) hm⟩
structure CbS (c:CbA):Prop where
  homes:c.homes.l.length≤10000
  loans:c.loans.l.length≤10000
structure CbSm (c:CbA):Prop where
  homes:c.homes.l.length≤10000
  loans:c.loans.l.length≤10000
  slots:-9223372036854775807≤c.slots∧c.slots≤9223372036854775807
structure RyA where
  terms:SA Tm
  prices:SA Int
  shares:SA (SA Int)
  reports:SA Rp
  paid:SA Int
def RyA.cells (r:RyA):List Value:=[r.terms.v,r.prices.v,r.shares.v,r.reports.v,r.paid.v]
def RyA.v (r:RyA):Value:=.agg r.cells.toArray
def RyA.pl (r:RyA):Ry:=⟨r.terms.l,r.prices.l,r.shares.l.map (·.l),r.reports.l,r.paid.l⟩
structure RyOk (W:World) (r:RyA):Prop where
  terms:r.terms.ok Tm.cells 3 W
  prices:r.prices.ok intC 1 W
  shares:r.shares.ok SA.cell 1 W
  rows:∀ x∈r.shares.l,x.ok intC 1 W
  reports:r.reports.ok Rp.cells 4 W
  paid:r.paid.ok intC 1 W
theorem RyOk.mono0 {W w:World} {t:RyA} {news:Blks} (h:RyOk W t) (hm:Mem W [] news w):RyOk w t :=
  ⟨h.terms.mono0 (by decide) hm,h.prices.mono0 (by decide) hm,h.shares.mono0 (by decide) hm,fun x hx=>(h.rows x hx).mono0 (by decide) hm,h.reports.mono0 (by decide) hm,h.paid.mono0 (by decide) hm⟩
structure RySm (r:RyA):Prop where
  terms:r.terms.l.length≤10000
  prices:r.prices.l.length≤10000
  shares:r.shares.l.length≤10000
  rows:∀ x∈r.shares.l,x.l.length≤10000
  reports:r.reports.l.length≤10000
  paid:r.paid.l.length≤10000
structure PsA where
  cards:SA Pt
  less:Sp
  loss:Sp
def PsA.cells (p:PsA):List Value:=[p.cards.v,.int .i64 p.less.lo,.int .i64 p.less.hi,.int .i64 p.loss.lo,.int .i64 p.loss.hi]
def PsA.v (p:PsA):Value:=.agg p.cells.toArray
def PsA.pl (p:PsA):Ps:=⟨p.cards.l,p.less,p.loss⟩
abbrev RO (l:List (SA Sp)):={ x:Eng.Own // OwnOk 1 x l.length (l.map SA.cell).flatten }
theorem one_cell {α:Type} (s:SA α):s.cell.all (·.oneCell')=true:=rfl
theorem sharing_step {l:List Int} {k:Nat} {x:Int} (hk:k < l.length) (hx:l[k]=x):(l.take (k + 1)).sum=(l.take k).sum + x:=by
  rw [List.take_succ_eq_append_getElem hk,List.sum_append,hx]
  simp
theorem sharing_all {l:List Int} {k:Nat} {x:Int} (hk:k < l.length) (hx:l[k]=x) (h:(l.take k).all (fun n=>within n 0 1000)=true) (h2:within x 0 1000=true):(l.take (k + 1)).all (fun n=>within n 0 1000)=true:=by
  rw [List.take_succ_eq_append_getElem hk,List.all_append,h,hx]
  simp [h2]
theorem sharing_bound {l:List Int} (h:l.all (fun n=>within n 0 1000)=true):0≤l.sum∧l.sum≤1000 * l.length:=by
  induction l with
  | nil=>simp
  | cons a l ih =>
    rw [List.all_cons,Bool.and_eq_true] at h
    have h1:=ih h.2
    have h2:=h.1
    simp only [within,Bool.and_eq_true,decide_eq_true_eq] at h2
    rw [List.sum_cons,List.length_cons]
    omega
end Go.Bk
namespace Go.Proofs.YtleamcmljcdapaaGreatDoor
open Go Go.Eng Go.Bk

theorem cloneRS_calls (l:List (SA Sp)) (q:Option Addr) (b o c:Nat) (W:World) (hS:Sl W q b o 1 (l.map SA.cell)) (hl:l.length≤10000) (hq:q=none→l.length=0∧c=0):Calls Tryz.prog 144 #[.slice q l.length c] W
    (News (fun z:RO l=>ownV z.1 l.length) (fun z=>ownB 22 z.1 (l.map SA.cell).flatten++[]) W):=by
  cases q with
  | none =>
    obtain ⟨h1,rfl⟩:=hq rfl
    have h0:l=[]:=List.length_eq_zero_iff.1 h1
    subst h0
    refine calls_start Tryz.func144 rfl rfl ?_
    refine st ?_
    refine lv (Val.eqlSlNone rfl sls_23) ?_
    refine RunC.cond rfl ?_ (fun h=>absurd h (by simp))
    intro c0
    clear c0
    refine st ?_
    refine RunC.ret ?_
    refine RunE.pass_ret ?_
    exact RunE.ret (chg:=[]) (.r1 rfl (.tmp rfl)) (fun _ hm=>⟨⟨none,OwnOk.start⟩,rfl,hm⟩)
  | some a =>
    refine calls_start Tryz.func144 rfl rfl ?_
    refine st ?_
    refine lv (Val.eqlSlNil rfl sls_23) ?_
    refine RunC.cond rfl (fun h=>absurd h (by simp)) ?_
    intro c0
    clear c0
    refine st ?_
    refine RunL.new (New.buildSlice0 sl_23) rfl rfl rfl (fun b5=>?_)
    refine st ?_
    refine RunL.append (A:=[]) (B:=_) (x:=(some (b5,0,[]))) (ys:=(l.map SA.cell).flatten) ap_23 rfl rfl rfl OwnOk.empty (by rw [flat_len (f:=SA.cell) (sz:=1) (fun _=>rfl)]) (fun h=>by cases h) (fun w hm=>(Sl.mono hS (by decide) hm (by simp)).flat (by decide)) (one_flat (f:=SA.cell) one_cell l) (by simp only [maxLen];omega) (by omega) rfl (fun z7 hz7=>?_)
    refine st ?_
    refine RunC.ret ?_
    exact RunE.ret (chg:=[]) (.r1 rfl (.tmp rfl)) (fun _ hm=>⟨⟨z7,by simpa using hz7⟩,by simp,hm.pick (Pick.refl _)⟩)
theorem badSp_calls (s:Sp) (W:World):Calls Tryz.prog 140 #[.agg s.cells.toArray] W (Pure (.bool (badSp s)) W):=by
  refine calls_start Tryz.func140 rfl rfl ?_
  refine st ?_
  refine RunL.new (New.box rfl) rfl rfl rfl (fun b1=>?_)
  refine st ?_
  refine lv (Val.load_agg rfl (.head _) ty_38 rfl) ?_
  refine RunL.callP (isCall_func rfl ent_130) rfl rfl rfl (fun w hm=>isSpan_calls ⟨_,_⟩ _ w) ?_
  refine st ?_
  refine RunC.ret ?_
  exact RunE.retP (.r1 rfl (.tmp rfl)) (by first | rfl | simp)
theorem badRow_calls (n:Nat) (x:SA Sp) (b3 b4:Nat) (W:World) (h3:W.heap[b3]? = some (.cells [.int .i64 (n:Int)].toArray 3 (0,0))) (h4:W.heap[b4]? = some (.cells [.func (.func 140) #[] #[]].toArray 143 (0,0))) (hS:x.ok Sp.cells 2 W) (hl:x.l.length≤10000) :
    Calls Tryz.prog 141 #[x.v,.pointer (some ⟨b3,0,none⟩),.pointer (some ⟨b4,0,none⟩)] W (Pure (.bool (badRow n x.l)) W):=by
  refine calls_start Tryz.func141 rfl rfl ?_
  refine st ?_
  refine lv (Val.len_sl rfl sl_22) ?_
  refine lv (Val.oload_one rfl h3 (by simp) ty_3 rfl) ?_
  refine RunL.orPart (dj:=9) (dp:=13) 4 rfl (fun g9=>by
    have g9':=g9
    try simp only [nH] at g9'
    refine st ?_
    refine lv (Val.oload_one rfl h4 (by simp) ty_143 rfl) ?_
    refine RunL.callP (isCall_func rfl ent_142) rfl rfl rfl (fun w hm=>confSp_calls x.l x.q x.b x.o x.c 140 #[] badSp w (hS.mono0 (by decide) hm) (by omega) ent_140 (fun i h w2 h2=>badSp_calls _ w2)) ?_
    refine sv ?_
    exact RunL.segEnd (Sub.cons rfl (Sub.skip rfl (Sub.skip rfl (Sub.skip rfl (Sub.skip rfl (Sub.same rfl (by rw [g9]) (Sub.refl _))))))) (List.Sublist.refl _)
  ) (fun g9=>by
    have g9':=g9
    try simp only [nH] at g9'
    iterate 3 refine RunL.no rfl rfl rfl ?_
    refine sv ?_
    exact RunL.segEnd (Sub.cons rfl (Sub.skip rfl (Sub.skip rfl (Sub.skip rfl (Sub.skip rfl (Sub.same rfl (by rw [g9]) (Sub.refl _))))))) (List.Sublist.refl _)
  ) ?_
  refine st ?_
  refine RunC.ret ?_
  exact RunE.retP (.r1 rfl (.tmp rfl)) (by unfold badRow;simp only [Int.ofNat_inj])
end Go.Proofs.YtleamcmljcdapaaGreatDoor
namespace Go.Proofs.YtleamcmljcdapaaGreatDoor
open Go Go.Eng
theorem ent_131:Enters Tryz.prog 131:=enters_of Tryz.func131 (by kernel_rfl) rfl
theorem ent_141:Enters Tryz.prog 141:=enters_of Tryz.func141 (by kernel_rfl) rfl
theorem ent_143:Enters Tryz.prog 143:=enters_of Tryz.func143 (by kernel_rfl) rfl
theorem ent_144:Enters Tryz.prog 144:=enters_of Tryz.func144 (by kernel_rfl) rfl
theorem fld_25_0:fieldB Tryz.prog 25 0=some 0:=by kernel_rfl
theorem fld_25_1:fieldB Tryz.prog 25 1=some 1:=by kernel_rfl
theorem fld_25_2:fieldB Tryz.prog 25 2=some 2:=by kernel_rfl
theorem fld_25_3:fieldB Tryz.prog 25 3=some 3:=by kernel_rfl
theorem fld_25_4:fieldB Tryz.prog 25 4=some 4:=by kernel_rfl
theorem fol_:Tryz.prog.follows .mixedOrders=true:=by kernel_rfl
theorem ty_23:tyB Tryz.prog 23=some (false,1):=by kernel_rfl
theorem zero_143:zeroB Tryz.prog 143=some [.nilFunc]:=by kernel_rfl
theorem zero_22:zeroB Tryz.prog 22=some [.slice none 0 0]:=by kernel_rfl
theorem zero_3:zeroB Tryz.prog 3=some [.int .i64 0]:=by kernel_rfl
end Go.Proofs.YtleamcmljcdapaaGreatDoor
namespace Go.Bk
open Go Go.Eng Go.RowKit
theorem tourX_eq {t:TrA} {B:Bool} (h:t.all.any (fun x=>badRow t.fr.l.length x.l)=B):tourX t.pl=(decide (t.fr.l.length≤6) && decide (t.ways.l.length=t.fr.l.length) && within t.dawn 0 1440 && !B):=by
  unfold tourX
  rw [tour_all,show t.pl.fr.length=t.fr.l.length from rfl,h,show t.pl.ways.length=t.ways.l.length by simp [TrA.pl]]
  rfl
end Go.Bk
namespace Go.Proofs.YtleamcmljcdapaaGreatDoor
open Go Go.Eng Go.Bk

theorem isTour_calls (t:TrA) (hs:TrSm t) (W:World) (hT:TrOk W t):Calls Tryz.prog 99 #[t.v] W (Pure (.bool (tourX t.pl)) W):=by
  obtain ⟨B,hB⟩:∃ B,t.all.any (fun x=>badRow t.fr.l.length x.l)=B:=⟨_,rfl⟩
  rw [tourX_eq hB]
  have hl1:=hs.fr
  have hl2:=hs.ways
  have hal:t.all.length=t.ways.l.length + 3:=by simp [TrA.all]
  refine calls_start Tryz.func99 rfl rfl ?_
  refine st ?_
  refine RunL.new (New.box rfl) rfl rfl rfl (fun b1=>?_)
  refine st ?_
  refine lv (Val.fieldAddr rfl fld_25_1) ?_
  refine lv (Val.load_one rfl (.head _) ty_22 rfl) ?_
  refine lv (Val.len_sl rfl sl_22) ?_
  refine RunL.new (New.alloc zero_3) rfl rfl rfl (fun b3=>?_)
  refine RunL.sto (Sto.store rfl rfl .here ty_3 rfl rfl) rfl rfl ?_
  refine st ?_
  refine RunL.new (New.alloc zero_143) rfl rfl rfl (fun b4=>?_)
  refine RunL.sto (Sto.store rfl rfl .here ty_143 rfl rfl) rfl rfl ?_
  refine st ?_
  refine RunC.drawX (X:=Unit) 27 (n0:=[]) (fun u q=>(2,.bool (decide (t.fr.l.length≤6) && decide (t.ways.l.length=t.fr.l.length) && within t.dawn 0 1440 && !B))::q) (fun u=>[]) (fun u=>[]) (fun u=>[]) (fun u=>True) fol_ (.cons .here rfl (.cons .here rfl (.cons .here rfl .nil))) (Sub.nil _) .nil ?_ ?_
  ·refine va 0 rfl (Val.load_one rfl (.tail _ (.head _)) ty_3 rfl) rfl rfl rfl (.cons .here rfl (.cons .here rfl (.cons .here rfl .nil))) rfl ?_
   refine va 1 rfl (Val.pure rfl) rfl rfl rfl (.cons .here rfl (.cons .here rfl (.cons .here rfl .nil))) rfl ?_
   refine va 2 rfl (Val.pure rfl) rfl rfl rfl (.cons .here rfl (.cons .here rfl (.cons .here rfl .nil))) rfl ?_
   refine RunA.ways (dj:=12) rfl ?_ ?_
   ·intro g12
    have g12':=g12;clear g12
    try simp only [nH] at g12'
    refine va 3 rfl (Val.fieldAddr rfl fld_25_2) rfl rfl rfl (.cons .here rfl (.cons .here rfl (.cons .here rfl .nil))) rfl ?_
    refine va 4 rfl (Val.load_one rfl (.tail _ (.tail _ (.head _))) ty_23 rfl) rfl rfl rfl (.cons .here rfl (.cons .here rfl (.cons .here rfl .nil))) rfl ?_
    refine va 5 rfl (Val.len_sl rfl sl_23) rfl rfl rfl (.cons .here rfl (.cons .here rfl (.cons .here rfl .nil))) rfl ?_
    refine va 6 rfl (Val.load_one rfl (.tail _ (.head _)) ty_3 rfl) rfl rfl rfl (.cons .here rfl (.cons .here rfl (.cons .here rfl .nil))) rfl ?_
    refine va 7 rfl (Val.pure rfl) rfl rfl rfl (.cons .here rfl (.cons .here rfl (.cons .here rfl .nil))) rfl ?_
    refine va 8 rfl (Val.pure rfl) rfl rfl rfl (.cons .here rfl (.cons .here rfl (.cons .here rfl .nil))) rfl ?_
    refine va 9 rfl (Val.pure rfl) rfl rfl rfl (.cons .here rfl (.cons .here rfl (.cons .here rfl .nil))) rfl ?_
    refine RunA.ways (dj:=19) rfl ?_ ?_
    ·intro g19
     have g19':=g19;clear g19
     try simp only [nH] at g19'
     refine va 10 rfl (Val.fieldAddr rfl fld_25_0) rfl rfl rfl (.cons .here rfl (.cons .here rfl (.cons .here rfl .nil))) rfl ?_
     refine va 11 rfl (Val.load_one rfl (.tail _ (.tail _ (.head _))) ty_3 rfl) rfl rfl rfl (.cons .here rfl (.cons .here rfl (.cons .here rfl .nil))) rfl ?_
     refine RunA.one (i:=12) (by kernel_rfl) (by kernel_rfl) ?_
     refine RunI.callP rfl (isCall_func rfl ent_131) rfl rfl rfl (fun w hm=>within_calls _ _ _ w) (RunK.toA (.cons .here rfl (.cons .here rfl (.cons .here rfl .nil))) (.cons .here rfl (.cons .here rfl (.cons .here rfl .nil))) rfl ?_)
     refine va 13 rfl (Val.pure rfl) rfl rfl rfl (.cons .here rfl (.cons .here rfl (.cons .here rfl .nil))) rfl ?_
     refine va 14 rfl (Val.pure rfl) rfl rfl rfl (.cons .here rfl (.cons .here rfl (.cons .here rfl .nil))) rfl ?_
     refine RunA.ways (dj:=24) rfl ?_ ?_
     ·intro g24
      have g24':=g24;clear g24
      try simp only [nH] at g24'
      refine va 15 rfl (Val.fieldAddr rfl fld_25_2) rfl rfl rfl (.cons .here rfl (.cons .here rfl (.cons .here rfl .nil))) rfl ?_
      refine va 16 rfl (Val.load_one rfl (.tail _ (.tail _ (.head _))) ty_23 rfl) rfl rfl rfl (.cons .here rfl (.cons .here rfl (.cons .here rfl .nil))) rfl ?_
      refine va 18 rfl (Val.fieldAddr rfl fld_25_1) rfl rfl rfl (.cons .here rfl (.cons .here rfl (.cons .here rfl .nil))) rfl ?_
      refine va 19 rfl (Val.load_one rfl (.tail _ (.tail _ (.head _))) ty_22 rfl) rfl rfl rfl (.cons .here rfl (.cons .here rfl (.cons .here rfl .nil))) rfl ?_
      refine va 20 rfl (Val.fieldAddr rfl fld_25_3) rfl rfl rfl (.cons .here rfl (.cons .here rfl (.cons .here rfl .nil))) rfl ?_
      refine va 21 rfl (Val.load_one rfl (.tail _ (.tail _ (.head _))) ty_22 rfl) rfl rfl rfl (.cons .here rfl (.cons .here rfl (.cons .here rfl .nil))) rfl ?_
      refine va 22 rfl (Val.fieldAddr rfl fld_25_4) rfl rfl rfl (.cons .here rfl (.cons .here rfl (.cons .here rfl .nil))) rfl ?_
      refine va 23 rfl (Val.load_one rfl (.tail _ (.tail _ (.head _))) ty_22 rfl) rfl rfl rfl (.cons .here rfl (.cons .here rfl (.cons .here rfl .nil))) rfl ?_
      refine va 26 rfl (Val.pure rfl) rfl rfl rfl (.cons .here rfl (.cons .here rfl (.cons .here rfl .nil))) rfl ?_
      refine RunA.all (rs:=[17,24]) (by kernel_rfl) (by simp) (by kernel_rfl) (fun m hm=>?_)
      simp only [List.mem_cons,List.not_mem_nil,or_false] at hm
      rcases hm with rfl | rfl
      ·refine RunI.callNA [(b4,_),(b3,_),(b1,_)] _ rfl rfl (isCall_func rfl ent_144) rfl rfl rfl (fun w hm=>cloneRS_calls t.ways.l t.ways.q t.ways.b t.ways.o t.ways.c w (hT.ways.mono0 (by decide) hm) (by omega) hT.wq) (fun z27=>(RunK.toA (.cons .here rfl (.cons .here rfl (.cons .here rfl .nil))) (.cons .here rfl (.cons .here rfl (.cons .here rfl .nil))) rfl ?_))
       obtain ⟨x27,hx27⟩:=z27
       dsimp only
       refine RunA.one (i:=24) (by kernel_rfl) (by kernel_rfl) ?_
       refine RunI.new rfl (New.buildSlice (parts:=[(0,.tmp 29),(1,.tmp 31),(2,.tmp 33)]) rfl sl_23 zero_22 rfl rfl rfl rfl) rfl rfl rfl (fun b34=>(RunK.toA (.cons .here rfl (.cons .here rfl (.cons .here rfl (.cons .here rfl .nil)))) (.cons (.there .here) rfl (.cons (.there .here) rfl (.cons (.there .here) rfl .nil))) rfl ?_))
       refine RunA.one (i:=25) (by kernel_rfl) (by kernel_rfl) ?_
       refine RunI.appendG (A:=[(b34,_),(b4,_),(b3,_),(b1,_)]) (B:=_) (x:=x27) (ys:=[t.fr.v,t.stay.v,t.light.v]) rfl rfl ap_23 rfl rfl rfl hx27 (by rfl) (fun h=>by cases h) (fun w hm=>src_blk (hm.at (.head _))) (one_of rfl) (by simp only [maxLen];omega) (by omega) rfl (fun z35 hz35=>(RunK.toA (.cons .here rfl (.cons .here rfl (.cons .here rfl (.cons .here rfl .nil)))) (.cons .here rfl (.cons .here rfl (.cons .here rfl (.cons .here rfl .nil)))) rfl ?_))
       refine RunA.toB (by kernel_rfl) ?_
       refine RunB.one (i:=27) (by kernel_rfl) ?_
       have ez:(t.ways.l.map SA.cell).flatten++[t.fr.v,t.stay.v,t.light.v]=(t.all.map SA.cell).flatten:=by (simp [TrA.all,SA.cell])
       rw [ez] at hz35
       have hz:OwnOk 1 z35 t.all.length (t.all.map SA.cell).flatten:=by (rw [hal];exact hz35)
       have e35:ownV z35 (t.ways.l.length + 3) = .slice (ownQ z35) t.all.length (ownC z35):=by (rw [ownV_slice hz35,hal])
       simp only [ez]
       refine RunI.callP rfl (isCall_func rfl ent_143) rfl rfl rfl (fun w hm=>(by rw [e35];have h9:=confRS_calls t.all (ownQ z35) (ownK z35) 0 (ownC z35) 141 #[.pointer (some ⟨b3,0,none⟩),.pointer (some ⟨b4,0,none⟩)] (fun x=>badRow t.fr.l.length x.l) w (own_sl (f:=SA.cell) (fun _=>rfl) (by decide) hz (fun b o h=>hm.at (.tail _ (.tail _ (.tail _ (.tail _ ((by first | exact List.mem_append_left _ h | exact List.mem_append_right _ (List.mem_append_left _ h))))))))) (by omega) ent_141 (fun i h w2 h2=>badRow_calls t.fr.l.length t.all[i] b3 b4 w2 (h2.old_at (hm.at (.tail _ (.tail _ (.head _)))) (by simp)) (h2.old_at (hm.at (.tail _ (.head _))) (by simp)) (((hT.mono0 hm).mono0 h2).all _ (List.getElem_mem h)) (hs.all _ (List.getElem_mem h)));rw [hB] at h9;exact h9)) (RunK.toB ?_)
       refine RunB.one (i:=28) (by kernel_rfl) ?_
       refine RunI.val rfl (Val.pure rfl) rfl rfl rfl (RunK.toB ?_)
       refine RunB.one (i:=29) (by kernel_rfl) ?_
       refine RunI.val rfl (Val.pure rfl) rfl rfl rfl (RunK.toB ?_)
       refine RunB.one (i:=30) (by kernel_rfl) ?_
       refine RunI.val rfl (Val.pure rfl) rfl rfl rfl (RunK.toB ?_)
       refine RunB.done (by kernel_rfl) ?_
       exact RunE.joinX () trivial rfl (Sub.consE (t:=2) rfl (by simp_all <;> (try intros) <;> omega) (Sub.nil _)) .nil
      refine RunI.new rfl (New.buildSlice (parts:=[(0,.tmp 29),(1,.tmp 31),(2,.tmp 33)]) rfl sl_23 zero_22 rfl rfl rfl rfl) rfl rfl rfl (fun b34=>(RunK.toA (.cons .here rfl (.cons .here rfl (.cons .here rfl (.cons .here rfl .nil)))) (.cons (.there .here) rfl (.cons (.there .here) rfl (.cons (.there .here) rfl .nil))) rfl ?_))
      refine RunA.one (i:=17) (by kernel_rfl) (by kernel_rfl) ?_
      refine RunI.callNA [(b34,_),(b4,_),(b3,_),(b1,_)] _ rfl rfl (isCall_func rfl ent_144) rfl rfl rfl (fun w hm=>cloneRS_calls t.ways.l t.ways.q t.ways.b t.ways.o t.ways.c w (hT.ways.mono0 (by decide) hm) (by omega) hT.wq) (fun z27=>(RunK.toA (.cons .here rfl (.cons .here rfl (.cons .here rfl (.cons .here rfl .nil)))) (.cons .here rfl (.cons .here rfl (.cons .here rfl (.cons .here rfl .nil)))) rfl ?_))
      obtain ⟨x27,hx27⟩:=z27
      dsimp only
      refine RunA.one (i:=25) (by kernel_rfl) (by kernel_rfl) ?_
      refine RunI.appendG (A:=[(b34,_),(b4,_),(b3,_),(b1,_)]) (B:=_) (x:=x27) (ys:=[t.fr.v,t.stay.v,t.light.v]) rfl rfl ap_23 rfl rfl rfl hx27 (by rfl) (fun h=>by cases h) (fun w hm=>src_blk (hm.at (.head _))) (one_of rfl) (by simp only [maxLen];omega) (by omega) rfl (fun z35 hz35=>(RunK.toA (.cons .here rfl (.cons .here rfl (.cons .here rfl (.cons .here rfl .nil)))) (.cons .here rfl (.cons .here rfl (.cons .here rfl (.cons .here rfl .nil)))) rfl ?_))
      refine RunA.toB (by kernel_rfl) ?_
      refine RunB.one (i:=27) (by kernel_rfl) ?_
      have ez:(t.ways.l.map SA.cell).flatten++[t.fr.v,t.stay.v,t.light.v]=(t.all.map SA.cell).flatten:=by (simp [TrA.all,SA.cell])
      rw [ez] at hz35
      have hz:OwnOk 1 z35 t.all.length (t.all.map SA.cell).flatten:=by (rw [hal];exact hz35)
      have e35:ownV z35 (t.ways.l.length + 3) = .slice (ownQ z35) t.all.length (ownC z35):=by (rw [ownV_slice hz35,hal])
      simp only [ez]
      refine RunI.callP rfl (isCall_func rfl ent_143) rfl rfl rfl (fun w hm=>(by rw [e35];have h9:=confRS_calls t.all (ownQ z35) (ownK z35) 0 (ownC z35) 141 #[.pointer (some ⟨b3,0,none⟩),.pointer (some ⟨b4,0,none⟩)] (fun x=>badRow t.fr.l.length x.l) w (own_sl (f:=SA.cell) (fun _=>rfl) (by decide) hz (fun b o h=>hm.at (.tail _ (.tail _ (.tail _ (.tail _ ((by first | exact List.mem_append_left _ h | exact List.mem_append_right _ (List.mem_append_left _ h))))))))) (by omega) ent_141 (fun i h w2 h2=>badRow_calls t.fr.l.length t.all[i] b3 b4 w2 (h2.old_at (hm.at (.tail _ (.tail _ (.head _)))) (by simp)) (h2.old_at (hm.at (.tail _ (.head _))) (by simp)) (((hT.mono0 hm).mono0 h2).all _ (List.getElem_mem h)) (hs.all _ (List.getElem_mem h)));rw [hB] at h9;exact h9)) (RunK.toB ?_)
      refine RunB.one (i:=28) (by kernel_rfl) ?_
      refine RunI.val rfl (Val.pure rfl) rfl rfl rfl (RunK.toB ?_)
      refine RunB.one (i:=29) (by kernel_rfl) ?_
      refine RunI.val rfl (Val.pure rfl) rfl rfl rfl (RunK.toB ?_)
      refine RunB.one (i:=30) (by kernel_rfl) ?_
      refine RunI.val rfl (Val.pure rfl) rfl rfl rfl (RunK.toB ?_)
      refine RunB.done (by kernel_rfl) ?_
      exact RunE.joinX () trivial rfl (Sub.consE (t:=2) rfl (by simp_all <;> (try intros) <;> omega) (Sub.nil _)) .nil
     intro g24
     have g24':=g24;clear g24
     try simp only [nH] at g24'
     refine RunA.no (i:=15) rfl (by kernel_rfl) (by kernel_rfl) rfl rfl rfl (fun _ _ _ h=>h) (.cons .here rfl (.cons .here rfl (.cons .here rfl .nil))) rfl ?_
     refine RunA.no (i:=16) rfl (by kernel_rfl) (by kernel_rfl) rfl rfl rfl (fun _ _ _ h=>h) (.cons .here rfl (.cons .here rfl (.cons .here rfl .nil))) rfl ?_
     refine RunA.no (i:=18) rfl (by kernel_rfl) (by kernel_rfl) rfl rfl rfl (fun _ _ _ h=>h) (.cons .here rfl (.cons .here rfl (.cons .here rfl .nil))) rfl ?_
     refine RunA.no (i:=19) rfl (by kernel_rfl) (by kernel_rfl) rfl rfl rfl (fun _ _ _ h=>h) (.cons .here rfl (.cons .here rfl (.cons .here rfl .nil))) rfl ?_
     refine RunA.no (i:=20) rfl (by kernel_rfl) (by kernel_rfl) rfl rfl rfl (fun _ _ _ h=>h) (.cons .here rfl (.cons .here rfl (.cons .here rfl .nil))) rfl ?_
     refine RunA.no (i:=21) rfl (by kernel_rfl) (by kernel_rfl) rfl rfl rfl (fun _ _ _ h=>h) (.cons .here rfl (.cons .here rfl (.cons .here rfl .nil))) rfl ?_
     refine RunA.no (i:=22) rfl (by kernel_rfl) (by kernel_rfl) rfl rfl rfl (fun _ _ _ h=>h) (.cons .here rfl (.cons .here rfl (.cons .here rfl .nil))) rfl ?_
     refine RunA.no (i:=23) rfl (by kernel_rfl) (by kernel_rfl) rfl rfl rfl (fun _ _ _ h=>h) (.cons .here rfl (.cons .here rfl (.cons .here rfl .nil))) rfl ?_
     refine RunA.no (i:=26) rfl (by kernel_rfl) (by kernel_rfl) rfl rfl rfl (fun _ _ _ h=>h) (.cons .here rfl (.cons .here rfl (.cons .here rfl .nil))) rfl ?_
     refine RunA.all (rs:=[17,24]) (by kernel_rfl) (by simp) (by kernel_rfl) (fun m hm=>?_)
     simp only [List.mem_cons,List.not_mem_nil,or_false] at hm
     rcases hm with rfl | rfl
     ·refine RunI.no rfl rfl rfl rfl (RunK.toA (.cons .here rfl (.cons .here rfl (.cons .here rfl .nil))) (.cons .here rfl (.cons .here rfl (.cons .here rfl .nil))) rfl ?_)
      refine RunA.one (i:=24) (by kernel_rfl) (by kernel_rfl) ?_
      refine RunI.no rfl rfl rfl rfl (RunK.toA (.cons .here rfl (.cons .here rfl (.cons .here rfl .nil))) (.cons .here rfl (.cons .here rfl (.cons .here rfl .nil))) rfl ?_)
      refine RunA.one (i:=25) (by kernel_rfl) (by kernel_rfl) ?_
      refine RunI.no rfl rfl rfl rfl (RunK.toA (.cons .here rfl (.cons .here rfl (.cons .here rfl .nil))) (.cons .here rfl (.cons .here rfl (.cons .here rfl .nil))) rfl ?_)
      refine RunA.toB (by kernel_rfl) ?_
      refine RunB.one (i:=27) (by kernel_rfl) ?_
      refine RunI.no rfl rfl rfl rfl (RunK.toB ?_)
      refine RunB.one (i:=28) (by kernel_rfl) ?_
      refine RunI.no rfl rfl rfl rfl (RunK.toB ?_)
      refine RunB.one (i:=29) (by kernel_rfl) ?_
      refine RunI.val rfl (Val.pure rfl) rfl rfl rfl (RunK.toB ?_)
      refine RunB.one (i:=30) (by kernel_rfl) ?_
      refine RunI.val rfl (Val.pure rfl) rfl rfl rfl (RunK.toB ?_)
      refine RunB.done (by kernel_rfl) ?_
      exact RunE.joinX () trivial rfl (Sub.consE (t:=2) rfl (by simp_all <;> (try intros) <;> omega) (Sub.nil _)) .nil
     refine RunI.no rfl rfl rfl rfl (RunK.toA (.cons .here rfl (.cons .here rfl (.cons .here rfl .nil))) (.cons .here rfl (.cons .here rfl (.cons .here rfl .nil))) rfl ?_)
     refine RunA.one (i:=17) (by kernel_rfl) (by kernel_rfl) ?_
     refine RunI.no rfl rfl rfl rfl (RunK.toA (.cons .here rfl (.cons .here rfl (.cons .here rfl .nil))) (.cons .here rfl (.cons .here rfl (.cons .here rfl .nil))) rfl ?_)
     refine RunA.one (i:=25) (by kernel_rfl) (by kernel_rfl) ?_
     refine RunI.no rfl rfl rfl rfl (RunK.toA (.cons .here rfl (.cons .here rfl (.cons .here rfl .nil))) (.cons .here rfl (.cons .here rfl (.cons .here rfl .nil))) rfl ?_)
     refine RunA.toB (by kernel_rfl) ?_
     refine RunB.one (i:=27) (by kernel_rfl) ?_
     refine RunI.no rfl rfl rfl rfl (RunK.toB ?_)
     refine RunB.one (i:=28) (by kernel_rfl) ?_
     refine RunI.no rfl rfl rfl rfl (RunK.toB ?_)
     refine RunB.one (i:=29) (by kernel_rfl) ?_
     refine RunI.val rfl (Val.pure rfl) rfl rfl rfl (RunK.toB ?_)
     refine RunB.one (i:=30) (by kernel_rfl) ?_
     refine RunI.val rfl (Val.pure rfl) rfl rfl rfl (RunK.toB ?_)
     refine RunB.done (by kernel_rfl) ?_
     exact RunE.joinX () trivial rfl (Sub.consE (t:=2) rfl (by simp_all <;> (try intros) <;> omega) (Sub.nil _)) .nil
    intro g19
    have g19':=g19;clear g19
    try simp only [nH] at g19'
    refine RunA.no (i:=10) rfl (by kernel_rfl) (by kernel_rfl) rfl rfl rfl (fun _ _ _ h=>h) (.cons .here rfl (.cons .here rfl (.cons .here rfl .nil))) rfl ?_
    refine RunA.no (i:=11) rfl (by kernel_rfl) (by kernel_rfl) rfl rfl rfl (fun _ _ _ h=>h) (.cons .here rfl (.cons .here rfl (.cons .here rfl .nil))) rfl ?_
    refine RunA.one (i:=12) (by kernel_rfl) (by kernel_rfl) ?_
    refine RunI.no rfl rfl rfl rfl (RunK.toA (.cons .here rfl (.cons .here rfl (.cons .here rfl .nil))) (.cons .here rfl (.cons .here rfl (.cons .here rfl .nil))) rfl ?_)
    refine va 13 rfl (Val.pure rfl) rfl rfl rfl (.cons .here rfl (.cons .here rfl (.cons .here rfl .nil))) rfl ?_
    refine va 14 rfl (Val.pure rfl) rfl rfl rfl (.cons .here rfl (.cons .here rfl (.cons .here rfl .nil))) rfl ?_
    refine RunA.ways (dj:=24) rfl ?_ ?_
    ·intro g24
     have g24':=g24;clear g24
     try simp only [nH] at g24'
     refine va 15 rfl (Val.fieldAddr rfl fld_25_2) rfl rfl rfl (.cons .here rfl (.cons .here rfl (.cons .here rfl .nil))) rfl ?_
     refine va 16 rfl (Val.load_one rfl (.tail _ (.tail _ (.head _))) ty_23 rfl) rfl rfl rfl (.cons .here rfl (.cons .here rfl (.cons .here rfl .nil))) rfl ?_
     refine va 18 rfl (Val.fieldAddr rfl fld_25_1) rfl rfl rfl (.cons .here rfl (.cons .here rfl (.cons .here rfl .nil))) rfl ?_
     refine va 19 rfl (Val.load_one rfl (.tail _ (.tail _ (.head _))) ty_22 rfl) rfl rfl rfl (.cons .here rfl (.cons .here rfl (.cons .here rfl .nil))) rfl ?_
     refine va 20 rfl (Val.fieldAddr rfl fld_25_3) rfl rfl rfl (.cons .here rfl (.cons .here rfl (.cons .here rfl .nil))) rfl ?_
     refine va 21 rfl (Val.load_one rfl (.tail _ (.tail _ (.head _))) ty_22 rfl) rfl rfl rfl (.cons .here rfl (.cons .here rfl (.cons .here rfl .nil))) rfl ?_
     refine va 22 rfl (Val.fieldAddr rfl fld_25_4) rfl rfl rfl (.cons .here rfl (.cons .here rfl (.cons .here rfl .nil))) rfl ?_
     refine va 23 rfl (Val.load_one rfl (.tail _ (.tail _ (.head _))) ty_22 rfl) rfl rfl rfl (.cons .here rfl (.cons .here rfl (.cons .here rfl .nil))) rfl ?_
     refine va 26 rfl (Val.pure rfl) rfl rfl rfl (.cons .here rfl (.cons .here rfl (.cons .here rfl .nil))) rfl ?_
     refine RunA.all (rs:=[17,24]) (by kernel_rfl) (by simp) (by kernel_rfl) (fun m hm=>?_)
     simp only [List.mem_cons,List.not_mem_nil,or_false] at hm
     rcases hm with rfl | rfl
     ·refine RunI.callNA [(b4,_),(b3,_),(b1,_)] _ rfl rfl (isCall_func rfl ent_144) rfl rfl rfl (fun w hm=>cloneRS_calls t.ways.l t.ways.q t.ways.b t.ways.o t.ways.c w (hT.ways.mono0 (by decide) hm) (by omega) hT.wq) (fun z27=>(RunK.toA (.cons .here rfl (.cons .here rfl (.cons .here rfl .nil))) (.cons .here rfl (.cons .here rfl (.cons .here rfl .nil))) rfl ?_))
      obtain ⟨x27,hx27⟩:=z27
      dsimp only
      refine RunA.one (i:=24) (by kernel_rfl) (by kernel_rfl) ?_
      refine RunI.new rfl (New.buildSlice (parts:=[(0,.tmp 29),(1,.tmp 31),(2,.tmp 33)]) rfl sl_23 zero_22 rfl rfl rfl rfl) rfl rfl rfl (fun b34=>(RunK.toA (.cons .here rfl (.cons .here rfl (.cons .here rfl (.cons .here rfl .nil)))) (.cons (.there .here) rfl (.cons (.there .here) rfl (.cons (.there .here) rfl .nil))) rfl ?_))
      refine RunA.one (i:=25) (by kernel_rfl) (by kernel_rfl) ?_
      refine RunI.appendG (A:=[(b34,_),(b4,_),(b3,_),(b1,_)]) (B:=_) (x:=x27) (ys:=[t.fr.v,t.stay.v,t.light.v]) rfl rfl ap_23 rfl rfl rfl hx27 (by rfl) (fun h=>by cases h) (fun w hm=>src_blk (hm.at (.head _))) (one_of rfl) (by simp only [maxLen];omega) (by omega) rfl (fun z35 hz35=>(RunK.toA (.cons .here rfl (.cons .here rfl (.cons .here rfl (.cons .here rfl .nil)))) (.cons .here rfl (.cons .here rfl (.cons .here rfl (.cons .here rfl .nil)))) rfl ?_))
      refine RunA.toB (by kernel_rfl) ?_
      refine RunB.one (i:=27) (by kernel_rfl) ?_
      have ez:(t.ways.l.map SA.cell).flatten++[t.fr.v,t.stay.v,t.light.v]=(t.all.map SA.cell).flatten:=by (simp [TrA.all,SA.cell])
      rw [ez] at hz35
      have hz:OwnOk 1 z35 t.all.length (t.all.map SA.cell).flatten:=by (rw [hal];exact hz35)
      have e35:ownV z35 (t.ways.l.length + 3) = .slice (ownQ z35) t.all.length (ownC z35):=by (rw [ownV_slice hz35,hal])
      simp only [ez]
      refine RunI.callP rfl (isCall_func rfl ent_143) rfl rfl rfl (fun w hm=>(by rw [e35];have h9:=confRS_calls t.all (ownQ z35) (ownK z35) 0 (ownC z35) 141 #[.pointer (some ⟨b3,0,none⟩),.pointer (some ⟨b4,0,none⟩)] (fun x=>badRow t.fr.l.length x.l) w (own_sl (f:=SA.cell) (fun _=>rfl) (by decide) hz (fun b o h=>hm.at (.tail _ (.tail _ (.tail _ (.tail _ ((by first | exact List.mem_append_left _ h | exact List.mem_append_right _ (List.mem_append_left _ h))))))))) (by omega) ent_141 (fun i h w2 h2=>badRow_calls t.fr.l.length t.all[i] b3 b4 w2 (h2.old_at (hm.at (.tail _ (.tail _ (.head _)))) (by simp)) (h2.old_at (hm.at (.tail _ (.head _))) (by simp)) (((hT.mono0 hm).mono0 h2).all _ (List.getElem_mem h)) (hs.all _ (List.getElem_mem h)));rw [hB] at h9;exact h9)) (RunK.toB ?_)
      refine RunB.one (i:=28) (by kernel_rfl) ?_
      refine RunI.val rfl (Val.pure rfl) rfl rfl rfl (RunK.toB ?_)
      refine RunB.one (i:=29) (by kernel_rfl) ?_
      refine RunI.val rfl (Val.pure rfl) rfl rfl rfl (RunK.toB ?_)
      refine RunB.one (i:=30) (by kernel_rfl) ?_
      refine RunI.val rfl (Val.pure rfl) rfl rfl rfl (RunK.toB ?_)
      refine RunB.done (by kernel_rfl) ?_
      exact RunE.joinX () trivial rfl (Sub.consE (t:=2) rfl (by simp_all <;> (try intros) <;> omega) (Sub.nil _)) .nil
     refine RunI.new rfl (New.buildSlice (parts:=[(0,.tmp 29),(1,.tmp 31),(2,.tmp 33)]) rfl sl_23 zero_22 rfl rfl rfl rfl) rfl rfl rfl (fun b34=>(RunK.toA (.cons .here rfl (.cons .here rfl (.cons .here rfl (.cons .here rfl .nil)))) (.cons (.there .here) rfl (.cons (.there .here) rfl (.cons (.there .here) rfl .nil))) rfl ?_))
     refine RunA.one (i:=17) (by kernel_rfl) (by kernel_rfl) ?_
     refine RunI.callNA [(b34,_),(b4,_),(b3,_),(b1,_)] _ rfl rfl (isCall_func rfl ent_144) rfl rfl rfl (fun w hm=>cloneRS_calls t.ways.l t.ways.q t.ways.b t.ways.o t.ways.c w (hT.ways.mono0 (by decide) hm) (by omega) hT.wq) (fun z27=>(RunK.toA (.cons .here rfl (.cons .here rfl (.cons .here rfl (.cons .here rfl .nil)))) (.cons .here rfl (.cons .here rfl (.cons .here rfl (.cons .here rfl .nil)))) rfl ?_))
     obtain ⟨x27,hx27⟩:=z27
     dsimp only
     refine RunA.one (i:=25) (by kernel_rfl) (by kernel_rfl) ?_
     refine RunI.appendG (A:=[(b34,_),(b4,_),(b3,_),(b1,_)]) (B:=_) (x:=x27) (ys:=[t.fr.v,t.stay.v,t.light.v]) rfl rfl ap_23 rfl rfl rfl hx27 (by rfl) (fun h=>by cases h) (fun w hm=>src_blk (hm.at (.head _))) (one_of rfl) (by simp only [maxLen];omega) (by omega) rfl (fun z35 hz35=>(RunK.toA (.cons .here rfl (.cons .here rfl (.cons .here rfl (.cons .here rfl .nil)))) (.cons .here rfl (.cons .here rfl (.cons .here rfl (.cons .here rfl .nil)))) rfl ?_))
     refine RunA.toB (by kernel_rfl) ?_
     refine RunB.one (i:=27) (by kernel_rfl) ?_
     have ez:(t.ways.l.map SA.cell).flatten++[t.fr.v,t.stay.v,t.light.v]=(t.all.map SA.cell).flatten:=by (simp [TrA.all,SA.cell])
     rw [ez] at hz35
     have hz:OwnOk 1 z35 t.all.length (t.all.map SA.cell).flatten:=by (rw [hal];exact hz35)
     have e35:ownV z35 (t.ways.l.length + 3) = .slice (ownQ z35) t.all.length (ownC z35):=by (rw [ownV_slice hz35,hal])
     simp only [ez]
     refine RunI.callP rfl (isCall_func rfl ent_143) rfl rfl rfl (fun w hm=>(by rw [e35];have h9:=confRS_calls t.all (ownQ z35) (ownK z35) 0 (ownC z35) 141 #[.pointer (some ⟨b3,0,none⟩),.pointer (some ⟨b4,0,none⟩)] (fun x=>badRow t.fr.l.length x.l) w (own_sl (f:=SA.cell) (fun _=>rfl) (by decide) hz (fun b o h=>hm.at (.tail _ (.tail _ (.tail _ (.tail _ ((by first | exact List.mem_append_left _ h | exact List.mem_append_right _ (List.mem_append_left _ h))))))))) (by omega) ent_141 (fun i h w2 h2=>badRow_calls t.fr.l.length t.all[i] b3 b4 w2 (h2.old_at (hm.at (.tail _ (.tail _ (.head _)))) (by simp)) (h2.old_at (hm.at (.tail _ (.head _))) (by simp)) (((hT.mono0 hm).mono0 h2).all _ (List.getElem_mem h)) (hs.all _ (List.getElem_mem h)));rw [hB] at h9;exact h9)) (RunK.toB ?_)
     refine RunB.one (i:=28) (by kernel_rfl) ?_
     refine RunI.val rfl (Val.pure rfl) rfl rfl rfl (RunK.toB ?_)
     refine RunB.one (i:=29) (by kernel_rfl) ?_
     refine RunI.val rfl (Val.pure rfl) rfl rfl rfl (RunK.toB ?_)
     refine RunB.one (i:=30) (by kernel_rfl) ?_
     refine RunI.val rfl (Val.pure rfl) rfl rfl rfl (RunK.toB ?_)
     refine RunB.done (by kernel_rfl) ?_
     exact RunE.joinX () trivial rfl (Sub.consE (t:=2) rfl (by simp_all <;> (try intros) <;> omega) (Sub.nil _)) .nil
    intro g24
    have g24':=g24;clear g24
    try simp only [nH] at g24'
    refine RunA.no (i:=15) rfl (by kernel_rfl) (by kernel_rfl) rfl rfl rfl (fun _ _ _ h=>h) (.cons .here rfl (.cons .here rfl (.cons .here rfl .nil))) rfl ?_
    refine RunA.no (i:=16) rfl (by kernel_rfl) (by kernel_rfl) rfl rfl rfl (fun _ _ _ h=>h) (.cons .here rfl (.cons .here rfl (.cons .here rfl .nil))) rfl ?_
    refine RunA.no (i:=18) rfl (by kernel_rfl) (by kernel_rfl) rfl rfl rfl (fun _ _ _ h=>h) (.cons .here rfl (.cons .here rfl (.cons .here rfl .nil))) rfl ?_
    refine RunA.no (i:=19) rfl (by kernel_rfl) (by kernel_rfl) rfl rfl rfl (fun _ _ _ h=>h) (.cons .here rfl (.cons .here rfl (.cons .here rfl .nil))) rfl ?_
    refine RunA.no (i:=20) rfl (by kernel_rfl) (by kernel_rfl) rfl rfl rfl (fun _ _ _ h=>h) (.cons .here rfl (.cons .here rfl (.cons .here rfl .nil))) rfl ?_
    refine RunA.no (i:=21) rfl (by kernel_rfl) (by kernel_rfl) rfl rfl rfl (fun _ _ _ h=>h) (.cons .here rfl (.cons .here rfl (.cons .here rfl .nil))) rfl ?_
    refine RunA.no (i:=22) rfl (by kernel_rfl) (by kernel_rfl) rfl rfl rfl (fun _ _ _ h=>h) (.cons .here rfl (.cons .here rfl (.cons .here rfl .nil))) rfl ?_
    refine RunA.no (i:=23) rfl (by kernel_rfl) (by kernel_rfl) rfl rfl rfl (fun _ _ _ h=>h) (.cons .here rfl (.cons .here rfl (.cons .here rfl .nil))) rfl ?_
    refine RunA.no (i:=26) rfl (by kernel_rfl) (by kernel_rfl) rfl rfl rfl (fun _ _ _ h=>h) (.cons .here rfl (.cons .here rfl (.cons .here rfl .nil))) rfl ?_
    refine RunA.all (rs:=[17,24]) (by kernel_rfl) (by simp) (by kernel_rfl) (fun m hm=>?_)
    simp only [List.mem_cons,List.not_mem_nil,or_false] at hm
    rcases hm with rfl | rfl
    ·refine RunI.no rfl rfl rfl rfl (RunK.toA (.cons .here rfl (.cons .here rfl (.cons .here rfl .nil))) (.cons .here rfl (.cons .here rfl (.cons .here rfl .nil))) rfl ?_)
     refine RunA.one (i:=24) (by kernel_rfl) (by kernel_rfl) ?_
     refine RunI.no rfl rfl rfl rfl (RunK.toA (.cons .here rfl (.cons .here rfl (.cons .here rfl .nil))) (.cons .here rfl (.cons .here rfl (.cons .here rfl .nil))) rfl ?_)
     refine RunA.one (i:=25) (by kernel_rfl) (by kernel_rfl) ?_
     refine RunI.no rfl rfl rfl rfl (RunK.toA (.cons .here rfl (.cons .here rfl (.cons .here rfl .nil))) (.cons .here rfl (.cons .here rfl (.cons .here rfl .nil))) rfl ?_)
     refine RunA.toB (by kernel_rfl) ?_
     refine RunB.one (i:=27) (by kernel_rfl) ?_
     refine RunI.no rfl rfl rfl rfl (RunK.toB ?_)
     refine RunB.one (i:=28) (by kernel_rfl) ?_
     refine RunI.no rfl rfl rfl rfl (RunK.toB ?_)
     refine RunB.one (i:=29) (by kernel_rfl) ?_
     refine RunI.val rfl (Val.pure rfl) rfl rfl rfl (RunK.toB ?_)
     refine RunB.one (i:=30) (by kernel_rfl) ?_
     refine RunI.val rfl (Val.pure rfl) rfl rfl rfl (RunK.toB ?_)
     refine RunB.done (by kernel_rfl) ?_
     exact RunE.joinX () trivial rfl (Sub.consE (t:=2) rfl (by simp_all <;> (try intros) <;> omega) (Sub.nil _)) .nil
    refine RunI.no rfl rfl rfl rfl (RunK.toA (.cons .here rfl (.cons .here rfl (.cons .here rfl .nil))) (.cons .here rfl (.cons .here rfl (.cons .here rfl .nil))) rfl ?_)
    refine RunA.one (i:=17) (by kernel_rfl) (by kernel_rfl) ?_
    refine RunI.no rfl rfl rfl rfl (RunK.toA (.cons .here rfl (.cons .here rfl (.cons .here rfl .nil))) (.cons .here rfl (.cons .here rfl (.cons .here rfl .nil))) rfl ?_)
    refine RunA.one (i:=25) (by kernel_rfl) (by kernel_rfl) ?_
    refine RunI.no rfl rfl rfl rfl (RunK.toA (.cons .here rfl (.cons .here rfl (.cons .here rfl .nil))) (.cons .here rfl (.cons .here rfl (.cons .here rfl .nil))) rfl ?_)
    refine RunA.toB (by kernel_rfl) ?_
    refine RunB.one (i:=27) (by kernel_rfl) ?_
    refine RunI.no rfl rfl rfl rfl (RunK.toB ?_)
    refine RunB.one (i:=28) (by kernel_rfl) ?_
    refine RunI.no rfl rfl rfl rfl (RunK.toB ?_)
    refine RunB.one (i:=29) (by kernel_rfl) ?_
    refine RunI.val rfl (Val.pure rfl) rfl rfl rfl (RunK.toB ?_)
    refine RunB.one (i:=30) (by kernel_rfl) ?_
    refine RunI.val rfl (Val.pure rfl) rfl rfl rfl (RunK.toB ?_)
    refine RunB.done (by kernel_rfl) ?_
    exact RunE.joinX () trivial rfl (Sub.consE (t:=2) rfl (by simp_all <;> (try intros) <;> omega) (Sub.nil _)) .nil
   intro g12
   have g12':=g12;clear g12
   try simp only [nH] at g12'
   refine RunA.no (i:=3) rfl (by kernel_rfl) (by kernel_rfl) rfl rfl rfl (fun _ _ _ h=>h) (.cons .here rfl (.cons .here rfl (.cons .here rfl .nil))) rfl ?_
   refine RunA.no (i:=4) rfl (by kernel_rfl) (by kernel_rfl) rfl rfl rfl (fun _ _ _ h=>h) (.cons .here rfl (.cons .here rfl (.cons .here rfl .nil))) rfl ?_
   refine RunA.no (i:=5) rfl (by kernel_rfl) (by kernel_rfl) rfl rfl rfl (fun _ _ _ h=>h) (.cons .here rfl (.cons .here rfl (.cons .here rfl .nil))) rfl ?_
   refine RunA.no (i:=6) rfl (by kernel_rfl) (by kernel_rfl) rfl rfl rfl (fun _ _ _ h=>h) (.cons .here rfl (.cons .here rfl (.cons .here rfl .nil))) rfl ?_
   refine RunA.no (i:=7) rfl (by kernel_rfl) (by kernel_rfl) rfl rfl rfl (fun _ _ _ h=>h) (.cons .here rfl (.cons .here rfl (.cons .here rfl .nil))) rfl ?_
   refine va 8 rfl (Val.pure rfl) rfl rfl rfl (.cons .here rfl (.cons .here rfl (.cons .here rfl .nil))) rfl ?_
   refine va 9 rfl (Val.pure rfl) rfl rfl rfl (.cons .here rfl (.cons .here rfl (.cons .here rfl .nil))) rfl ?_
   refine RunA.ways (dj:=19) rfl ?_ ?_
   ·intro g19
    have g19':=g19;clear g19
    try simp only [nH] at g19'
    refine va 10 rfl (Val.fieldAddr rfl fld_25_0) rfl rfl rfl (.cons .here rfl (.cons .here rfl (.cons .here rfl .nil))) rfl ?_
    refine va 11 rfl (Val.load_one rfl (.tail _ (.tail _ (.head _))) ty_3 rfl) rfl rfl rfl (.cons .here rfl (.cons .here rfl (.cons .here rfl .nil))) rfl ?_
    refine RunA.one (i:=12) (by kernel_rfl) (by kernel_rfl) ?_
    refine RunI.callP rfl (isCall_func rfl ent_131) rfl rfl rfl (fun w hm=>within_calls _ _ _ w) (RunK.toA (.cons .here rfl (.cons .here rfl (.cons .here rfl .nil))) (.cons .here rfl (.cons .here rfl (.cons .here rfl .nil))) rfl ?_)
    refine va 13 rfl (Val.pure rfl) rfl rfl rfl (.cons .here rfl (.cons .here rfl (.cons .here rfl .nil))) rfl ?_
    refine va 14 rfl (Val.pure rfl) rfl rfl rfl (.cons .here rfl (.cons .here rfl (.cons .here rfl .nil))) rfl ?_
    refine RunA.ways (dj:=24) rfl ?_ ?_
    ·intro g24
     have g24':=g24;clear g24
     try simp only [nH] at g24'
     refine va 15 rfl (Val.fieldAddr rfl fld_25_2) rfl rfl rfl (.cons .here rfl (.cons .here rfl (.cons .here rfl .nil))) rfl ?_
     refine va 16 rfl (Val.load_one rfl (.tail _ (.tail _ (.head _))) ty_23 rfl) rfl rfl rfl (.cons .here rfl (.cons .here rfl (.cons .here rfl .nil))) rfl ?_
     refine va 18 rfl (Val.fieldAddr rfl fld_25_1) rfl rfl rfl (.cons .here rfl (.cons .here rfl (.cons .here rfl .nil))) rfl ?_
     refine va 19 rfl (Val.load_one rfl (.tail _ (.tail _ (.head _))) ty_22 rfl) rfl rfl rfl (.cons .here rfl (.cons .here rfl (.cons .here rfl .nil))) rfl ?_
     refine va 20 rfl (Val.fieldAddr rfl fld_25_3) rfl rfl rfl (.cons .here rfl (.cons .here rfl (.cons .here rfl .nil))) rfl ?_
     refine va 21 rfl (Val.load_one rfl (.tail _ (.tail _ (.head _))) ty_22 rfl) rfl rfl rfl (.cons .here rfl (.cons .here rfl (.cons .here rfl .nil))) rfl ?_
     refine va 22 rfl (Val.fieldAddr rfl fld_25_4) rfl rfl rfl (.cons .here rfl (.cons .here rfl (.cons .here rfl .nil))) rfl ?_
     refine va 23 rfl (Val.load_one rfl (.tail _ (.tail _ (.head _))) ty_22 rfl) rfl rfl rfl (.cons .here rfl (.cons .here rfl (.cons .here rfl .nil))) rfl ?_
     refine va 26 rfl (Val.pure rfl) rfl rfl rfl (.cons .here rfl (.cons .here rfl (.cons .here rfl .nil))) rfl ?_
     refine RunA.all (rs:=[17,24]) (by kernel_rfl) (by simp) (by kernel_rfl) (fun m hm=>?_)
     simp only [List.mem_cons,List.not_mem_nil,or_false] at hm
     rcases hm with rfl | rfl
     ·refine RunI.callNA [(b4,_),(b3,_),(b1,_)] _ rfl rfl (isCall_func rfl ent_144) rfl rfl rfl (fun w hm=>cloneRS_calls t.ways.l t.ways.q t.ways.b t.ways.o t.ways.c w (hT.ways.mono0 (by decide) hm) (by omega) hT.wq) (fun z27=>(RunK.toA (.cons .here rfl (.cons .here rfl (.cons .here rfl .nil))) (.cons .here rfl (.cons .here rfl (.cons .here rfl .nil))) rfl ?_))
      obtain ⟨x27,hx27⟩:=z27
      dsimp only
      refine RunA.one (i:=24) (by kernel_rfl) (by kernel_rfl) ?_
      refine RunI.new rfl (New.buildSlice (parts:=[(0,.tmp 29),(1,.tmp 31),(2,.tmp 33)]) rfl sl_23 zero_22 rfl rfl rfl rfl) rfl rfl rfl (fun b34=>(RunK.toA (.cons .here rfl (.cons .here rfl (.cons .here rfl (.cons .here rfl .nil)))) (.cons (.there .here) rfl (.cons (.there .here) rfl (.cons (.there .here) rfl .nil))) rfl ?_))
      refine RunA.one (i:=25) (by kernel_rfl) (by kernel_rfl) ?_
      refine RunI.appendG (A:=[(b34,_),(b4,_),(b3,_),(b1,_)]) (B:=_) (x:=x27) (ys:=[t.fr.v,t.stay.v,t.light.v]) rfl rfl ap_23 rfl rfl rfl hx27 (by rfl) (fun h=>by cases h) (fun w hm=>src_blk (hm.at (.head _))) (one_of rfl) (by simp only [maxLen];omega) (by omega) rfl (fun z35 hz35=>(RunK.toA (.cons .here rfl (.cons .here rfl (.cons .here rfl (.cons .here rfl .nil)))) (.cons .here rfl (.cons .here rfl (.cons .here rfl (.cons .here rfl .nil)))) rfl ?_))
      refine RunA.toB (by kernel_rfl) ?_
      refine RunB.one (i:=27) (by kernel_rfl) ?_
      have ez:(t.ways.l.map SA.cell).flatten++[t.fr.v,t.stay.v,t.light.v]=(t.all.map SA.cell).flatten:=by (simp [TrA.all,SA.cell])
      rw [ez] at hz35
      have hz:OwnOk 1 z35 t.all.length (t.all.map SA.cell).flatten:=by (rw [hal];exact hz35)
      have e35:ownV z35 (t.ways.l.length + 3) = .slice (ownQ z35) t.all.length (ownC z35):=by (rw [ownV_slice hz35,hal])
      simp only [ez]
      refine RunI.callP rfl (isCall_func rfl ent_143) rfl rfl rfl (fun w hm=>(by rw [e35];have h9:=confRS_calls t.all (ownQ z35) (ownK z35) 0 (ownC z35) 141 #[.pointer (some ⟨b3,0,none⟩),.pointer (some ⟨b4,0,none⟩)] (fun x=>badRow t.fr.l.length x.l) w (own_sl (f:=SA.cell) (fun _=>rfl) (by decide) hz (fun b o h=>hm.at (.tail _ (.tail _ (.tail _ (.tail _ ((by first | exact List.mem_append_left _ h | exact List.mem_append_right _ (List.mem_append_left _ h))))))))) (by omega) ent_141 (fun i h w2 h2=>badRow_calls t.fr.l.length t.all[i] b3 b4 w2 (h2.old_at (hm.at (.tail _ (.tail _ (.head _)))) (by simp)) (h2.old_at (hm.at (.tail _ (.head _))) (by simp)) (((hT.mono0 hm).mono0 h2).all _ (List.getElem_mem h)) (hs.all _ (List.getElem_mem h)));rw [hB] at h9;exact h9)) (RunK.toB ?_)
      refine RunB.one (i:=28) (by kernel_rfl) ?_
      refine RunI.val rfl (Val.pure rfl) rfl rfl rfl (RunK.toB ?_)
      refine RunB.one (i:=29) (by kernel_rfl) ?_
      refine RunI.val rfl (Val.pure rfl) rfl rfl rfl (RunK.toB ?_)
      refine RunB.one (i:=30) (by kernel_rfl) ?_
      refine RunI.val rfl (Val.pure rfl) rfl rfl rfl (RunK.toB ?_)
      refine RunB.done (by kernel_rfl) ?_
      exact RunE.joinX () trivial rfl (Sub.consE (t:=2) rfl (by simp_all <;> (try intros) <;> omega) (Sub.nil _)) .nil
     refine RunI.new rfl (New.buildSlice (parts:=[(0,.tmp 29),(1,.tmp 31),(2,.tmp 33)]) rfl sl_23 zero_22 rfl rfl rfl rfl) rfl rfl rfl (fun b34=>(RunK.toA (.cons .here rfl (.cons .here rfl (.cons .here rfl (.cons .here rfl .nil)))) (.cons (.there .here) rfl (.cons (.there .here) rfl (.cons (.there .here) rfl .nil))) rfl ?_))
     refine RunA.one (i:=17) (by kernel_rfl) (by kernel_rfl) ?_
     refine RunI.callNA [(b34,_),(b4,_),(b3,_),(b1,_)] _ rfl rfl (isCall_func rfl ent_144) rfl rfl rfl (fun w hm=>cloneRS_calls t.ways.l t.ways.q t.ways.b t.ways.o t.ways.c w (hT.ways.mono0 (by decide) hm) (by omega) hT.wq) (fun z27=>(RunK.toA (.cons .here rfl (.cons .here rfl (.cons .here rfl (.cons .here rfl .nil)))) (.cons .here rfl (.cons .here rfl (.cons .here rfl (.cons .here rfl .nil)))) rfl ?_))
     obtain ⟨x27,hx27⟩:=z27
     dsimp only
     refine RunA.one (i:=25) (by kernel_rfl) (by kernel_rfl) ?_
     refine RunI.appendG (A:=[(b34,_),(b4,_),(b3,_),(b1,_)]) (B:=_) (x:=x27) (ys:=[t.fr.v,t.stay.v,t.light.v]) rfl rfl ap_23 rfl rfl rfl hx27 (by rfl) (fun h=>by cases h) (fun w hm=>src_blk (hm.at (.head _))) (one_of rfl) (by simp only [maxLen];omega) (by omega) rfl (fun z35 hz35=>(RunK.toA (.cons .here rfl (.cons .here rfl (.cons .here rfl (.cons .here rfl .nil)))) (.cons .here rfl (.cons .here rfl (.cons .here rfl (.cons .here rfl .nil)))) rfl ?_))
     refine RunA.toB (by kernel_rfl) ?_
     refine RunB.one (i:=27) (by kernel_rfl) ?_
     have ez:(t.ways.l.map SA.cell).flatten++[t.fr.v,t.stay.v,t.light.v]=(t.all.map SA.cell).flatten:=by (simp [TrA.all,SA.cell])
     rw [ez] at hz35
     have hz:OwnOk 1 z35 t.all.length (t.all.map SA.cell).flatten:=by (rw [hal];exact hz35)
     have e35:ownV z35 (t.ways.l.length + 3) = .slice (ownQ z35) t.all.length (ownC z35):=by (rw [ownV_slice hz35,hal])
     simp only [ez]
     refine RunI.callP rfl (isCall_func rfl ent_143) rfl rfl rfl (fun w hm=>(by rw [e35];have h9:=confRS_calls t.all (ownQ z35) (ownK z35) 0 (ownC z35) 141 #[.pointer (some ⟨b3,0,none⟩),.pointer (some ⟨b4,0,none⟩)] (fun x=>badRow t.fr.l.length x.l) w (own_sl (f:=SA.cell) (fun _=>rfl) (by decide) hz (fun b o h=>hm.at (.tail _ (.tail _ (.tail _ (.tail _ ((by first | exact List.mem_append_left _ h | exact List.mem_append_right _ (List.mem_append_left _ h))))))))) (by omega) ent_141 (fun i h w2 h2=>badRow_calls t.fr.l.length t.all[i] b3 b4 w2 (h2.old_at (hm.at (.tail _ (.tail _ (.head _)))) (by simp)) (h2.old_at (hm.at (.tail _ (.head _))) (by simp)) (((hT.mono0 hm).mono0 h2).all _ (List.getElem_mem h)) (hs.all _ (List.getElem_mem h)));rw [hB] at h9;exact h9)) (RunK.toB ?_)
     refine RunB.one (i:=28) (by kernel_rfl) ?_
     refine RunI.val rfl (Val.pure rfl) rfl rfl rfl (RunK.toB ?_)
     refine RunB.one (i:=29) (by kernel_rfl) ?_
     refine RunI.val rfl (Val.pure rfl) rfl rfl rfl (RunK.toB ?_)
     refine RunB.one (i:=30) (by kernel_rfl) ?_
     refine RunI.val rfl (Val.pure rfl) rfl rfl rfl (RunK.toB ?_)
     refine RunB.done (by kernel_rfl) ?_
     exact RunE.joinX () trivial rfl (Sub.consE (t:=2) rfl (by simp_all <;> (try intros) <;> omega) (Sub.nil _)) .nil
    intro g24
    have g24':=g24;clear g24
    try simp only [nH] at g24'
    refine RunA.no (i:=15) rfl (by kernel_rfl) (by kernel_rfl) rfl rfl rfl (fun _ _ _ h=>h) (.cons .here rfl (.cons .here rfl (.cons .here rfl .nil))) rfl ?_
    refine RunA.no (i:=16) rfl (by kernel_rfl) (by kernel_rfl) rfl rfl rfl (fun _ _ _ h=>h) (.cons .here rfl (.cons .here rfl (.cons .here rfl .nil))) rfl ?_
    refine RunA.no (i:=18) rfl (by kernel_rfl) (by kernel_rfl) rfl rfl rfl (fun _ _ _ h=>h) (.cons .here rfl (.cons .here rfl (.cons .here rfl .nil))) rfl ?_
    refine RunA.no (i:=19) rfl (by kernel_rfl) (by kernel_rfl) rfl rfl rfl (fun _ _ _ h=>h) (.cons .here rfl (.cons .here rfl (.cons .here rfl .nil))) rfl ?_
    refine RunA.no (i:=20) rfl (by kernel_rfl) (by kernel_rfl) rfl rfl rfl (fun _ _ _ h=>h) (.cons .here rfl (.cons .here rfl (.cons .here rfl .nil))) rfl ?_
    refine RunA.no (i:=21) rfl (by kernel_rfl) (by kernel_rfl) rfl rfl rfl (fun _ _ _ h=>h) (.cons .here rfl (.cons .here rfl (.cons .here rfl .nil))) rfl ?_
    refine RunA.no (i:=22) rfl (by kernel_rfl) (by kernel_rfl) rfl rfl rfl (fun _ _ _ h=>h) (.cons .here rfl (.cons .here rfl (.cons .here rfl .nil))) rfl ?_
    refine RunA.no (i:=23) rfl (by kernel_rfl) (by kernel_rfl) rfl rfl rfl (fun _ _ _ h=>h) (.cons .here rfl (.cons .here rfl (.cons .here rfl .nil))) rfl ?_
    refine RunA.no (i:=26) rfl (by kernel_rfl) (by kernel_rfl) rfl rfl rfl (fun _ _ _ h=>h) (.cons .here rfl (.cons .here rfl (.cons .here rfl .nil))) rfl ?_
    refine RunA.all (rs:=[17,24]) (by kernel_rfl) (by simp) (by kernel_rfl) (fun m hm=>?_)
    simp only [List.mem_cons,List.not_mem_nil,or_false] at hm
    rcases hm with rfl | rfl
    ·refine RunI.no rfl rfl rfl rfl (RunK.toA (.cons .here rfl (.cons .here rfl (.cons .here rfl .nil))) (.cons .here rfl (.cons .here rfl (.cons .here rfl .nil))) rfl ?_)
     refine RunA.one (i:=24) (by kernel_rfl) (by kernel_rfl) ?_
     refine RunI.no rfl rfl rfl rfl (RunK.toA (.cons .here rfl (.cons .here rfl (.cons .here rfl .nil))) (.cons .here rfl (.cons .here rfl (.cons .here rfl .nil))) rfl ?_)
     refine RunA.one (i:=25) (by kernel_rfl) (by kernel_rfl) ?_
     refine RunI.no rfl rfl rfl rfl (RunK.toA (.cons .here rfl (.cons .here rfl (.cons .here rfl .nil))) (.cons .here rfl (.cons .here rfl (.cons .here rfl .nil))) rfl ?_)
     refine RunA.toB (by kernel_rfl) ?_
     refine RunB.one (i:=27) (by kernel_rfl) ?_
     refine RunI.no rfl rfl rfl rfl (RunK.toB ?_)
     refine RunB.one (i:=28) (by kernel_rfl) ?_
     refine RunI.no rfl rfl rfl rfl (RunK.toB ?_)
     refine RunB.one (i:=29) (by kernel_rfl) ?_
     refine RunI.val rfl (Val.pure rfl) rfl rfl rfl (RunK.toB ?_)
     refine RunB.one (i:=30) (by kernel_rfl) ?_
     refine RunI.val rfl (Val.pure rfl) rfl rfl rfl (RunK.toB ?_)
     refine RunB.done (by kernel_rfl) ?_
     exact RunE.joinX () trivial rfl (Sub.consE (t:=2) rfl (by simp_all <;> (try intros) <;> omega) (Sub.nil _)) .nil
    refine RunI.no rfl rfl rfl rfl (RunK.toA (.cons .here rfl (.cons .here rfl (.cons .here rfl .nil))) (.cons .here rfl (.cons .here rfl (.cons .here rfl .nil))) rfl ?_)
    refine RunA.one (i:=17) (by kernel_rfl) (by kernel_rfl) ?_
    refine RunI.no rfl rfl rfl rfl (RunK.toA (.cons .here rfl (.cons .here rfl (.cons .here rfl .nil))) (.cons .here rfl (.cons .here rfl (.cons .here rfl .nil))) rfl ?_)
    refine RunA.one (i:=25) (by kernel_rfl) (by kernel_rfl) ?_
    refine RunI.no rfl rfl rfl rfl (RunK.toA (.cons .here rfl (.cons .here rfl (.cons .here rfl .nil))) (.cons .here rfl (.cons .here rfl (.cons .here rfl .nil))) rfl ?_)
    refine RunA.toB (by kernel_rfl) ?_
    refine RunB.one (i:=27) (by kernel_rfl) ?_
    refine RunI.no rfl rfl rfl rfl (RunK.toB ?_)
    refine RunB.one (i:=28) (by kernel_rfl) ?_
    refine RunI.no rfl rfl rfl rfl (RunK.toB ?_)
    refine RunB.one (i:=29) (by kernel_rfl) ?_
    refine RunI.val rfl (Val.pure rfl) rfl rfl rfl (RunK.toB ?_)
    refine RunB.one (i:=30) (by kernel_rfl) ?_
    refine RunI.val rfl (Val.pure rfl) rfl rfl rfl (RunK.toB ?_)
    refine RunB.done (by kernel_rfl) ?_
    exact RunE.joinX () trivial rfl (Sub.consE (t:=2) rfl (by simp_all <;> (try intros) <;> omega) (Sub.nil _)) .nil
   intro g19
   have g19':=g19;clear g19
   try simp only [nH] at g19'
   refine RunA.no (i:=10) rfl (by kernel_rfl) (by kernel_rfl) rfl rfl rfl (fun _ _ _ h=>h) (.cons .here rfl (.cons .here rfl (.cons .here rfl .nil))) rfl ?_
   refine RunA.no (i:=11) rfl (by kernel_rfl) (by kernel_rfl) rfl rfl rfl (fun _ _ _ h=>h) (.cons .here rfl (.cons .here rfl (.cons .here rfl .nil))) rfl ?_
   refine RunA.one (i:=12) (by kernel_rfl) (by kernel_rfl) ?_
   refine RunI.no rfl rfl rfl rfl (RunK.toA (.cons .here rfl (.cons .here rfl (.cons .here rfl .nil))) (.cons .here rfl (.cons .here rfl (.cons .here rfl .nil))) rfl ?_)
   refine va 13 rfl (Val.pure rfl) rfl rfl rfl (.cons .here rfl (.cons .here rfl (.cons .here rfl .nil))) rfl ?_
   refine va 14 rfl (Val.pure rfl) rfl rfl rfl (.cons .here rfl (.cons .here rfl (.cons .here rfl .nil))) rfl ?_
   refine RunA.ways (dj:=24) rfl ?_ ?_
   ·intro g24
    have g24':=g24;clear g24
    try simp only [nH] at g24'
    refine va 15 rfl (Val.fieldAddr rfl fld_25_2) rfl rfl rfl (.cons .here rfl (.cons .here rfl (.cons .here rfl .nil))) rfl ?_
    refine va 16 rfl (Val.load_one rfl (.tail _ (.tail _ (.head _))) ty_23 rfl) rfl rfl rfl (.cons .here rfl (.cons .here rfl (.cons .here rfl .nil))) rfl ?_
    refine va 18 rfl (Val.fieldAddr rfl fld_25_1) rfl rfl rfl (.cons .here rfl (.cons .here rfl (.cons .here rfl .nil))) rfl ?_
    refine va 19 rfl (Val.load_one rfl (.tail _ (.tail _ (.head _))) ty_22 rfl) rfl rfl rfl (.cons .here rfl (.cons .here rfl (.cons .here rfl .nil))) rfl ?_
    refine va 20 rfl (Val.fieldAddr rfl fld_25_3) rfl rfl rfl (.cons .here rfl (.cons .here rfl (.cons .here rfl .nil))) rfl ?_
    refine va 21 rfl (Val.load_one rfl (.tail _ (.tail _ (.head _))) ty_22 rfl) rfl rfl rfl (.cons .here rfl (.cons .here rfl (.cons .here rfl .nil))) rfl ?_
    refine va 22 rfl (Val.fieldAddr rfl fld_25_4) rfl rfl rfl (.cons .here rfl (.cons .here rfl (.cons .here rfl .nil))) rfl ?_
    refine va 23 rfl (Val.load_one rfl (.tail _ (.tail _ (.head _))) ty_22 rfl) rfl rfl rfl (.cons .here rfl (.cons .here rfl (.cons .here rfl .nil))) rfl ?_
    refine va 26 rfl (Val.pure rfl) rfl rfl rfl (.cons .here rfl (.cons .here rfl (.cons .here rfl .nil))) rfl ?_
    refine RunA.all (rs:=[17,24]) (by kernel_rfl) (by simp) (by kernel_rfl) (fun m hm=>?_)
    simp only [List.mem_cons,List.not_mem_nil,or_false] at hm
    rcases hm with rfl | rfl
    ·refine RunI.callNA [(b4,_),(b3,_),(b1,_)] _ rfl rfl (isCall_func rfl ent_144) rfl rfl rfl (fun w hm=>cloneRS_calls t.ways.l t.ways.q t.ways.b t.ways.o t.ways.c w (hT.ways.mono0 (by decide) hm) (by omega) hT.wq) (fun z27=>(RunK.toA (.cons .here rfl (.cons .here rfl (.cons .here rfl .nil))) (.cons .here rfl (.cons .here rfl (.cons .here rfl .nil))) rfl ?_))
     obtain ⟨x27,hx27⟩:=z27
     dsimp only
     refine RunA.one (i:=24) (by kernel_rfl) (by kernel_rfl) ?_
     refine RunI.new rfl (New.buildSlice (parts:=[(0,.tmp 29),(1,.tmp 31),(2,.tmp 33)]) rfl sl_23 zero_22 rfl rfl rfl rfl) rfl rfl rfl (fun b34=>(RunK.toA (.cons .here rfl (.cons .here rfl (.cons .here rfl (.cons .here rfl .nil)))) (.cons (.there .here) rfl (.cons (.there .here) rfl (.cons (.there .here) rfl .nil))) rfl ?_))
     refine RunA.one (i:=25) (by kernel_rfl) (by kernel_rfl) ?_
     refine RunI.appendG (A:=[(b34,_),(b4,_),(b3,_),(b1,_)]) (B:=_) (x:=x27) (ys:=[t.fr.v,t.stay.v,t.light.v]) rfl rfl ap_23 rfl rfl rfl hx27 (by rfl) (fun h=>by cases h) (fun w hm=>src_blk (hm.at (.head _))) (one_of rfl) (by simp only [maxLen];omega) (by omega) rfl (fun z35 hz35=>(RunK.toA (.cons .here rfl (.cons .here rfl (.cons .here rfl (.cons .here rfl .nil)))) (.cons .here rfl (.cons .here rfl (.cons .here rfl (.cons .here rfl .nil)))) rfl ?_))
     refine RunA.toB (by kernel_rfl) ?_
     refine RunB.one (i:=27) (by kernel_rfl) ?_
     have ez:(t.ways.l.map SA.cell).flatten++[t.fr.v,t.stay.v,t.light.v]=(t.all.map SA.cell).flatten:=by (simp [TrA.all,SA.cell])
     rw [ez] at hz35
     have hz:OwnOk 1 z35 t.all.length (t.all.map SA.cell).flatten:=by (rw [hal];exact hz35)
     have e35:ownV z35 (t.ways.l.length + 3) = .slice (ownQ z35) t.all.length (ownC z35):=by (rw [ownV_slice hz35,hal])
     simp only [ez]
     refine RunI.callP rfl (isCall_func rfl ent_143) rfl rfl rfl (fun w hm=>(by rw [e35];have h9:=confRS_calls t.all (ownQ z35) (ownK z35) 0 (ownC z35) 141 #[.pointer (some ⟨b3,0,none⟩),.pointer (some ⟨b4,0,none⟩)] (fun x=>badRow t.fr.l.length x.l) w (own_sl (f:=SA.cell) (fun _=>rfl) (by decide) hz (fun b o h=>hm.at (.tail _ (.tail _ (.tail _ (.tail _ ((by first | exact List.mem_append_left _ h | exact List.mem_append_right _ (List.mem_append_left _ h))))))))) (by omega) ent_141 (fun i h w2 h2=>badRow_calls t.fr.l.length t.all[i] b3 b4 w2 (h2.old_at (hm.at (.tail _ (.tail _ (.head _)))) (by simp)) (h2.old_at (hm.at (.tail _ (.head _))) (by simp)) (((hT.mono0 hm).mono0 h2).all _ (List.getElem_mem h)) (hs.all _ (List.getElem_mem h)));rw [hB] at h9;exact h9)) (RunK.toB ?_)
     refine RunB.one (i:=28) (by kernel_rfl) ?_
     refine RunI.val rfl (Val.pure rfl) rfl rfl rfl (RunK.toB ?_)
     refine RunB.one (i:=29) (by kernel_rfl) ?_
     refine RunI.val rfl (Val.pure rfl) rfl rfl rfl (RunK.toB ?_)
     refine RunB.one (i:=30) (by kernel_rfl) ?_
     refine RunI.val rfl (Val.pure rfl) rfl rfl rfl (RunK.toB ?_)
     refine RunB.done (by kernel_rfl) ?_
     exact RunE.joinX () trivial rfl (Sub.consE (t:=2) rfl (by simp_all <;> (try intros) <;> omega) (Sub.nil _)) .nil
    refine RunI.new rfl (New.buildSlice (parts:=[(0,.tmp 29),(1,.tmp 31),(2,.tmp 33)]) rfl sl_23 zero_22 rfl rfl rfl rfl) rfl rfl rfl (fun b34=>(RunK.toA (.cons .here rfl (.cons .here rfl (.cons .here rfl (.cons .here rfl .nil)))) (.cons (.there .here) rfl (.cons (.there .here) rfl (.cons (.there .here) rfl .nil))) rfl ?_))
    refine RunA.one (i:=17) (by kernel_rfl) (by kernel_rfl) ?_
    refine RunI.callNA [(b34,_),(b4,_),(b3,_),(b1,_)] _ rfl rfl (isCall_func rfl ent_144) rfl rfl rfl (fun w hm=>cloneRS_calls t.ways.l t.ways.q t.ways.b t.ways.o t.ways.c w (hT.ways.mono0 (by decide) hm) (by omega) hT.wq) (fun z27=>(RunK.toA (.cons .here rfl (.cons .here rfl (.cons .here rfl (.cons .here rfl .nil)))) (.cons .here rfl (.cons .here rfl (.cons .here rfl (.cons .here rfl .nil)))) rfl ?_))
    obtain ⟨x27,hx27⟩:=z27
    dsimp only
    refine RunA.one (i:=25) (by kernel_rfl) (by kernel_rfl) ?_
    refine RunI.appendG (A:=[(b34,_),(b4,_),(b3,_),(b1,_)]) (B:=_) (x:=x27) (ys:=[t.fr.v,t.stay.v,t.light.v]) rfl rfl ap_23 rfl rfl rfl hx27 (by rfl) (fun h=>by cases h) (fun w hm=>src_blk (hm.at (.head _))) (one_of rfl) (by simp only [maxLen];omega) (by omega) rfl (fun z35 hz35=>(RunK.toA (.cons .here rfl (.cons .here rfl (.cons .here rfl (.cons .here rfl .nil)))) (.cons .here rfl (.cons .here rfl (.cons .here rfl (.cons .here rfl .nil)))) rfl ?_))
    refine RunA.toB (by kernel_rfl) ?_
    refine RunB.one (i:=27) (by kernel_rfl) ?_
    have ez:(t.ways.l.map SA.cell).flatten++[t.fr.v,t.stay.v,t.light.v]=(t.all.map SA.cell).flatten:=by (simp [TrA.all,SA.cell])
    rw [ez] at hz35
    have hz:OwnOk 1 z35 t.all.length (t.all.map SA.cell).flatten:=by (rw [hal];exact hz35)
    have e35:ownV z35 (t.ways.l.length + 3) = .slice (ownQ z35) t.all.length (ownC z35):=by (rw [ownV_slice hz35,hal])
    simp only [ez]
    refine RunI.callP rfl (isCall_func rfl ent_143) rfl rfl rfl (fun w hm=>(by rw [e35];have h9:=confRS_calls t.all (ownQ z35) (ownK z35) 0 (ownC z35) 141 #[.pointer (some ⟨b3,0,none⟩),.pointer (some ⟨b4,0,none⟩)] (fun x=>badRow t.fr.l.length x.l) w (own_sl (f:=SA.cell) (fun _=>rfl) (by decide) hz (fun b o h=>hm.at (.tail _ (.tail _ (.tail _ (.tail _ ((by first | exact List.mem_append_left _ h | exact List.mem_append_right _ (List.mem_append_left _ h))))))))) (by omega) ent_141 (fun i h w2 h2=>badRow_calls t.fr.l.length t.all[i] b3 b4 w2 (h2.old_at (hm.at (.tail _ (.tail _ (.head _)))) (by simp)) (h2.old_at (hm.at (.tail _ (.head _))) (by simp)) (((hT.mono0 hm).mono0 h2).all _ (List.getElem_mem h)) (hs.all _ (List.getElem_mem h)));rw [hB] at h9;exact h9)) (RunK.toB ?_)
    refine RunB.one (i:=28) (by kernel_rfl) ?_
    refine RunI.val rfl (Val.pure rfl) rfl rfl rfl (RunK.toB ?_)
    refine RunB.one (i:=29) (by kernel_rfl) ?_
    refine RunI.val rfl (Val.pure rfl) rfl rfl rfl (RunK.toB ?_)
    refine RunB.one (i:=30) (by kernel_rfl) ?_
    refine RunI.val rfl (Val.pure rfl) rfl rfl rfl (RunK.toB ?_)
    refine RunB.done (by kernel_rfl) ?_
    exact RunE.joinX () trivial rfl (Sub.consE (t:=2) rfl (by simp_all <;> (try intros) <;> omega) (Sub.nil _)) .nil
   intro g24
   have g24':=g24;clear g24
   try simp only [nH] at g24'
   refine RunA.no (i:=15) rfl (by kernel_rfl) (by kernel_rfl) rfl rfl rfl (fun _ _ _ h=>h) (.cons .here rfl (.cons .here rfl (.cons .here rfl .nil))) rfl ?_
   refine RunA.no (i:=16) rfl (by kernel_rfl) (by kernel_rfl) rfl rfl rfl (fun _ _ _ h=>h) (.cons .here rfl (.cons .here rfl (.cons .here rfl .nil))) rfl ?_
   refine RunA.no (i:=18) rfl (by kernel_rfl) (by kernel_rfl) rfl rfl rfl (fun _ _ _ h=>h) (.cons .here rfl (.cons .here rfl (.cons .here rfl .nil))) rfl ?_
   refine RunA.no (i:=19) rfl (by kernel_rfl) (by kernel_rfl) rfl rfl rfl (fun _ _ _ h=>h) (.cons .here rfl (.cons .here rfl (.cons .here rfl .nil))) rfl ?_
   refine RunA.no (i:=20) rfl (by kernel_rfl) (by kernel_rfl) rfl rfl rfl (fun _ _ _ h=>h) (.cons .here rfl (.cons .here rfl (.cons .here rfl .nil))) rfl ?_
   refine RunA.no (i:=21) rfl (by kernel_rfl) (by kernel_rfl) rfl rfl rfl (fun _ _ _ h=>h) (.cons .here rfl (.cons .here rfl (.cons .here rfl .nil))) rfl ?_
   refine RunA.no (i:=22) rfl (by kernel_rfl) (by kernel_rfl) rfl rfl rfl (fun _ _ _ h=>h) (.cons .here rfl (.cons .here rfl (.cons .here rfl .nil))) rfl ?_
   refine RunA.no (i:=23) rfl (by kernel_rfl) (by kernel_rfl) rfl rfl rfl (fun _ _ _ h=>h) (.cons .here rfl (.cons .here rfl (.cons .here rfl .nil))) rfl ?_
   refine RunA.no (i:=26) rfl (by kernel_rfl) (by kernel_rfl) rfl rfl rfl (fun _ _ _ h=>h) (.cons .here rfl (.cons .here rfl (.cons .here rfl .nil))) rfl ?_
   refine RunA.all (rs:=[17,24]) (by kernel_rfl) (by simp) (by kernel_rfl) (fun m hm=>?_)
   simp only [List.mem_cons,List.not_mem_nil,or_false] at hm
   rcases hm with rfl | rfl
   ·refine RunI.no rfl rfl rfl rfl (RunK.toA (.cons .here rfl (.cons .here rfl (.cons .here rfl .nil))) (.cons .here rfl (.cons .here rfl (.cons .here rfl .nil))) rfl ?_)
    refine RunA.one (i:=24) (by kernel_rfl) (by kernel_rfl) ?_
    refine RunI.no rfl rfl rfl rfl (RunK.toA (.cons .here rfl (.cons .here rfl (.cons .here rfl .nil))) (.cons .here rfl (.cons .here rfl (.cons .here rfl .nil))) rfl ?_)
    refine RunA.one (i:=25) (by kernel_rfl) (by kernel_rfl) ?_
    refine RunI.no rfl rfl rfl rfl (RunK.toA (.cons .here rfl (.cons .here rfl (.cons .here rfl .nil))) (.cons .here rfl (.cons .here rfl (.cons .here rfl .nil))) rfl ?_)
    refine RunA.toB (by kernel_rfl) ?_
    refine RunB.one (i:=27) (by kernel_rfl) ?_
    refine RunI.no rfl rfl rfl rfl (RunK.toB ?_)
    refine RunB.one (i:=28) (by kernel_rfl) ?_
    refine RunI.no rfl rfl rfl rfl (RunK.toB ?_)
    refine RunB.one (i:=29) (by kernel_rfl) ?_
    refine RunI.val rfl (Val.pure rfl) rfl rfl rfl (RunK.toB ?_)
    refine RunB.one (i:=30) (by kernel_rfl) ?_
    refine RunI.val rfl (Val.pure rfl) rfl rfl rfl (RunK.toB ?_)
    refine RunB.done (by kernel_rfl) ?_
    exact RunE.joinX () trivial rfl (Sub.consE (t:=2) rfl (by simp_all <;> (try intros) <;> omega) (Sub.nil _)) .nil
   refine RunI.no rfl rfl rfl rfl (RunK.toA (.cons .here rfl (.cons .here rfl (.cons .here rfl .nil))) (.cons .here rfl (.cons .here rfl (.cons .here rfl .nil))) rfl ?_)
   refine RunA.one (i:=17) (by kernel_rfl) (by kernel_rfl) ?_
   refine RunI.no rfl rfl rfl rfl (RunK.toA (.cons .here rfl (.cons .here rfl (.cons .here rfl .nil))) (.cons .here rfl (.cons .here rfl (.cons .here rfl .nil))) rfl ?_)
   refine RunA.one (i:=25) (by kernel_rfl) (by kernel_rfl) ?_
   refine RunI.no rfl rfl rfl rfl (RunK.toA (.cons .here rfl (.cons .here rfl (.cons .here rfl .nil))) (.cons .here rfl (.cons .here rfl (.cons .here rfl .nil))) rfl ?_)
   refine RunA.toB (by kernel_rfl) ?_
   refine RunB.one (i:=27) (by kernel_rfl) ?_
   refine RunI.no rfl rfl rfl rfl (RunK.toB ?_)
   refine RunB.one (i:=28) (by kernel_rfl) ?_
   refine RunI.no rfl rfl rfl rfl (RunK.toB ?_)
   refine RunB.one (i:=29) (by kernel_rfl) ?_
   refine RunI.val rfl (Val.pure rfl) rfl rfl rfl (RunK.toB ?_)
   refine RunB.one (i:=30) (by kernel_rfl) ?_
   refine RunI.val rfl (Val.pure rfl) rfl rfl rfl (RunK.toB ?_)
   refine RunB.done (by kernel_rfl) ?_
   exact RunE.joinX () trivial rfl (Sub.consE (t:=2) rfl (by simp_all <;> (try intros) <;> omega) (Sub.nil _)) .nil
  intro u uI
  refine st ?_
  refine RunC.ret ?_
  exact RunE.retP (.r1 rfl (.tmp rfl)) (by first | rfl | simp)
end Go.Proofs.YtleamcmljcdapaaGreatDoor
namespace Go.Proofs.YtleamcmljcdapaaGreatDoor
open Go Go.Eng
theorem ent_129:Enters Tryz.prog 129:=enters_of Tryz.func129 (by kernel_rfl) rfl
theorem ent_132:Enters Tryz.prog 132:=enters_of Tryz.func132 (by kernel_rfl) rfl
theorem ent_151:Enters Tryz.prog 151:=enters_of Tryz.func151 (by kernel_rfl) rfl
theorem ent_152:Enters Tryz.prog 152:=enters_of Tryz.func152 (by kernel_rfl) rfl
theorem ent_153:Enters Tryz.prog 153:=enters_of Tryz.func153 (by kernel_rfl) rfl
theorem ent_154:Enters Tryz.prog 154:=enters_of Tryz.func154 (by kernel_rfl) rfl
theorem ent_155:Enters Tryz.prog 155:=enters_of Tryz.func155 (by kernel_rfl) rfl
theorem ent_156:Enters Tryz.prog 156:=enters_of Tryz.func156 (by kernel_rfl) rfl
theorem ent_157:Enters Tryz.prog 157:=enters_of Tryz.func157 (by kernel_rfl) rfl
theorem ent_158:Enters Tryz.prog 158:=enters_of Tryz.func158 (by kernel_rfl) rfl
theorem ent_159:Enters Tryz.prog 159:=enters_of Tryz.func159 (by kernel_rfl) rfl
theorem ent_160:Enters Tryz.prog 160:=enters_of Tryz.func160 (by kernel_rfl) rfl
theorem ent_161:Enters Tryz.prog 161:=enters_of Tryz.func161 (by kernel_rfl) rfl
theorem ent_162:Enters Tryz.prog 162:=enters_of Tryz.func162 (by kernel_rfl) rfl
theorem ent_163:Enters Tryz.prog 163:=enters_of Tryz.func163 (by kernel_rfl) rfl
theorem ent_164:Enters Tryz.prog 164:=enters_of Tryz.func164 (by kernel_rfl) rfl
theorem fld_109_0:fieldB Tryz.prog 109 0=some 0:=by kernel_rfl
theorem fld_109_1:fieldB Tryz.prog 109 1=some 1:=by kernel_rfl
theorem fld_109_2:fieldB Tryz.prog 109 2=some 2:=by kernel_rfl
theorem fld_111_0:fieldB Tryz.prog 111 0=some 0:=by kernel_rfl
theorem fld_111_1:fieldB Tryz.prog 111 1=some 1:=by kernel_rfl
theorem fld_111_2:fieldB Tryz.prog 111 2=some 2:=by kernel_rfl
theorem fld_111_3:fieldB Tryz.prog 111 3=some 3:=by kernel_rfl
theorem fld_120_0:fieldB Tryz.prog 120 0=some 0:=by kernel_rfl
theorem fld_120_1:fieldB Tryz.prog 120 1=some 2:=by kernel_rfl
theorem fld_120_2:fieldB Tryz.prog 120 2=some 4:=by kernel_rfl
theorem fld_30_0:fieldB Tryz.prog 30 0=some 0:=by kernel_rfl
theorem fld_30_1:fieldB Tryz.prog 30 1=some 1:=by kernel_rfl
theorem fld_30_2:fieldB Tryz.prog 30 2=some 2:=by kernel_rfl
theorem fld_30_3:fieldB Tryz.prog 30 3=some 3:=by kernel_rfl
theorem fld_35_0:fieldB Tryz.prog 35 0=some 0:=by kernel_rfl
theorem fld_35_1:fieldB Tryz.prog 35 1=some 1:=by kernel_rfl
theorem fld_35_2:fieldB Tryz.prog 35 2=some 2:=by kernel_rfl
theorem fld_35_3:fieldB Tryz.prog 35 3=some 3:=by kernel_rfl
theorem fld_35_4:fieldB Tryz.prog 35 4=some 4:=by kernel_rfl
theorem fld_40_0:fieldB Tryz.prog 40 0=some 0:=by kernel_rfl
theorem fld_40_1:fieldB Tryz.prog 40 1=some 1:=by kernel_rfl
theorem fld_40_2:fieldB Tryz.prog 40 2=some 3:=by kernel_rfl
theorem fld_98_0:fieldB Tryz.prog 98 0=some 0:=by kernel_rfl
theorem fld_98_1:fieldB Tryz.prog 98 1=some 1:=by kernel_rfl
theorem fld_98_2:fieldB Tryz.prog 98 2=some 2:=by kernel_rfl
theorem fld_98_3:fieldB Tryz.prog 98 3=some 3:=by kernel_rfl
theorem ty_28:tyB Tryz.prog 28=some (false,1):=by kernel_rfl
theorem ty_30:tyB Tryz.prog 30=some (true,4):=by kernel_rfl
theorem ty_31:tyB Tryz.prog 31=some (false,1):=by kernel_rfl
theorem ty_32:tyB Tryz.prog 32=some (false,1):=by kernel_rfl
theorem ty_33:tyB Tryz.prog 33=some (false,1):=by kernel_rfl
theorem ty_36:tyB Tryz.prog 36=some (false,1):=by kernel_rfl
end Go.Proofs.YtleamcmljcdapaaGreatDoor
namespace Go.Bk
open Go Go.Eng Go.RowKit
def idxI (l:List Int) (x:Int):Int:=idxP (fun y=>decide (x=y)) l
theorem idxX_eq (l:List Int) (x:Int):idxX l x=idxI l x:=rfl
theorem eqc (a b:Nat):decide ((a:Int)=(b:Int))=decide (a=b):=decide_eq_decide.2 Int.ofNat_inj
theorem le4 (a:Nat):decide ((a:Int)≤4)=decide (a≤4):=decide_eq_decide.2 (by omega)
theorem le5 (a:Nat):decide ((a:Int)≤5)=decide (a≤5):=decide_eq_decide.2 (by omega)
theorem le12 (a:Nat):decide ((a:Int)≤12)=decide (a≤12):=decide_eq_decide.2 (by omega)
theorem le20 (a:Nat):decide ((a:Int)≤20)=decide (a≤20):=decide_eq_decide.2 (by omega)
def homesH (hi:Int) (c:Cb) (k:Nat):Bool:=(List.range k).all fun i=>within (c.homes.getD i 0) 0 hi && decide (idxX c.homes (c.homes.getD i 0)=(i:Int))
theorem homesH_step (hi:Int) (c:Cb) (k:Nat):homesH hi c (k + 1)=(homesH hi c k && (within (c.homes.getD k 0) 0 hi && decide (idxX c.homes (c.homes.getD k 0)=(k:Int)))):=by
  unfold homesH
  rw [List.range_succ,List.all_append]
  simp
theorem homesH_eq {c:Cb} (h:within c.slots 1 6=true) (k:Nat):homesH (IntKind.i64.wrap (c.slots - 1)) c k=homesX c k:=by
  simp only [within,Bool.and_eq_true,decide_eq_true_eq] at h
  unfold homesH homesX
  rw [IntWalk.i64_in _ ⟨by omega,by omega⟩]
theorem ry_rows {r:RyA} (p:List Int→Bool):(r.pl.shares).any p=r.shares.l.any fun x=>p x.l:=any_map _ _ _
end Go.Bk
namespace Go.Proofs.YtleamcmljcdapaaGreatDoor
open Go Go.Eng Go.Bk

theorem sharing_calls (x:SA Int) (W:World) (hS:x.ok intC 1 W) (hl:x.l.length≤10000):Calls Tryz.prog 159 #[x.v] W (Pure (.bool (sharingX x.l)) W):=by
  refine calls_start Tryz.func159 rfl rfl ?_
  refine st ?_
  refine lv (Val.len_sl rfl sl_27) ?_
  refine RunC.loopK (x.l.length) (fun k q=>(8,.int .i64 (k:Int))::(3,.int .i64 ((x.l.take k).sum))::q) (fun _=>_) (fun _=>[]) (fun k=>(x.l.take k).all (fun n=>within n 0 1000)=true) (by simp) rfl (Sub.consE (t:=8) rfl rfl (Sub.consE (t:=3) rfl (by simp) (Sub.cons (t:=0) rfl (Sub.cons (t:=6) rfl (Sub.cons (t:=7) rfl (Sub.nil _)))))) .nil ?_
  intro k kN kI
  refine st ?_
  refine cn rfl ?_ ?_
  ·intro c0'
   have hk:k < x.l.length:=by omega
   obtain ⟨y,hy⟩:∃ y,x.l[k]=y:=⟨_,rfl⟩
   have hb:=sharing_bound kI
   rw [List.length_take] at hb
   refine st ?_
   refine lv (Val.indexAddr_slp rfl rfl sl_27 (by omega) (by omega) (Sl.ptrM hS hk)) ?_
   refine lv (Val.load_gen rfl (fun w hm=>Sl.loadM1 hS (by decide) hm (by simp) ty_3 hk (v:=.int .i64 y) (by simp [intC,hy]))) ?_
   refine RunL.callP (isCall_func rfl ent_131) rfl rfl rfl (fun w hm=>within_calls _ _ _ w) ?_
   refine st ?_
   refine cn rfl ?_ ?_
   ·intro c1'
    have hw:within y 0 1000=false:=by simpa using c1'
    refine st ?_
    refine RunC.ret ?_
    refine RunE.pass_ret ?_
    refine RunE.block_ret ?_
    refine RunE.pass_ret ?_
    refine RunE.pass_ret ?_
    refine RunE.block_ret ?_
    refine RunE.pass_ret ?_
    exact RunE.retP (.r1 rfl (.tmp rfl)) (by have h9:x.l.all (fun n=>within n 0 1000)=false:=by { rw [List.all_eq_false];exact ⟨y,by rw [← hy];exact List.getElem_mem hk,by simp [hw]⟩ };unfold sharingX;rw [h9];rfl)
   intro c1'
   have hw:within y 0 1000=true:=by simpa using c1'
   have hw2:=hw
   simp only [within,Bool.and_eq_true,decide_eq_true_eq] at hw2
   refine st ?_
   refine lv (Val.add rfl rfl (IntWalk.i64_in _ ⟨by omega,by omega⟩)) ?_
   refine lv (Val.add rfl rfl (IntWalk.i64_in _ ⟨by omega,by omega⟩)) ?_
   exact RunE.round (by omega) (sharing_all hk hy kI hw) rfl (Sub.consE (t:=8) rfl rfl (Sub.consE (t:=3) rfl (by rw [sharing_step hk hy]) (Sub.cons (t:=0) rfl (Sub.cons (t:=6) rfl (Sub.cons (t:=7) rfl (Sub.nil _)))))) .nil
  intro c0'
  obtain rfl:k=x.l.length:=by omega
  rw [List.take_length] at kI ⊢
  refine RunC.exit ?_
  refine RunE.pass_exit ?_
  refine RunE.pass_exit ?_
  refine RunE.block_here ?_
  refine st ?_
  refine lv (Val.len_sl rfl sl_27) ?_
  refine RunL.callP (isCall_func rfl ent_131) rfl rfl rfl (fun w hm=>within_calls _ _ _ w) ?_
  refine st ?_
  refine RunL.andPart (dj:=22) (dp:=25) 3 rfl (fun g22=>by
    have g22':=g22
    try simp only [nH] at g22'
    refine sv ?_
    exact RunL.segEnd (Sub.cons rfl (Sub.skip rfl (Sub.skip rfl (Sub.skip rfl (Sub.same rfl (by rw [g22]) (Sub.refl _)))))) (List.Sublist.refl _)
  ) (fun g22=>by
    have g22':=g22
    try simp only [nH] at g22'
    refine RunL.no rfl rfl rfl ?_
    refine RunL.no rfl rfl rfl ?_
    refine sv ?_
    exact RunL.segEnd (Sub.cons rfl (Sub.skip rfl (Sub.skip rfl (Sub.skip rfl (Sub.same rfl (by rw [g22]) (Sub.refl _)))))) (List.Sublist.refl _)
  ) ?_
  refine st ?_
  refine RunC.ret ?_
  exact RunE.retP (.r1 rfl (.tmp rfl)) (by unfold sharingX;rw [kI];simp)
theorem badTm_calls (t:Tm) (W:World):Calls Tryz.prog 155 #[.agg t.cells.toArray] W (Pure (.bool (badTm t)) W):=by
  refine calls_start Tryz.func155 rfl rfl ?_
  refine st ?_
  refine RunL.new (New.box rfl) rfl rfl rfl (fun b1=>?_)
  refine st ?_
  refine lv (Val.fieldAddr rfl fld_109_0) ?_
  refine lv (Val.load_one rfl (.head _) ty_3 rfl) ?_
  refine RunL.callP (isCall_func rfl ent_131) rfl rfl rfl (fun w hm=>within_calls _ _ _ w) ?_
  refine st ?_
  refine RunL.orPart (dj:=7) (dp:=12) 5 rfl (fun g7=>by
    have g7':=g7
    try simp only [nH] at g7'
    refine lv (Val.fieldAddr rfl fld_109_2) ?_
    refine lv (Val.load_one rfl (.head _) ty_3 rfl) ?_
    refine RunL.callP (isCall_func rfl ent_131) rfl rfl rfl (fun w hm=>within_calls _ _ _ w) ?_
    refine sv ?_
    exact RunL.segEnd (Sub.cons rfl (Sub.skip rfl (Sub.skip rfl (Sub.skip rfl (Sub.skip rfl (Sub.skip rfl (Sub.same rfl (by rw [g7]) (Sub.refl _)))))))) (List.Sublist.refl _)
  ) (fun g7=>by
    have g7':=g7
    try simp only [nH] at g7'
    iterate 4 refine RunL.no rfl rfl rfl ?_
    refine sv ?_
    exact RunL.segEnd (Sub.cons rfl (Sub.skip rfl (Sub.skip rfl (Sub.skip rfl (Sub.skip rfl (Sub.skip rfl (Sub.same rfl (by rw [g7]) (Sub.refl _)))))))) (List.Sublist.refl _)
  ) ?_
  refine st ?_
  refine RunL.orPart (dj:=13) (dp:=18) 5 rfl (fun g13=>by
    have g13':=g13
    try simp only [nH] at g13'
    refine lv (Val.fieldAddr rfl fld_109_1) ?_
    refine lv (Val.load_one rfl (.head _) ty_3 rfl) ?_
    refine RunL.callP (isCall_func rfl ent_131) rfl rfl rfl (fun w hm=>within_calls _ _ _ w) ?_
    refine sv ?_
    exact RunL.segEnd (Sub.cons rfl (Sub.skip rfl (Sub.skip rfl (Sub.skip rfl (Sub.skip rfl (Sub.skip rfl (Sub.same rfl (by rw [g13]) (Sub.refl _)))))))) (List.Sublist.refl _)
  ) (fun g13=>by
    have g13':=g13
    try simp only [nH] at g13'
    iterate 4 refine RunL.no rfl rfl rfl ?_
    refine sv ?_
    exact RunL.segEnd (Sub.cons rfl (Sub.skip rfl (Sub.skip rfl (Sub.skip rfl (Sub.skip rfl (Sub.skip rfl (Sub.same rfl (by rw [g13]) (Sub.refl _)))))))) (List.Sublist.refl _)
  ) ?_
  refine st ?_
  refine RunC.ret ?_
  exact RunE.retP (.r1 rfl (.tmp rfl)) (by unfold badTm;simp)
theorem badPaid_calls (n:Int) (W:World):Calls Tryz.prog 156 #[.int .i64 n] W (Pure (.bool (!within n 0 1099511627776)) W):=by
  refine calls_start Tryz.func156 rfl rfl ?_
  refine st ?_
  refine RunL.callP (isCall_func rfl ent_131) rfl rfl rfl (fun w hm=>within_calls _ _ _ w) ?_
  refine st ?_
  refine RunC.ret ?_
  exact RunE.retP (.r1 rfl (.tmp rfl)) (by first | rfl | simp)
theorem badPrice_calls (n:Int) (W:World):Calls Tryz.prog 157 #[.int .i64 n] W (Pure (.bool (!within n 0 1048576)) W):=by
  refine calls_start Tryz.func157 rfl rfl ?_
  refine st ?_
  refine RunL.callP (isCall_func rfl ent_131) rfl rfl rfl (fun w hm=>within_calls _ _ _ w) ?_
  refine st ?_
  refine RunC.ret ?_
  exact RunE.retP (.r1 rfl (.tmp rfl)) (by first | rfl | simp)
theorem badShare_calls (x:SA Int) (W:World) (hS:x.ok intC 1 W) (hl:x.l.length≤10000):Calls Tryz.prog 158 #[x.v] W (Pure (.bool (!sharingX x.l)) W):=by
  refine calls_start Tryz.func158 rfl rfl ?_
  refine st ?_
  refine RunL.callP (isCall_func rfl ent_159) rfl rfl rfl (fun w hm=>sharing_calls x w (hS.mono0 (by decide) hm) hl) ?_
  refine st ?_
  refine RunC.ret ?_
  exact RunE.retP (.r1 rfl (.tmp rfl)) (by first | rfl | simp)
theorem badRp_calls (x:Rp) (r:RyA) (hs:RySm r) (b1:Nat) (W:World) (h1:W.heap[b1]? = some (.cells r.cells.toArray 35 (0,0))):Calls Tryz.prog 160 #[.agg x.cells.toArray,.pointer (some ⟨b1,0,none⟩)] W (Pure (.bool (badRp r.pl x)) W):=by
  have hs1:=hs.terms
  have hs2:=hs.prices
  refine calls_start Tryz.func160 rfl rfl ?_
  refine st ?_
  refine RunL.new (New.box rfl) rfl rfl rfl (fun b2=>?_)
  refine st ?_
  refine lv (Val.fieldAddr rfl fld_111_0) ?_
  refine lv (Val.load_one rfl (.head _) ty_3 rfl) ?_
  refine lv (Val.fieldAddr rfl fld_35_0) ?_
  refine lv (Val.oload_one rfl h1 (by simp) ty_31 rfl) ?_
  refine lv (Val.len_sl rfl sl_31) ?_
  refine lv (Val.sub' rfl rfl (IntWalk.i64_in _ ⟨by omega,by omega⟩)) ?_
  refine RunL.callP (isCall_func rfl ent_131) rfl rfl rfl (fun w hm=>within_calls _ _ _ w) ?_
  refine st ?_
  refine RunL.orPart (dj:=12) (dp:=21) 9 rfl (fun g12=>by
    have g12':=g12
    try simp only [nH] at g12'
    refine lv (Val.fieldAddr rfl fld_111_1) ?_
    refine lv (Val.load_one rfl (.head _) ty_3 rfl) ?_
    refine lv (Val.fieldAddr rfl fld_35_1) ?_
    refine lv (Val.oload_one rfl h1 (by simp) ty_27 rfl) ?_
    refine lv (Val.len_sl rfl sl_27) ?_
    refine lv (Val.sub' rfl rfl (IntWalk.i64_in _ ⟨by omega,by omega⟩)) ?_
    refine RunL.callP (isCall_func rfl ent_131) rfl rfl rfl (fun w hm=>within_calls _ _ _ w) ?_
    refine sv ?_
    exact RunL.segEnd (Sub.cons rfl (Sub.skip rfl (Sub.skip rfl (Sub.skip rfl (Sub.skip rfl (Sub.skip rfl (Sub.skip rfl (Sub.skip rfl (Sub.skip rfl (Sub.skip rfl (Sub.same rfl (by rw [g12]) (Sub.refl _)))))))))))) (List.Sublist.refl _)
  ) (fun g12=>by
    have g12':=g12
    try simp only [nH] at g12'
    iterate 8 refine RunL.no rfl rfl rfl ?_
    refine sv ?_
    exact RunL.segEnd (Sub.cons rfl (Sub.skip rfl (Sub.skip rfl (Sub.skip rfl (Sub.skip rfl (Sub.skip rfl (Sub.skip rfl (Sub.skip rfl (Sub.skip rfl (Sub.skip rfl (Sub.same rfl (by rw [g12]) (Sub.refl _)))))))))))) (List.Sublist.refl _)
  ) ?_
  refine st ?_
  refine RunL.orPart (dj:=22) (dp:=26) 4 rfl (fun g22=>by
    have g22':=g22
    try simp only [nH] at g22'
    refine lv (Val.fieldAddr rfl fld_111_2) ?_
    refine RunL.val (Val.load_one rfl (.head _) ty_3 rfl) rfl rfl rfl ?_
    refine sv ?_
    exact RunL.segEnd (Sub.cons rfl (Sub.skip rfl (Sub.skip rfl (Sub.skip rfl (Sub.skip rfl (Sub.same rfl (by rw [g22]) (Sub.refl _))))))) (List.Sublist.refl _)
  ) (fun g22=>by
    have g22':=g22
    try simp only [nH] at g22'
    iterate 3 refine RunL.no rfl rfl rfl ?_
    refine sv ?_
    exact RunL.segEnd (Sub.cons rfl (Sub.skip rfl (Sub.skip rfl (Sub.skip rfl (Sub.skip rfl (Sub.same rfl (by rw [g22]) (Sub.refl _))))))) (List.Sublist.refl _)
  ) ?_
  refine st ?_
  refine RunL.orPart (dj:=27) (dp:=33) 6 rfl (fun g27=>by
    have g27':=g27
    try simp only [nH] at g27'
    refine lv (Val.fieldAddr rfl fld_111_2) ?_
    refine lv (Val.load_one rfl (.head _) ty_3 rfl) ?_
    refine lv (Val.fieldAddr rfl fld_111_3) ?_
    refine RunL.val (Val.load_one rfl (.head _) ty_3 rfl) rfl rfl rfl ?_
    refine sv ?_
    exact RunL.segEnd (Sub.cons rfl (Sub.skip rfl (Sub.skip rfl (Sub.skip rfl (Sub.skip rfl (Sub.skip rfl (Sub.skip rfl (Sub.same rfl (by rw [g27]) (Sub.refl _))))))))) (List.Sublist.refl _)
  ) (fun g27=>by
    have g27':=g27
    try simp only [nH] at g27'
    iterate 5 refine RunL.no rfl rfl rfl ?_
    refine sv ?_
    exact RunL.segEnd (Sub.cons rfl (Sub.skip rfl (Sub.skip rfl (Sub.skip rfl (Sub.skip rfl (Sub.skip rfl (Sub.skip rfl (Sub.same rfl (by rw [g27]) (Sub.refl _))))))))) (List.Sublist.refl _)
  ) ?_
  refine st ?_
  refine RunL.orPart (dj:=34) (dp:=38) 4 rfl (fun g34=>by
    have g34':=g34
    try simp only [nH] at g34'
    refine lv (Val.fieldAddr rfl fld_111_3) ?_
    refine RunL.val (Val.load_one rfl (.head _) ty_3 rfl) rfl rfl rfl ?_
    refine sv ?_
    exact RunL.segEnd (Sub.cons rfl (Sub.skip rfl (Sub.skip rfl (Sub.skip rfl (Sub.skip rfl (Sub.same rfl (by rw [g34]) (Sub.refl _))))))) (List.Sublist.refl _)
  ) (fun g34=>by
    have g34':=g34
    try simp only [nH] at g34'
    iterate 3 refine RunL.no rfl rfl rfl ?_
    refine sv ?_
    exact RunL.segEnd (Sub.cons rfl (Sub.skip rfl (Sub.skip rfl (Sub.skip rfl (Sub.skip rfl (Sub.same rfl (by rw [g34]) (Sub.refl _))))))) (List.Sublist.refl _)
  ) ?_
  refine st ?_
  refine RunC.ret ?_
  exact RunE.retP (.r1 rfl (.tmp rfl)) (by unfold badRp;simp [RyA.pl])
theorem isRoyal_calls (r:RyA) (hs:RySm r) (W:World) (hR:RyOk W r):Calls Tryz.prog 126 #[r.v] W (Pure (.bool (royalX r.pl)) W):=by
  obtain ⟨h1,h2,h3,h4,h5,h6⟩:=hs
  have hs:RySm r:=⟨h1,h2,h3,h4,h5,h6⟩
  have hsl:r.pl.shares.length=r.shares.l.length:=by simp [RyA.pl]
  refine calls_start Tryz.func126 rfl rfl ?_
  refine st ?_
  refine RunL.new (New.box rfl) rfl rfl rfl (fun b1=>?_)
  refine st ?_
  refine lv (Val.fieldAddr rfl fld_35_0) ?_
  refine lv (Val.load_one rfl (.head _) ty_31 rfl) ?_
  refine lv (Val.len_sl rfl sl_31) ?_
  refine RunL.andPart (dj:=13) (dp:=21) 8 rfl (fun g13=>by
    have g13':=g13
    try simp only [nH] at g13'
    refine lv (Val.fieldAddr rfl fld_35_4) ?_
    refine lv (Val.load_one rfl (.head _) ty_27 rfl) ?_
    refine lv (Val.len_sl rfl sl_27) ?_
    refine lv (Val.fieldAddr rfl fld_35_0) ?_
    refine lv (Val.load_one rfl (.head _) ty_31 rfl) ?_
    refine RunL.val (Val.len_sl rfl sl_31) rfl rfl rfl ?_
    refine sv ?_
    exact RunL.segEnd (Sub.cons rfl (Sub.skip rfl (Sub.skip rfl (Sub.skip rfl (Sub.skip rfl (Sub.skip rfl (Sub.skip rfl (Sub.skip rfl (Sub.skip rfl (Sub.same rfl (by rw [g13]) (Sub.refl _))))))))))) (List.Sublist.refl _)
  ) (fun g13=>by
    have g13':=g13
    try simp only [nH] at g13'
    iterate 7 refine RunL.no rfl rfl rfl ?_
    refine sv ?_
    exact RunL.segEnd (Sub.cons rfl (Sub.skip rfl (Sub.skip rfl (Sub.skip rfl (Sub.skip rfl (Sub.skip rfl (Sub.skip rfl (Sub.skip rfl (Sub.skip rfl (Sub.same rfl (by rw [g13]) (Sub.refl _))))))))))) (List.Sublist.refl _)
  ) ?_
  refine st ?_
  refine RunL.andPart (dj:=22) (dp:=27) 5 rfl (fun g22=>by
    have g22':=g22
    try simp only [nH] at g22'
    refine lv (Val.fieldAddr rfl fld_35_1) ?_
    refine lv (Val.load_one rfl (.head _) ty_27 rfl) ?_
    refine RunL.val (Val.len_sl rfl sl_27) rfl rfl rfl ?_
    refine sv ?_
    exact RunL.segEnd (Sub.cons rfl (Sub.skip rfl (Sub.skip rfl (Sub.skip rfl (Sub.skip rfl (Sub.skip rfl (Sub.same rfl (by rw [g22]) (Sub.refl _)))))))) (List.Sublist.refl _)
  ) (fun g22=>by
    have g22':=g22
    try simp only [nH] at g22'
    iterate 4 refine RunL.no rfl rfl rfl ?_
    refine sv ?_
    exact RunL.segEnd (Sub.cons rfl (Sub.skip rfl (Sub.skip rfl (Sub.skip rfl (Sub.skip rfl (Sub.skip rfl (Sub.same rfl (by rw [g22]) (Sub.refl _)))))))) (List.Sublist.refl _)
  ) ?_
  refine st ?_
  refine RunL.andPart (dj:=28) (dp:=36) 8 rfl (fun g28=>by
    have g28':=g28
    try simp only [nH] at g28'
    refine lv (Val.fieldAddr rfl fld_35_2) ?_
    refine lv (Val.load_one rfl (.head _) ty_32 rfl) ?_
    refine lv (Val.len_sl rfl sl_32) ?_
    refine lv (Val.fieldAddr rfl fld_35_1) ?_
    refine lv (Val.load_one rfl (.head _) ty_27 rfl) ?_
    refine RunL.val (Val.len_sl rfl sl_27) rfl rfl rfl ?_
    refine sv ?_
    exact RunL.segEnd (Sub.cons rfl (Sub.skip rfl (Sub.skip rfl (Sub.skip rfl (Sub.skip rfl (Sub.skip rfl (Sub.skip rfl (Sub.skip rfl (Sub.skip rfl (Sub.same rfl (by rw [g28]) (Sub.refl _))))))))))) (List.Sublist.refl _)
  ) (fun g28=>by
    have g28':=g28
    try simp only [nH] at g28'
    iterate 7 refine RunL.no rfl rfl rfl ?_
    refine sv ?_
    exact RunL.segEnd (Sub.cons rfl (Sub.skip rfl (Sub.skip rfl (Sub.skip rfl (Sub.skip rfl (Sub.skip rfl (Sub.skip rfl (Sub.skip rfl (Sub.skip rfl (Sub.same rfl (by rw [g28]) (Sub.refl _))))))))))) (List.Sublist.refl _)
  ) ?_
  refine st ?_
  refine RunL.andPart (dj:=37) (dp:=42) 5 rfl (fun g37=>by
    have g37':=g37
    try simp only [nH] at g37'
    refine lv (Val.fieldAddr rfl fld_35_3) ?_
    refine lv (Val.load_one rfl (.head _) ty_33 rfl) ?_
    refine RunL.val (Val.len_sl rfl sl_33) rfl rfl rfl ?_
    refine sv ?_
    exact RunL.segEnd (Sub.cons rfl (Sub.skip rfl (Sub.skip rfl (Sub.skip rfl (Sub.skip rfl (Sub.skip rfl (Sub.same rfl (by rw [g37]) (Sub.refl _)))))))) (List.Sublist.refl _)
  ) (fun g37=>by
    have g37':=g37
    try simp only [nH] at g37'
    iterate 4 refine RunL.no rfl rfl rfl ?_
    refine sv ?_
    exact RunL.segEnd (Sub.cons rfl (Sub.skip rfl (Sub.skip rfl (Sub.skip rfl (Sub.skip rfl (Sub.skip rfl (Sub.same rfl (by rw [g37]) (Sub.refl _)))))))) (List.Sublist.refl _)
  ) ?_
  refine st ?_
  refine RunL.andPart (dj:=45) (dp:=51) 6 rfl (fun g45=>by
    have g45':=g45
    try simp only [nH] at g45'
    refine lv (Val.fieldAddr rfl fld_35_0) ?_
    refine lv (Val.load_one rfl (.head _) ty_31 rfl) ?_
    refine RunL.callP (isCall_func rfl ent_161) rfl rfl rfl (fun w hm=>confTm_calls r.terms.l _ _ _ _ 155 #[] badTm w ((hR.mono0 hm).terms) (by omega) ent_155 (fun i h w2 h2=>badTm_calls _ w2)) ?_
    refine sv ?_
    exact RunL.segEnd (Sub.cons rfl (Sub.skip rfl (Sub.skip rfl (Sub.skip rfl (Sub.skip rfl (Sub.skip rfl (Sub.skip rfl (Sub.same rfl (by rw [g45]) (Sub.refl _))))))))) (List.Sublist.refl _)
  ) (fun g45=>by
    have g45':=g45
    try simp only [nH] at g45'
    iterate 5 refine RunL.no rfl rfl rfl ?_
    refine sv ?_
    exact RunL.segEnd (Sub.cons rfl (Sub.skip rfl (Sub.skip rfl (Sub.skip rfl (Sub.skip rfl (Sub.skip rfl (Sub.skip rfl (Sub.same rfl (by rw [g45]) (Sub.refl _))))))))) (List.Sublist.refl _)
  ) ?_
  refine st ?_
  refine RunL.andPart (dj:=52) (dp:=58) 6 rfl (fun g52=>by
    have g52':=g52
    try simp only [nH] at g52'
    refine lv (Val.fieldAddr rfl fld_35_4) ?_
    refine lv (Val.load_one rfl (.head _) ty_27 rfl) ?_
    refine RunL.callP (isCall_func rfl ent_162) rfl rfl rfl (fun w hm=>confI_calls r.paid.l _ _ _ _ 156 #[] (fun n=>!within n 0 1099511627776) w ((hR.mono0 hm).paid) (by omega) ent_156 (fun i h w2 h2=>badPaid_calls _ w2)) ?_
    refine sv ?_
    exact RunL.segEnd (Sub.cons rfl (Sub.skip rfl (Sub.skip rfl (Sub.skip rfl (Sub.skip rfl (Sub.skip rfl (Sub.skip rfl (Sub.same rfl (by rw [g52]) (Sub.refl _))))))))) (List.Sublist.refl _)
  ) (fun g52=>by
    have g52':=g52
    try simp only [nH] at g52'
    iterate 5 refine RunL.no rfl rfl rfl ?_
    refine sv ?_
    exact RunL.segEnd (Sub.cons rfl (Sub.skip rfl (Sub.skip rfl (Sub.skip rfl (Sub.skip rfl (Sub.skip rfl (Sub.skip rfl (Sub.same rfl (by rw [g52]) (Sub.refl _))))))))) (List.Sublist.refl _)
  ) ?_
  refine st ?_
  refine RunL.andPart (dj:=59) (dp:=65) 6 rfl (fun g59=>by
    have g59':=g59
    try simp only [nH] at g59'
    refine lv (Val.fieldAddr rfl fld_35_1) ?_
    refine lv (Val.load_one rfl (.head _) ty_27 rfl) ?_
    refine RunL.callP (isCall_func rfl ent_162) rfl rfl rfl (fun w hm=>confI_calls r.prices.l _ _ _ _ 157 #[] (fun n=>!within n 0 1048576) w ((hR.mono0 hm).prices) (by omega) ent_157 (fun i h w2 h2=>badPrice_calls _ w2)) ?_
    refine sv ?_
    exact RunL.segEnd (Sub.cons rfl (Sub.skip rfl (Sub.skip rfl (Sub.skip rfl (Sub.skip rfl (Sub.skip rfl (Sub.skip rfl (Sub.same rfl (by rw [g59]) (Sub.refl _))))))))) (List.Sublist.refl _)
  ) (fun g59=>by
    have g59':=g59
    try simp only [nH] at g59'
    iterate 5 refine RunL.no rfl rfl rfl ?_
    refine sv ?_
    exact RunL.segEnd (Sub.cons rfl (Sub.skip rfl (Sub.skip rfl (Sub.skip rfl (Sub.skip rfl (Sub.skip rfl (Sub.skip rfl (Sub.same rfl (by rw [g59]) (Sub.refl _))))))))) (List.Sublist.refl _)
  ) ?_
  refine st ?_
  refine RunL.andPart (dj:=66) (dp:=72) 6 rfl (fun g66=>by
    have g66':=g66
    try simp only [nH] at g66'
    refine lv (Val.fieldAddr rfl fld_35_2) ?_
    refine lv (Val.load_one rfl (.head _) ty_32 rfl) ?_
    refine RunL.callP (isCall_func rfl ent_163) rfl rfl rfl (fun w hm=>confRI_calls r.shares.l _ _ _ _ 158 #[] (fun x=>!sharingX x.l) w ((hR.mono0 hm).shares) (by omega) ent_158 (fun i h w2 h2=>badShare_calls _ w2 (((hR.mono0 hm).mono0 h2).rows _ (List.getElem_mem h)) (hs.rows _ (List.getElem_mem h)))) ?_
    refine sv ?_
    exact RunL.segEnd (Sub.cons rfl (Sub.skip rfl (Sub.skip rfl (Sub.skip rfl (Sub.skip rfl (Sub.skip rfl (Sub.skip rfl (Sub.same rfl (by rw [g66]) (Sub.refl _))))))))) (List.Sublist.refl _)
  ) (fun g66=>by
    have g66':=g66
    try simp only [nH] at g66'
    iterate 5 refine RunL.no rfl rfl rfl ?_
    refine sv ?_
    exact RunL.segEnd (Sub.cons rfl (Sub.skip rfl (Sub.skip rfl (Sub.skip rfl (Sub.skip rfl (Sub.skip rfl (Sub.skip rfl (Sub.same rfl (by rw [g66]) (Sub.refl _))))))))) (List.Sublist.refl _)
  ) ?_
  refine st ?_
  refine RunL.andPart (dj:=73) (dp:=79) 6 rfl (fun g73=>by
    have g73':=g73
    try simp only [nH] at g73'
    refine lv (Val.fieldAddr rfl fld_35_3) ?_
    refine lv (Val.load_one rfl (.head _) ty_33 rfl) ?_
    refine RunL.callP (isCall_func rfl ent_164) rfl rfl rfl (fun w hm=>confRp_calls r.reports.l _ _ _ _ 160 #[.pointer (some ⟨b1,0,none⟩)] (badRp r.pl) w ((hR.mono0 hm).reports) (by omega) ent_160 (fun i h w2 h2=>badRp_calls _ r hs b1 w2 (h2.old_at (hm.at (.head _)) (by simp)))) ?_
    refine sv ?_
    exact RunL.segEnd (Sub.cons rfl (Sub.skip rfl (Sub.skip rfl (Sub.skip rfl (Sub.skip rfl (Sub.skip rfl (Sub.skip rfl (Sub.same rfl (by rw [g73]) (Sub.refl _))))))))) (List.Sublist.refl _)
  ) (fun g73=>by
    have g73':=g73
    try simp only [nH] at g73'
    iterate 5 refine RunL.no rfl rfl rfl ?_
    refine sv ?_
    exact RunL.segEnd (Sub.cons rfl (Sub.skip rfl (Sub.skip rfl (Sub.skip rfl (Sub.skip rfl (Sub.skip rfl (Sub.skip rfl (Sub.same rfl (by rw [g73]) (Sub.refl _))))))))) (List.Sublist.refl _)
  ) ?_
  refine st ?_
  refine RunC.ret ?_
  exact RunE.retP (.r1 rfl (.tmp rfl)) (by unfold royalX;rw [ry_rows,hsl];simp only [le4,le20,eqc];rfl)
theorem indexI_calls (l:List Int) (q:Option Addr) (b o c:Nat) (x:Int) (W:World) (hS:Sl W q b o 1 (l.map intC)) (hl:l.length≤1000000000):Calls Tryz.prog 151 #[.slice q l.length c,.int .i64 x] W (Pure (.int .i64 (idxX l x)) W):=by
  rw [idxX_eq]
  refine calls_start Tryz.func151 rfl rfl ?_
  refine st ?_
  refine lv (Val.len_sl rfl sl_27) ?_
  refine RunC.loopK (l.length) (fun k q=>(8,.int .i64 (k:Int))::q) (fun _=>_) (fun _=>[]) (fun k=>∀ j (h:j < l.length),j < k→decide (x=l[j])=false) (fun j _ h=>absurd h (by omega)) rfl (Sub.consE (t:=8) rfl rfl (Sub.cons (t:=0) rfl (Sub.cons (t:=1) rfl (Sub.cons (t:=7) rfl (Sub.nil _))))) .nil ?_
  intro k kN kI
  refine st ?_
  refine cn rfl ?_ ?_
  ·intro c0'
   have hk:k < l.length:=by omega
   obtain ⟨y,hy⟩:∃ y,l[k]=y:=⟨_,rfl⟩
   refine st ?_
   refine lv (Val.indexAddr_slp rfl rfl sl_27 (by omega) (by omega) (hS.ptrM hk)) ?_
   refine lv (Val.load_gen rfl (fun w hm=>hS.loadM1 (by decide) hm (by simp) ty_3 hk (v:=.int .i64 y) (by simp [intC,hy]))) ?_
   refine cn rfl ?_ ?_
   ·intro c1'
    refine st ?_
    refine RunC.ret ?_
    refine RunE.block_ret ?_
    refine RunE.pass_ret ?_
    refine RunE.pass_ret ?_
    refine RunE.block_ret ?_
    refine RunE.pass_ret ?_
    exact RunE.retP (.r1 rfl (.tmp rfl)) (by unfold idxI;rw [idxP_at hk (by rw [hy];exact decide_eq_true (by omega)) kI])
   intro c1'
   refine st ?_
   refine lv (Val.add rfl rfl (IntWalk.i64_in _ ⟨by omega,by omega⟩)) ?_
   exact RunE.round (by omega) (fun j h h1=>by (rcases Nat.lt_or_ge j k with h4 | h4;exact kI j h h4;have e:j=k:=(by omega);subst e;rw [hy];exact decide_eq_false (by omega))) rfl (Sub.consE (t:=8) rfl rfl (Sub.cons (t:=0) rfl (Sub.cons (t:=1) rfl (Sub.cons (t:=7) rfl (Sub.nil _))))) .nil
  intro c0'
  obtain rfl:k=l.length:=by omega
  refine RunC.exit ?_
  refine RunE.pass_exit ?_
  refine RunE.pass_exit ?_
  refine RunE.block_here ?_
  refine st ?_
  refine RunC.ret ?_
  exact RunE.retP (.r1 rfl (.tmp rfl)) (by unfold idxI;rw [idxP_no (fun j hj=>kI j hj hj)])
theorem isLoan_calls (c:CbA) (hs:CbSm c) (l:Ln) (W:World):Calls Tryz.prog 154 #[c.v,.agg l.cells.toArray] W (Pure (.bool (loanX c.pl l)) W):=by
  have h1:=hs.homes
  have h2:=hs.slots
  refine calls_start Tryz.func154 rfl rfl ?_
  refine st ?_
  refine RunL.new (New.box rfl) rfl rfl rfl (fun b2=>?_)
  refine RunL.new (New.box rfl) rfl rfl rfl (fun b3=>?_)
  refine st ?_
  refine lv (Val.fieldAddr rfl fld_98_1) ?_
  refine lv (Val.load_one rfl (.head _) ty_3 rfl) ?_
  refine lv (Val.fieldAddr rfl fld_30_1) ?_
  refine lv (Val.load_one rfl (.tail _ (.head _)) ty_27 rfl) ?_
  refine lv (Val.len_sl rfl sl_27) ?_
  refine lv (Val.sub' rfl rfl (IntWalk.i64_in _ ⟨by omega,by omega⟩)) ?_
  refine RunL.callP (isCall_func rfl ent_131) rfl rfl rfl (fun w hm=>within_calls _ _ _ w) ?_
  refine st ?_
  refine lv (Val.fieldAddr rfl fld_98_0) ?_
  refine lv (Val.load_one rfl (.head _) ty_3 rfl) ?_
  refine cn rfl ?_ ?_
  ·intro c0'
   refine st ?_
   refine cn rfl ?_ ?_
   ·intro c1'
    refine st ?_
    refine RunL.andPart (dj:=19) (dp:=23) 4 rfl (fun g19=>by
      have g19':=g19
      try simp only [nH] at g19'
      refine lv (Val.fieldAddr rfl fld_98_2) ?_
      refine lv (Val.load_one rfl (.head _) ty_3 rfl) ?_
      refine RunL.callP (isCall_func rfl ent_131) rfl rfl rfl (fun w hm=>within_calls _ _ _ w) ?_
      refine sv ?_
      exact RunL.segEnd (Sub.cons rfl (Sub.skip rfl (Sub.skip rfl (Sub.skip rfl (Sub.skip rfl (Sub.same rfl (by rw [g19]) (Sub.refl _))))))) (List.Sublist.refl _)
    ) (fun g19=>by
      have g19':=g19
      try simp only [nH] at g19'
      iterate 3 refine RunL.no rfl rfl rfl ?_
      refine sv ?_
      exact RunL.segEnd (Sub.cons rfl (Sub.skip rfl (Sub.skip rfl (Sub.skip rfl (Sub.skip rfl (Sub.same rfl (by rw [g19]) (Sub.refl _))))))) (List.Sublist.refl _)
    ) ?_
    refine st ?_
    refine RunL.andPart (dj:=24) (dp:=28) 4 rfl (fun g24=>by
      have g24':=g24
      try simp only [nH] at g24'
      refine lv (Val.fieldAddr rfl fld_98_3) ?_
      refine RunL.val (Val.load_one rfl (.head _) ty_3 rfl) rfl rfl rfl ?_
      refine sv ?_
      exact RunL.segEnd (Sub.cons rfl (Sub.skip rfl (Sub.skip rfl (Sub.skip rfl (Sub.skip rfl (Sub.same rfl (by rw [g24]) (Sub.refl _))))))) (List.Sublist.refl _)
    ) (fun g24=>by
      have g24':=g24
      try simp only [nH] at g24'
      iterate 3 refine RunL.no rfl rfl rfl ?_
      refine sv ?_
      exact RunL.segEnd (Sub.cons rfl (Sub.skip rfl (Sub.skip rfl (Sub.skip rfl (Sub.skip rfl (Sub.same rfl (by rw [g24]) (Sub.refl _))))))) (List.Sublist.refl _)
    ) ?_
    refine st ?_
    refine RunC.ret ?_
    refine RunE.block_ret ?_
    refine RunE.pass_ret ?_
    exact RunE.retP (.r1 rfl (.tmp rfl)) (by unfold loanX;simp_all [CbA.pl])
   intro c1'
   refine st ?_
   refine cn rfl ?_ ?_
   ·intro c2'
    refine st ?_
    refine RunL.orPart (dj:=32) (dp:=36) 4 rfl (fun g32=>by
      have g32':=g32
      try simp only [nH] at g32'
      refine lv (Val.fieldAddr rfl fld_98_1) ?_
      refine RunL.val (Val.load_one rfl (.head _) ty_3 rfl) rfl rfl rfl ?_
      refine sv ?_
      exact RunL.segEnd (Sub.cons rfl (Sub.skip rfl (Sub.skip rfl (Sub.skip rfl (Sub.skip rfl (Sub.same rfl (by rw [g32]) (Sub.refl _))))))) (List.Sublist.refl _)
    ) (fun g32=>by
      have g32':=g32
      try simp only [nH] at g32'
      iterate 3 refine RunL.no rfl rfl rfl ?_
      refine sv ?_
      exact RunL.segEnd (Sub.cons rfl (Sub.skip rfl (Sub.skip rfl (Sub.skip rfl (Sub.skip rfl (Sub.same rfl (by rw [g32]) (Sub.refl _))))))) (List.Sublist.refl _)
    ) ?_
    refine st ?_
    refine RunL.andPart (dj:=37) (dp:=44) 7 rfl (fun g37=>by
      have g37':=g37
      try simp only [nH] at g37'
      refine lv (Val.fieldAddr rfl fld_98_3) ?_
      refine lv (Val.load_one rfl (.head _) ty_3 rfl) ?_
      refine lv (Val.fieldAddr rfl fld_30_0) ?_
      refine lv (Val.load_one rfl (.tail _ (.head _)) ty_3 rfl) ?_
      refine lv (Val.sub' rfl rfl (IntWalk.i64_in _ ⟨by omega,by omega⟩)) ?_
      refine RunL.callP (isCall_func rfl ent_131) rfl rfl rfl (fun w hm=>within_calls _ _ _ w) ?_
      refine sv ?_
      exact RunL.segEnd (Sub.cons rfl (Sub.skip rfl (Sub.skip rfl (Sub.skip rfl (Sub.skip rfl (Sub.skip rfl (Sub.skip rfl (Sub.skip rfl (Sub.same rfl (by rw [g37]) (Sub.refl _)))))))))) (List.Sublist.refl _)
    ) (fun g37=>by
      have g37':=g37
      try simp only [nH] at g37'
      iterate 6 refine RunL.no rfl rfl rfl ?_
      refine sv ?_
      exact RunL.segEnd (Sub.cons rfl (Sub.skip rfl (Sub.skip rfl (Sub.skip rfl (Sub.skip rfl (Sub.skip rfl (Sub.skip rfl (Sub.skip rfl (Sub.same rfl (by rw [g37]) (Sub.refl _)))))))))) (List.Sublist.refl _)
    ) ?_
    refine st ?_
    refine RunL.andPart (dj:=45) (dp:=49) 4 rfl (fun g45=>by
      have g45':=g45
      try simp only [nH] at g45'
      refine lv (Val.fieldAddr rfl fld_98_2) ?_
      refine RunL.val (Val.load_one rfl (.head _) ty_3 rfl) rfl rfl rfl ?_
      refine sv ?_
      exact RunL.segEnd (Sub.cons rfl (Sub.skip rfl (Sub.skip rfl (Sub.skip rfl (Sub.skip rfl (Sub.same rfl (by rw [g45]) (Sub.refl _))))))) (List.Sublist.refl _)
    ) (fun g45=>by
      have g45':=g45
      try simp only [nH] at g45'
      iterate 3 refine RunL.no rfl rfl rfl ?_
      refine sv ?_
      exact RunL.segEnd (Sub.cons rfl (Sub.skip rfl (Sub.skip rfl (Sub.skip rfl (Sub.skip rfl (Sub.same rfl (by rw [g45]) (Sub.refl _))))))) (List.Sublist.refl _)
    ) ?_
    refine st ?_
    refine RunC.ret ?_
    refine RunE.block_ret ?_
    refine RunE.pass_ret ?_
    exact RunE.retP (.r1 rfl (.tmp rfl)) (by unfold loanX;simp_all [CbA.pl])
   intro c2'
   refine st ?_
   refine RunC.ret ?_
   exact RunE.retP (.r1 rfl (.tmp rfl)) (by unfold loanX;simp_all [CbA.pl])
  intro c0'
  refine st ?_
  refine cn rfl ?_ ?_
  ·intro c1'
   refine st ?_
   refine RunL.andPart (dj:=19) (dp:=23) 4 rfl (fun g19=>by
     have g19':=g19
     try simp only [nH] at g19'
     refine lv (Val.fieldAddr rfl fld_98_2) ?_
     refine lv (Val.load_one rfl (.head _) ty_3 rfl) ?_
     refine RunL.callP (isCall_func rfl ent_131) rfl rfl rfl (fun w hm=>within_calls _ _ _ w) ?_
     refine sv ?_
     exact RunL.segEnd (Sub.cons rfl (Sub.skip rfl (Sub.skip rfl (Sub.skip rfl (Sub.skip rfl (Sub.same rfl (by rw [g19]) (Sub.refl _))))))) (List.Sublist.refl _)
   ) (fun g19=>by
     have g19':=g19
     try simp only [nH] at g19'
     iterate 3 refine RunL.no rfl rfl rfl ?_
     refine sv ?_
     exact RunL.segEnd (Sub.cons rfl (Sub.skip rfl (Sub.skip rfl (Sub.skip rfl (Sub.skip rfl (Sub.same rfl (by rw [g19]) (Sub.refl _))))))) (List.Sublist.refl _)
   ) ?_
   refine st ?_
   refine RunL.andPart (dj:=24) (dp:=28) 4 rfl (fun g24=>by
     have g24':=g24
     try simp only [nH] at g24'
     refine lv (Val.fieldAddr rfl fld_98_3) ?_
     refine RunL.val (Val.load_one rfl (.head _) ty_3 rfl) rfl rfl rfl ?_
     refine sv ?_
     exact RunL.segEnd (Sub.cons rfl (Sub.skip rfl (Sub.skip rfl (Sub.skip rfl (Sub.skip rfl (Sub.same rfl (by rw [g24]) (Sub.refl _))))))) (List.Sublist.refl _)
   ) (fun g24=>by
     have g24':=g24
     try simp only [nH] at g24'
     iterate 3 refine RunL.no rfl rfl rfl ?_
     refine sv ?_
     exact RunL.segEnd (Sub.cons rfl (Sub.skip rfl (Sub.skip rfl (Sub.skip rfl (Sub.skip rfl (Sub.same rfl (by rw [g24]) (Sub.refl _))))))) (List.Sublist.refl _)
   ) ?_
   refine st ?_
   refine RunC.ret ?_
   refine RunE.block_ret ?_
   refine RunE.pass_ret ?_
   exact RunE.retP (.r1 rfl (.tmp rfl)) (by unfold loanX;simp_all [CbA.pl])
  intro c1'
  refine st ?_
  refine cn rfl ?_ ?_
  ·intro c2'
   refine st ?_
   refine RunL.orPart (dj:=32) (dp:=36) 4 rfl (fun g32=>by
     have g32':=g32
     try simp only [nH] at g32'
     refine lv (Val.fieldAddr rfl fld_98_1) ?_
     refine RunL.val (Val.load_one rfl (.head _) ty_3 rfl) rfl rfl rfl ?_
     refine sv ?_
     exact RunL.segEnd (Sub.cons rfl (Sub.skip rfl (Sub.skip rfl (Sub.skip rfl (Sub.skip rfl (Sub.same rfl (by rw [g32]) (Sub.refl _))))))) (List.Sublist.refl _)
   ) (fun g32=>by
     have g32':=g32
     try simp only [nH] at g32'
     iterate 3 refine RunL.no rfl rfl rfl ?_
     refine sv ?_
     exact RunL.segEnd (Sub.cons rfl (Sub.skip rfl (Sub.skip rfl (Sub.skip rfl (Sub.skip rfl (Sub.same rfl (by rw [g32]) (Sub.refl _))))))) (List.Sublist.refl _)
   ) ?_
   refine st ?_
   refine RunL.andPart (dj:=37) (dp:=44) 7 rfl (fun g37=>by
     have g37':=g37
     try simp only [nH] at g37'
     refine lv (Val.fieldAddr rfl fld_98_3) ?_
     refine lv (Val.load_one rfl (.head _) ty_3 rfl) ?_
     refine lv (Val.fieldAddr rfl fld_30_0) ?_
     refine lv (Val.load_one rfl (.tail _ (.head _)) ty_3 rfl) ?_
     refine lv (Val.sub' rfl rfl (IntWalk.i64_in _ ⟨by omega,by omega⟩)) ?_
     refine RunL.callP (isCall_func rfl ent_131) rfl rfl rfl (fun w hm=>within_calls _ _ _ w) ?_
     refine sv ?_
     exact RunL.segEnd (Sub.cons rfl (Sub.skip rfl (Sub.skip rfl (Sub.skip rfl (Sub.skip rfl (Sub.skip rfl (Sub.skip rfl (Sub.skip rfl (Sub.same rfl (by rw [g37]) (Sub.refl _)))))))))) (List.Sublist.refl _)
   ) (fun g37=>by
     have g37':=g37
     try simp only [nH] at g37'
     iterate 6 refine RunL.no rfl rfl rfl ?_
     refine sv ?_
     exact RunL.segEnd (Sub.cons rfl (Sub.skip rfl (Sub.skip rfl (Sub.skip rfl (Sub.skip rfl (Sub.skip rfl (Sub.skip rfl (Sub.skip rfl (Sub.same rfl (by rw [g37]) (Sub.refl _)))))))))) (List.Sublist.refl _)
   ) ?_
   refine st ?_
   refine RunL.andPart (dj:=45) (dp:=49) 4 rfl (fun g45=>by
     have g45':=g45
     try simp only [nH] at g45'
     refine lv (Val.fieldAddr rfl fld_98_2) ?_
     refine RunL.val (Val.load_one rfl (.head _) ty_3 rfl) rfl rfl rfl ?_
     refine sv ?_
     exact RunL.segEnd (Sub.cons rfl (Sub.skip rfl (Sub.skip rfl (Sub.skip rfl (Sub.skip rfl (Sub.same rfl (by rw [g45]) (Sub.refl _))))))) (List.Sublist.refl _)
   ) (fun g45=>by
     have g45':=g45
     try simp only [nH] at g45'
     iterate 3 refine RunL.no rfl rfl rfl ?_
     refine sv ?_
     exact RunL.segEnd (Sub.cons rfl (Sub.skip rfl (Sub.skip rfl (Sub.skip rfl (Sub.skip rfl (Sub.same rfl (by rw [g45]) (Sub.refl _))))))) (List.Sublist.refl _)
   ) ?_
   refine st ?_
   refine RunC.ret ?_
   refine RunE.block_ret ?_
   refine RunE.pass_ret ?_
   exact RunE.retP (.r1 rfl (.tmp rfl)) (by unfold loanX;simp_all [CbA.pl])
  intro c2'
  refine st ?_
  refine RunC.ret ?_
  exact RunE.retP (.r1 rfl (.tmp rfl)) (by unfold loanX;simp_all [CbA.pl])
theorem badLoan_calls (c:CbA) (hs:CbSm c) (l:Ln) (b1:Nat) (W:World) (h1:W.heap[b1]? = some (.cells c.cells.toArray 30 (0,0))):Calls Tryz.prog 153 #[.agg l.cells.toArray,.pointer (some ⟨b1,0,none⟩)] W (Pure (.bool (!loanX c.pl l)) W):=by
  refine calls_start Tryz.func153 rfl rfl ?_
  refine st ?_
  refine RunL.new (New.box rfl) rfl rfl rfl (fun b2=>?_)
  refine st ?_
  refine lv (Val.oload_agg rfl h1 (by simp) ty_30 rfl) ?_
  refine lv (Val.load_agg rfl (.head _) ty_98 rfl) ?_
  refine RunL.callP (isCall_func rfl ent_154) rfl rfl rfl (fun w hm=>isLoan_calls c hs l w) ?_
  refine st ?_
  refine RunC.ret ?_
  exact RunE.retP (.r1 rfl (.tmp rfl)) (by first | rfl | simp)
theorem isCabinet_calls (c:CbA) (hs:CbS c) (W:World) (hC:CbOk W c):Calls Tryz.prog 116 #[c.v] W (Pure (.bool (cabX c.pl)) W):=by
  have h1:=hs.homes
  have h2:=hs.loans
  refine calls_start Tryz.func116 rfl rfl ?_
  refine st ?_
  refine RunL.new (New.box rfl) rfl rfl rfl (fun b1=>?_)
  refine st ?_
  refine lv (Val.fieldAddr rfl fld_30_0) ?_
  refine lv (Val.load_one rfl (.head _) ty_3 rfl) ?_
  refine RunL.callP (isCall_func rfl ent_131) rfl rfl rfl (fun w hm=>within_calls _ _ _ w) ?_
  refine st ?_
  refine RunL.andPart (dj:=10) (dp:=15) 5 rfl (fun g10=>by
    have g10':=g10
    try simp only [nH] at g10'
    refine lv (Val.fieldAddr rfl fld_30_1) ?_
    refine lv (Val.load_one rfl (.head _) ty_27 rfl) ?_
    refine RunL.val (Val.len_sl rfl sl_27) rfl rfl rfl ?_
    refine sv ?_
    exact RunL.segEnd (Sub.cons rfl (Sub.skip rfl (Sub.skip rfl (Sub.skip rfl (Sub.skip rfl (Sub.skip rfl (Sub.same rfl (by rw [g10]) (Sub.refl _)))))))) (List.Sublist.refl _)
  ) (fun g10=>by
    have g10':=g10
    try simp only [nH] at g10'
    iterate 4 refine RunL.no rfl rfl rfl ?_
    refine sv ?_
    exact RunL.segEnd (Sub.cons rfl (Sub.skip rfl (Sub.skip rfl (Sub.skip rfl (Sub.skip rfl (Sub.skip rfl (Sub.same rfl (by rw [g10]) (Sub.refl _)))))))) (List.Sublist.refl _)
  ) ?_
  refine st ?_
  refine RunL.andPart (dj:=16) (dp:=20) 4 rfl (fun g16=>by
    have g16':=g16
    try simp only [nH] at g16'
    refine lv (Val.fieldAddr rfl fld_30_2) ?_
    refine lv (Val.load_one rfl (.head _) ty_3 rfl) ?_
    refine RunL.callP (isCall_func rfl ent_131) rfl rfl rfl (fun w hm=>within_calls _ _ _ w) ?_
    refine sv ?_
    exact RunL.segEnd (Sub.cons rfl (Sub.skip rfl (Sub.skip rfl (Sub.skip rfl (Sub.skip rfl (Sub.same rfl (by rw [g16]) (Sub.refl _))))))) (List.Sublist.refl _)
  ) (fun g16=>by
    have g16':=g16
    try simp only [nH] at g16'
    iterate 3 refine RunL.no rfl rfl rfl ?_
    refine sv ?_
    exact RunL.segEnd (Sub.cons rfl (Sub.skip rfl (Sub.skip rfl (Sub.skip rfl (Sub.skip rfl (Sub.same rfl (by rw [g16]) (Sub.refl _))))))) (List.Sublist.refl _)
  ) ?_
  refine st ?_
  refine RunL.andPart (dj:=21) (dp:=26) 5 rfl (fun g21=>by
    have g21':=g21
    try simp only [nH] at g21'
    refine lv (Val.fieldAddr rfl fld_30_3) ?_
    refine lv (Val.load_one rfl (.head _) ty_28 rfl) ?_
    refine RunL.val (Val.len_sl rfl sl_28) rfl rfl rfl ?_
    refine sv ?_
    exact RunL.segEnd (Sub.cons rfl (Sub.skip rfl (Sub.skip rfl (Sub.skip rfl (Sub.skip rfl (Sub.skip rfl (Sub.same rfl (by rw [g21]) (Sub.refl _)))))))) (List.Sublist.refl _)
  ) (fun g21=>by
    have g21':=g21
    try simp only [nH] at g21'
    iterate 4 refine RunL.no rfl rfl rfl ?_
    refine sv ?_
    exact RunL.segEnd (Sub.cons rfl (Sub.skip rfl (Sub.skip rfl (Sub.skip rfl (Sub.skip rfl (Sub.skip rfl (Sub.same rfl (by rw [g21]) (Sub.refl _)))))))) (List.Sublist.refl _)
  ) ?_
  refine st ?_
  refine lv (Val.fieldAddr rfl fld_30_1) ?_
  refine lv (Val.load_one rfl (.head _) ty_27 rfl) ?_
  refine lv (Val.len_sl rfl sl_27) ?_
  refine RunC.loopK (c.homes.l.length) (fun k q=>(30,.int .i64 (k:Int))::(4,.bool (homesH (IntKind.i64.wrap (c.slots - 1)) c.pl k))::q) (fun _=>_) (fun _=>[]) (fun _=>True) trivial rfl (Sub.consE (t:=30) rfl rfl (Sub.consE (t:=4) rfl rfl (Sub.cons (t:=1) rfl (Sub.cons (t:=3) rfl (Sub.cons (t:=28) rfl (Sub.cons (t:=29) rfl (Sub.nil _))))))) (.cons .here rfl .nil) ?_
  intro k kN kI
  clear kI
  refine st ?_
  refine cn rfl ?_ ?_
  ·intro c0'
   have hk:k < c.homes.l.length:=by omega
   obtain ⟨y,hy⟩:∃ y,c.homes.l[k]=y:=⟨_,rfl⟩
   have hy2:c.pl.homes.getD k 0=y:=by (show c.homes.l.getD k 0=y;rw [List.getD_eq_getElem?_getD,List.getElem?_eq_getElem hk,hy];rfl)
   refine st ?_
   refine lv (Val.indexAddr_slp rfl rfl sl_27 (by omega) (by omega) (Sl.ptrM hC.homes hk)) ?_
   refine lv (Val.load_gen rfl (fun w hm=>Sl.loadM1 hC.homes (by decide) hm (by simp) ty_3 hk (v:=.int .i64 y) (by simp [intC,hy]))) ?_
   refine RunL.andPart (dj:=36) (dp:=42) 6 rfl (fun g36=>by
     have g36':=g36
     try simp only [nH] at g36'
     refine st ?_
     refine lv (Val.fieldAddr rfl fld_30_0) ?_
     refine lv (Val.load_one rfl (.head _) ty_3 rfl) ?_
     refine lv (Val.sub_wrap rfl rfl) ?_
     refine RunL.callP (isCall_func rfl ent_131) rfl rfl rfl (fun w hm=>within_calls _ _ _ w) ?_
     refine sv ?_
     exact RunL.segEnd (Sub.cons rfl (Sub.skip rfl (Sub.skip rfl (Sub.skip rfl (Sub.skip rfl (Sub.skip rfl (Sub.skip rfl (Sub.same rfl (by rw [g36]) (Sub.refl _))))))))) (List.Sublist.refl _)
   ) (fun g36=>by
     have g36':=g36
     try simp only [nH] at g36'
     iterate 5 refine RunL.no rfl rfl rfl ?_
     refine sv ?_
     exact RunL.segEnd (Sub.cons rfl (Sub.skip rfl (Sub.skip rfl (Sub.skip rfl (Sub.skip rfl (Sub.skip rfl (Sub.skip rfl (Sub.same rfl (by rw [g36]) (Sub.refl _))))))))) (List.Sublist.refl _)
   ) ?_
   refine st ?_
   refine RunL.andPart (dj:=43) (dp:=50) 7 rfl (fun g43=>by
     have g43':=g43
     try simp only [nH] at g43'
     refine lv (Val.fieldAddr rfl fld_30_1) ?_
     refine lv (Val.load_one rfl (.head _) ty_27 rfl) ?_
     refine RunL.callP (isCall_func rfl ent_151) rfl rfl rfl (fun w hm=>indexI_calls c.homes.l _ _ _ _ y w ((hC.mono0 hm).homes) (by omega)) ?_
     refine sv ?_
     exact RunL.segEnd (Sub.cons rfl (Sub.skip rfl (Sub.skip rfl (Sub.skip rfl (Sub.skip rfl (Sub.skip rfl (Sub.skip rfl (Sub.skip rfl (Sub.same rfl (by rw [g43]) (Sub.refl _)))))))))) (List.Sublist.refl _)
   ) (fun g43=>by
     have g43':=g43
     try simp only [nH] at g43'
     iterate 6 refine RunL.no rfl rfl rfl ?_
     refine sv ?_
     exact RunL.segEnd (Sub.cons rfl (Sub.skip rfl (Sub.skip rfl (Sub.skip rfl (Sub.skip rfl (Sub.skip rfl (Sub.skip rfl (Sub.skip rfl (Sub.same rfl (by rw [g43]) (Sub.refl _)))))))))) (List.Sublist.refl _)
   ) ?_
   refine st ?_
   refine lv (Val.add rfl rfl (IntWalk.i64_in _ ⟨by omega,by omega⟩)) ?_
   exact RunE.round (by omega) trivial rfl (Sub.consE (t:=30) rfl rfl (Sub.consE (t:=4) rfl (by rw [homesH_step,hy2,← Bool.and_assoc];rfl) (Sub.cons (t:=1) rfl (Sub.cons (t:=3) rfl (Sub.cons (t:=28) rfl (Sub.cons (t:=29) rfl (Sub.nil _))))))) (.cons .here rfl .nil)
  intro c0'
  obtain rfl:k=c.homes.l.length:=by omega
  refine RunC.exit ?_
  refine RunE.pass_exit ?_
  refine RunE.pass_exit ?_
  refine RunE.block_here ?_
  refine st ?_
  refine RunL.andPart (dj:=53) (dp:=55) 2 rfl (fun g53=>by
    have g53':=g53
    try simp only [nH] at g53'
    refine sv ?_
    exact RunL.segEnd (Sub.cons rfl (Sub.skip rfl (Sub.skip rfl (Sub.same rfl (by rw [g53]) (Sub.refl _))))) (List.Sublist.refl _)
  ) (fun g53=>by
    have g53':=g53
    try simp only [nH] at g53'
    refine RunL.no rfl rfl rfl ?_
    refine sv ?_
    exact RunL.segEnd (Sub.cons rfl (Sub.skip rfl (Sub.skip rfl (Sub.same rfl (by rw [g53]) (Sub.refl _))))) (List.Sublist.refl _)
  ) ?_
  refine st ?_
  refine RunL.andPart (dj:=56) (dp:=62) 6 rfl (fun g56=>by
    have g56':=g56
    try simp only [nH] at g56'
    have hw:within c.slots 1 6=true:=by (revert g56;cases within c.slots 1 6 <;> simp)
    simp only [within,Bool.and_eq_true,decide_eq_true_eq] at hw
    have hsm:CbSm c:=⟨h1,h2,by omega⟩
    refine lv (Val.fieldAddr rfl fld_30_3) ?_
    refine lv (Val.load_one rfl (.head _) ty_28 rfl) ?_
    refine RunL.callP (isCall_func rfl ent_152) rfl rfl rfl (fun w hm=>confLn_calls c.loans.l _ _ _ _ 153 #[.pointer (some ⟨b1,0,none⟩)] (fun l=>!loanX c.pl l) w ((hC.mono0 hm).loans) (by omega) ent_153 (fun i h w2 h2=>badLoan_calls c hsm _ b1 w2 (h2.old_at (hm.at (.head _)) (by simp)))) ?_
    refine sv ?_
    exact RunL.segEnd (Sub.cons rfl (Sub.skip rfl (Sub.skip rfl (Sub.skip rfl (Sub.skip rfl (Sub.skip rfl (Sub.skip rfl (Sub.same rfl (by rw [g56]) (Sub.refl _))))))))) (List.Sublist.refl _)
  ) (fun g56=>by
    have g56':=g56
    try simp only [nH] at g56'
    iterate 5 refine RunL.no rfl rfl rfl ?_
    refine sv ?_
    exact RunL.segEnd (Sub.cons rfl (Sub.skip rfl (Sub.skip rfl (Sub.skip rfl (Sub.skip rfl (Sub.skip rfl (Sub.skip rfl (Sub.same rfl (by rw [g56]) (Sub.refl _))))))))) (List.Sublist.refl _)
  ) ?_
  refine st ?_
  refine RunC.ret ?_
  exact RunE.retP (.r1 rfl (.tmp rfl)) (by unfold cabX;simp only [le5,le12];have e1:c.pl.slots=c.slots:=rfl;cases hw:within c.slots 1 6 with | true=>(have h9:=homesH_eq (c:=c.pl) hw c.homes.l.length;rw [e1] at h9 ⊢;rw [h9,hw];rfl) | false=>(rw [e1,hw];simp))
theorem isPrint_calls (c:Pt) (W:World):Calls Tryz.prog 129 #[.agg c.cells.toArray] W (Pure (.bool (badPt c)) W):=by
  refine calls_start Tryz.func129 rfl rfl ?_
  refine st ?_
  refine RunL.new (New.box rfl) rfl rfl rfl (fun b1=>?_)
  refine st ?_
  refine lv (Val.fieldAddr rfl fld_120_0) ?_
  refine lv (Val.load_agg rfl (.head _) ty_38 rfl) ?_
  refine RunL.callP (isCall_func rfl ent_130) rfl rfl rfl (fun w hm=>isSpan_calls ⟨_,_⟩ _ w) ?_
  refine st ?_
  refine RunL.orPart (dj:=7) (dp:=12) 5 rfl (fun g7=>by
    have g7':=g7
    try simp only [nH] at g7'
    refine lv (Val.fieldAddr rfl fld_120_1) ?_
    refine lv (Val.load_agg rfl (.head _) ty_38 rfl) ?_
    refine RunL.callP (isCall_func rfl ent_130) rfl rfl rfl (fun w hm=>isSpan_calls ⟨_,_⟩ _ w) ?_
    refine sv ?_
    exact RunL.segEnd (Sub.cons rfl (Sub.skip rfl (Sub.skip rfl (Sub.skip rfl (Sub.skip rfl (Sub.skip rfl (Sub.same rfl (by rw [g7]) (Sub.refl _)))))))) (List.Sublist.refl _)
  ) (fun g7=>by
    have g7':=g7
    try simp only [nH] at g7'
    iterate 4 refine RunL.no rfl rfl rfl ?_
    refine sv ?_
    exact RunL.segEnd (Sub.cons rfl (Sub.skip rfl (Sub.skip rfl (Sub.skip rfl (Sub.skip rfl (Sub.skip rfl (Sub.same rfl (by rw [g7]) (Sub.refl _)))))))) (List.Sublist.refl _)
  ) ?_
  refine st ?_
  refine RunL.orPart (dj:=13) (dp:=18) 5 rfl (fun g13=>by
    have g13':=g13
    try simp only [nH] at g13'
    refine lv (Val.fieldAddr rfl fld_120_2) ?_
    refine lv (Val.load_one rfl (.head _) ty_3 rfl) ?_
    refine RunL.callP (isCall_func rfl ent_131) rfl rfl rfl (fun w hm=>within_calls _ _ _ w) ?_
    refine sv ?_
    exact RunL.segEnd (Sub.cons rfl (Sub.skip rfl (Sub.skip rfl (Sub.skip rfl (Sub.skip rfl (Sub.skip rfl (Sub.same rfl (by rw [g13]) (Sub.refl _)))))))) (List.Sublist.refl _)
  ) (fun g13=>by
    have g13':=g13
    try simp only [nH] at g13'
    iterate 4 refine RunL.no rfl rfl rfl ?_
    refine sv ?_
    exact RunL.segEnd (Sub.cons rfl (Sub.skip rfl (Sub.skip rfl (Sub.skip rfl (Sub.skip rfl (Sub.skip rfl (Sub.same rfl (by rw [g13]) (Sub.refl _)))))))) (List.Sublist.refl _)
  ) ?_
  refine st ?_
  refine RunC.ret ?_
  exact RunE.retP (.r1 rfl (.tmp rfl)) (by unfold badPt;simp)
theorem isPrints_calls (p:PsA) (hl:p.cards.l.length≤10000) (W:World) (hP:p.cards.ok Pt.cells 5 W):Calls Tryz.prog 59 #[p.v] W (Pure (.bool (printsX p.pl)) W):=by
  refine calls_start Tryz.func59 rfl rfl ?_
  refine st ?_
  refine RunL.new (New.box rfl) rfl rfl rfl (fun b1=>?_)
  refine st ?_
  refine lv (Val.fieldAddr rfl fld_40_0) ?_
  refine lv (Val.load_one rfl (.head _) ty_36 rfl) ?_
  refine lv (Val.len_sl rfl sl_36) ?_
  refine RunL.andPart (dj:=8) (dp:=14) 6 rfl (fun g8=>by
    have g8':=g8
    try simp only [nH] at g8'
    refine lv (Val.fieldAddr rfl fld_40_0) ?_
    refine lv (Val.load_one rfl (.head _) ty_36 rfl) ?_
    refine RunL.callP (isCall_func rfl ent_132) rfl rfl rfl (fun w hm=>confPt_calls p.cards.l _ _ _ _ 129 #[] badPt w (hP.mono0 (by decide) hm) (by omega) ent_129 (fun i h w2 h2=>isPrint_calls _ w2)) ?_
    refine sv ?_
    exact RunL.segEnd (Sub.cons rfl (Sub.skip rfl (Sub.skip rfl (Sub.skip rfl (Sub.skip rfl (Sub.skip rfl (Sub.skip rfl (Sub.same rfl (by rw [g8]) (Sub.refl _))))))))) (List.Sublist.refl _)
  ) (fun g8=>by
    have g8':=g8
    try simp only [nH] at g8'
    iterate 5 refine RunL.no rfl rfl rfl ?_
    refine sv ?_
    exact RunL.segEnd (Sub.cons rfl (Sub.skip rfl (Sub.skip rfl (Sub.skip rfl (Sub.skip rfl (Sub.skip rfl (Sub.skip rfl (Sub.same rfl (by rw [g8]) (Sub.refl _))))))))) (List.Sublist.refl _)
  ) ?_
  refine st ?_
  refine RunL.andPart (dj:=15) (dp:=19) 4 rfl (fun g15=>by
    have g15':=g15
    try simp only [nH] at g15'
    refine lv (Val.fieldAddr rfl fld_40_1) ?_
    refine lv (Val.load_agg rfl (.head _) ty_38 rfl) ?_
    refine RunL.callP (isCall_func rfl ent_130) rfl rfl rfl (fun w hm=>isSpan_calls ⟨_,_⟩ _ w) ?_
    refine sv ?_
    exact RunL.segEnd (Sub.cons rfl (Sub.skip rfl (Sub.skip rfl (Sub.skip rfl (Sub.skip rfl (Sub.same rfl (by rw [g15]) (Sub.refl _))))))) (List.Sublist.refl _)
  ) (fun g15=>by
    have g15':=g15
    try simp only [nH] at g15'
    iterate 3 refine RunL.no rfl rfl rfl ?_
    refine sv ?_
    exact RunL.segEnd (Sub.cons rfl (Sub.skip rfl (Sub.skip rfl (Sub.skip rfl (Sub.skip rfl (Sub.same rfl (by rw [g15]) (Sub.refl _))))))) (List.Sublist.refl _)
  ) ?_
  refine st ?_
  refine RunL.andPart (dj:=20) (dp:=24) 4 rfl (fun g20=>by
    have g20':=g20
    try simp only [nH] at g20'
    refine lv (Val.fieldAddr rfl fld_40_2) ?_
    refine lv (Val.load_agg rfl (.head _) ty_38 rfl) ?_
    refine RunL.callP (isCall_func rfl ent_130) rfl rfl rfl (fun w hm=>isSpan_calls ⟨_,_⟩ _ w) ?_
    refine sv ?_
    exact RunL.segEnd (Sub.cons rfl (Sub.skip rfl (Sub.skip rfl (Sub.skip rfl (Sub.skip rfl (Sub.same rfl (by rw [g20]) (Sub.refl _))))))) (List.Sublist.refl _)
  ) (fun g20=>by
    have g20':=g20
    try simp only [nH] at g20'
    iterate 3 refine RunL.no rfl rfl rfl ?_
    refine sv ?_
    exact RunL.segEnd (Sub.cons rfl (Sub.skip rfl (Sub.skip rfl (Sub.skip rfl (Sub.skip rfl (Sub.same rfl (by rw [g20]) (Sub.refl _))))))) (List.Sublist.refl _)
  ) ?_
  refine st ?_
  refine RunC.ret ?_
  exact RunE.retP (.r1 rfl (.tmp rfl)) (by unfold printsX;simp only [le5];rfl)
end Go.Proofs.YtleamcmljcdapaaGreatDoor
namespace Go.Proofs.YtleamcmljcdapaaGreatDoor
open Go Go.Eng
theorem ap_166:apB Tryz.prog 166=some (9,1,16):=by kernel_rfl
theorem ent_136:Enters Tryz.prog 136:=enters_of Tryz.func136 (by kernel_rfl) rfl
theorem ent_137:Enters Tryz.prog 137:=enters_of Tryz.func137 (by kernel_rfl) rfl
theorem sl_166:slB Tryz.prog 166=some (9,1):=by kernel_rfl
theorem sl_192:slB Tryz.prog 192=some (20,1):=by kernel_rfl
theorem ty_20:tyB Tryz.prog 20=some (false,1):=by kernel_rfl
theorem zero_38:zeroB Tryz.prog 38=some [.int .i64 0,.int .i64 0]:=by kernel_rfl
theorem zero_9:zeroB Tryz.prog 9=some [.string ⟨#[]⟩]:=by kernel_rfl
end Go.Proofs.YtleamcmljcdapaaGreatDoor
namespace Go.Bk
open Go Go.Eng Go.RowKit
theorem own_cap {sz n:Nat} {x:Eng.Own} {xs:List Value} (h:OwnOk sz x n xs):n≤ownC x:=by
  match x,h with
  | none,h=>rw [h.nil rfl];exact Nat.zero_le _
  | some (b,c,r),h=>exact (h.cap b c r rfl).1
inductive Part
  | s (x:Str)
  | n (x:Int)
  | ns (x:SA Int)
  | sps (x:SA Sp)
def Part.v:Part→Value
  | .s x=>.iface 9 (.string (bs x))
  | .n x=>.iface 3 (.int .i64 x)
  | .ns x=>.iface 27 x.v
  | .sps x=>.iface 22 x.v
def Part.words:Part→List Str
  | .s x=>[x]
  | .n x=>[Lib.itoa x]
  | .ns x=>x.l.map Lib.itoa
  | .sps x=>x.l.map spS
def In64 (n:Int):Prop:=-9223372036854775808≤n∧n≤9223372036854775807
def Part.ok (W:World):Part→Prop
  | .s x=>x.length≤40
  | .n x=>In64 x
  | .ns x=>x.ok intC 1 W∧x.l.length≤10000∧∀ n∈x.l,In64 n
  | .sps x=>x.ok Sp.cells 2 W∧x.l.length≤10000∧∀ s∈x.l,In64 s.lo∧In64 s.hi
theorem Part.ok.mono0 {W w:World} {p:Part} {news:Blks} (h:p.ok W) (hm:Mem W [] news w):p.ok w:=by
  cases p with
  | s x=>exact h
  | n x=>exact h
  | ns x=>exact ⟨h.1.mono0 (by decide) hm,h.2⟩
  | sps x=>exact ⟨h.1.mono0 (by decide) hm,h.2⟩
def Part.isS:Part→Bool
  | .s _=>true
  | _=>false
def Part.asS:Part→Value
  | .s x=>.string (bs x)
  | _=>.string ⟨#[]⟩
def Part.isN:Part→Bool
  | .n _=>true
  | _=>false
def Part.asN:Part→Value
  | .n x=>.int .i64 x
  | _=>.int .i64 0
def Part.isNs:Part→Bool
  | .ns _=>true
  | _=>false
def Part.asNs:Part→Value
  | .ns x=>x.v
  | _=>.slice none 0 0
def Part.isSps:Part→Bool
  | .sps _=>true
  | _=>false
def Part.asSps:Part→Value
  | .sps x=>x.v
  | _=>.slice none 0 0
theorem Part.ofS {p:Part} (h:p.isS=true):∃ x,p = .s x:=by cases p <;> first | exact ⟨_,rfl⟩ | cases h
theorem Part.ofN {p:Part} (h:p.isN=true):∃ x,p = .n x:=by cases p <;> first | exact ⟨_,rfl⟩ | cases h
theorem Part.ofNs {p:Part} (h:p.isNs=true):∃ x,p = .ns x:=by cases p <;> first | exact ⟨_,rfl⟩ | cases h
theorem Part.ofSps {p:Part} (h:p.isSps=true):∃ x,p = .sps x:=by cases p <;> first | exact ⟨_,rfl⟩ | cases h
theorem Part.no {p:Part} (h1:p.isS=false) (h2:p.isN=false) (h3:p.isNs=false) (h4:p.isSps=false):False:=by cases p <;> simp_all [Part.isS,Part.isN,Part.isNs,Part.isSps]
def strC (s:Str):List Value:=[.string (bs s)]
def strsV (l:List Str):List Value:=(l.map strC).flatten
theorem strsV_app (l m:List Str):strsV (l++m)=strsV l++strsV m:=by simp [strsV]
def wsK (ps:List Part) (k:Nat):List Str:=((ps.take k).map Part.words).flatten
theorem wsK_s {ps:List Part} {k:Nat} (hk:k < ps.length) {p:Part} (hp:ps[k]=p):wsK ps (k + 1)=wsK ps k++p.words:=by
  unfold wsK
  rw [List.take_succ_eq_append_getElem hk,List.map_append,List.flatten_append,hp]
  simp
theorem wsK_le (ps:List Part) (k j:Nat):(wsK ps k).length≤(wsK ps (k + j)).length:=by
  unfold wsK
  have h:ps.take (k + j)=ps.take k++(ps.drop k).take j:=List.take_add
  rw [h,List.map_append,List.flatten_append,List.length_append]
  omega
theorem wsK_all (ps:List Part):wsK ps ps.length=(ps.map Part.words).flatten:=by unfold wsK;rw [List.take_length]
theorem wsK_bd {ps:List Part} {k:Nat} (hk:k < ps.length) {p:Part} (hp:ps[k]=p) {N:Nat} (h:((ps.map Part.words).flatten).length≤N):(wsK ps k).length + p.words.length≤N:=by
  have h1:=wsK_le ps (k + 1) (ps.length - (k + 1))
  rw [show k + 1 + (ps.length - (k + 1))=ps.length by omega,wsK_all,wsK_s hk hp,List.length_append] at h1
  omega
theorem map_take {α β:Type} (f:α→β) {l:List α} {k:Nat} (hk:k < l.length) {x:α} (hx:l[k]=x):(l.take (k + 1)).map f=(l.take k).map f++[f x]:=by
  rw [List.take_succ_eq_append_getElem hk,List.map_append,hx]
  rfl
theorem itoa_len {n:Int} (h:In64 n):(Lib.itoa n).length≤20:=by
  have key:∀ (m u:Nat),u < 10 ^ (m + 1)→(Lib.decDigits u).length≤m + 1:=by
    intro m
    induction m with
    | zero=>intro u hu;unfold Lib.decDigits;rw [dif_pos (by omega)];simp
    | succ m ih =>
      intro u hu
      unfold Lib.decDigits
      split
      · simp
      · rw [List.length_append]
        have:=ih (u / 10) (by rw [Nat.pow_succ] at hu;omega)
        simp only [List.length_singleton]
        omega
  unfold Lib.itoa
  obtain ⟨h1,h2⟩:=h
  split
  · rw [List.length_cons]
    have:=key 18 n.natAbs (by omega)
    omega
  · have:=key 18 n.toNat (by omega)
    omega
theorem spS_len {s:Sp} (h:In64 s.lo∧In64 s.hi):(spS s).length≤42:=by
  have h1:=itoa_len h.1
  have h2:=itoa_len h.2
  unfold spS
  simp only [List.length_append,List.length_cons,List.length_nil]
  omega
theorem words_len {W:World} {p:Part} (h:p.ok W):∀ x∈p.words,x.length≤50:=by
  cases p with
  | s x=>intro y hy;simp only [Part.words,List.mem_singleton] at hy;subst hy;have h9:y.length≤40:=h;omega
  | n x=>intro y hy;simp only [Part.words,List.mem_singleton] at hy;subst hy;exact Nat.le_trans (itoa_len h) (by decide)
  | ns x=>intro y hy;obtain ⟨n,hn,rfl⟩:=List.mem_map.1 hy;exact Nat.le_trans (itoa_len (h.2.2 n hn)) (by decide)
  | sps x=>intro y hy;obtain ⟨n,hn,rfl⟩:=List.mem_map.1 hy;exact Nat.le_trans (spS_len (h.2.2 n hn)) (by decide)
theorem join_le {sep:Str} {m:Nat}:∀ {xs:List Str},(∀ x∈xs,x.length≤m)→(Lib.join xs sep).length≤xs.length * (m + sep.length)
  | [],_=>by simp [Lib.join,List.intercalate]
  | [x],h=>by
    rw [Lib.join_one]
    have:=h x (by simp)
    simp only [List.length_singleton,Nat.one_mul]
    omega
  | x::y::xs,h=>by
    have ih:=join_le (sep:=sep) (xs:=y::xs) (fun z hz=>h z (by simp [hz]))
    have h1:=h x (by simp)
    have e:Lib.join (x::y::xs) sep=x++(sep++Lib.join (y::xs) sep):=by simp [Lib.join,List.intercalate]
    rw [e,List.length_append,List.length_append,List.length_cons,Nat.add_mul,Nat.one_mul]
    omega
section
variable {P:Program} {n:Nat} {r:Regs} {W:World} {chg news:Blks} {ty:TypeId} {pos:String} {after:Array Edge} {dst:Option Tmp} {gd:Option (Nat×Bool)}
theorem part_is {x:Operand} {T t:TypeId} {p:Part} {z v:Value} {b:Bool} (hx:rev r x=some p.v) (hi:(P.underlying t).any (fun t=>match t with | .interface _=>false | _=>true)=true) (hz:zeroV P t=some z)
    (h1:b=true→p.v = .iface t v) (h2:b=false→v=z∧∃ t' u,p.v = .iface t' u∧Nat.beq t' t=false) :
    Val P r W chg news { dst,op:=.typeAssert x T t true,type:=ty,pos,after,guard:=gd } (.tuple #[v,.bool b]):=by
  cases b with
  | true=>exact Val.assert_ok (by rw [hx,h1 rfl]) hi
  | false =>
    obtain ⟨rfl,t',u,h3,h4⟩:=h2 rfl
    exact Val.assert_no (by rw [hx,h3]) hi h4 hz
end
end Go.Bk
namespace Go.Proofs.YtleamcmljcdapaaGreatDoor
open Go Go.Eng Go.Bk

section
variable {n:Nat} {r:Regs} {W:World} {chg news:Blks} {ty:TypeId} {pos:String} {after:Array Edge} {dst:Option Tmp} {gd:Option (Nat×Bool)} {x:Operand} {T:TypeId} {p:Part}
theorem part_s (hx:rev r x=some p.v):Val Tryz.prog r W chg news { dst,op:=.typeAssert x T 9 true,type:=ty,pos,after,guard:=gd } (.tuple #[p.asS,.bool p.isS]) :=
  part_is hx (by kernel_rfl) (z:=.string ⟨#[]⟩) (by kernel_rfl) (fun h=>by obtain ⟨x,rfl⟩:=Part.ofS h;rfl) (fun h=>by cases p <;> first | exact ⟨rfl,_,_,rfl,rfl⟩ | cases h)
theorem part_n (hx:rev r x=some p.v):Val Tryz.prog r W chg news { dst,op:=.typeAssert x T 3 true,type:=ty,pos,after,guard:=gd } (.tuple #[p.asN,.bool p.isN]) :=
  part_is hx (by kernel_rfl) (z:=.int .i64 0) (by kernel_rfl) (fun h=>by obtain ⟨x,rfl⟩:=Part.ofN h;rfl) (fun h=>by cases p <;> first | exact ⟨rfl,_,_,rfl,rfl⟩ | cases h)
theorem part_ns (hx:rev r x=some p.v):Val Tryz.prog r W chg news { dst,op:=.typeAssert x T 27 true,type:=ty,pos,after,guard:=gd } (.tuple #[p.asNs,.bool p.isNs]) :=
  part_is hx (by kernel_rfl) (z:=.slice none 0 0) (by kernel_rfl) (fun h=>by obtain ⟨x,rfl⟩:=Part.ofNs h;rfl) (fun h=>by cases p <;> first | exact ⟨rfl,_,_,rfl,rfl⟩ | cases h)
theorem part_sps (hx:rev r x=some p.v):Val Tryz.prog r W chg news { dst,op:=.typeAssert x T 22 true,type:=ty,pos,after,guard:=gd } (.tuple #[p.asSps,.bool p.isSps]) :=
  part_is hx (by kernel_rfl) (z:=.slice none 0 0) (by kernel_rfl) (fun h=>by obtain ⟨x,rfl⟩:=Part.ofSps h;rfl) (fun h=>by cases p <;> first | exact ⟨rfl,_,_,rfl,rfl⟩ | cases h)
end
set_option maxHeartbeats 1000000 in
theorem line_calls (ps:List Part) (q:Option Addr) (b o c:Nat) (W:World) (hL:Lw Tryz.prog W) (hS:Sl W q b o 1 (ps.map fun p=>[p.v])) (hps:ps.length≤100) (hok:∀ p∈ps,p.ok W) (hN:((ps.map Part.words).flatten).length≤20000) :
    Calls Tryz.prog 89 #[.slice q ps.length c] W (Pure (.string (bs (lineS (ps.map Part.words).flatten))) W):=by
  refine calls_start Tryz.func89 rfl rfl ?_
  refine st ?_
  refine lv (Val.len_sl rfl sl_192) ?_
  refine RunC.loopX (X:=Eng.Own) (n0:=[]) (ps.length) (fun k x q=>(16,.int .i64 (k:Int))::(3,ownV x (wsK ps k).length)::q) (fun _ _=>_) (fun k x=>[]) (fun k x=>ownB 9 x (strsV (wsK ps k))++[]) (fun k x=>OwnOk 1 x (wsK ps k).length (strsV (wsK ps k))) none OwnOk.start rfl (Sub.consE (t:=16) rfl rfl (Sub.consE (t:=3) rfl rfl (Sub.cons (t:=14) rfl (Sub.cons (t:=15) rfl (Sub.nil _))))) (Pick.same rfl) ?_
  intro k x kN kI
  have hx1:=kI
  refine st ?_
  refine cn rfl ?_ ?_
  ·intro c0'
   have hk:k < ps.length:=by omega
   obtain ⟨p,hp⟩:∃ p,ps[k]=p:=⟨_,rfl⟩
   have hpo:=hok p (hp ▸ List.getElem_mem hk)
   have hbd:=wsK_bd hk hp hN
   refine st ?_
   refine lv (Val.indexAddr_slp rfl rfl sl_192 (by omega) (by omega) (hS.ptrM hk)) ?_
   refine lv (Val.load_gen rfl (fun w hm=>hS.loadM1 (by decide) hm (by simp) ty_20 hk (v:=p.v) (by simp [hp]))) ?_
   refine lv (part_s rfl) ?_
   refine cn rfl ?_ ?_
   ·intro c1'
    obtain ⟨x2,rfl⟩:=Part.ofS c1'
    have hw1:(Part.s x2).words.length=1:=rfl
    refine st ?_
    refine RunL.new (New.buildSlice (parts:=[(0,.tmp 25)]) rfl sl_166 zero_9 rfl rfl rfl rfl) rfl rfl rfl (fun b26=>?_)
    refine RunL.append (A:=[(b26,_)]) (B:=_) (x:=x) (ys:=strsV (Part.s x2).words) ap_166 rfl rfl rfl hx1 rfl (fun h=>by cases h) (fun w hm=>src_blk (hm.at (.head _))) (one_of rfl) (by simp only [maxLen];omega) (by omega) rfl (fun z27 hz27=>?_)
    refine st ?_
    refine lv (Val.add rfl rfl (IntWalk.i64_in _ ⟨by omega,by omega⟩)) ?_
    exact RunE.roundX z27 (by omega) (by rw [wsK_s hk hp,strsV_app,List.length_append];exact hz27) rfl (Sub.consE (t:=16) rfl rfl (Sub.consE (t:=3) rfl (by first | (rw [wsK_s hk hp];simp only [List.length_append];rfl) | (rw [wsK_s hk hp];rfl) | exact (Part.no q1 q2 q3 c5').elim) (Sub.cons (t:=14) rfl (Sub.cons (t:=15) rfl (Sub.nil _))))) (Pick.skip (Pick.same (by first | (rw [wsK_s hk hp,strsV_app];rfl) | (rw [wsK_s hk hp];rfl) | exact (Part.no q1 q2 q3 c5').elim)))
   intro c1'
   have q1:p.isS=false:=c1'
   refine st ?_
   refine lv (part_n rfl) ?_
   refine cn rfl ?_ ?_
   ·intro c2'
    obtain ⟨x2,rfl⟩:=Part.ofN c2'
    have hw1:(Part.n x2).words.length=1:=rfl
    refine st ?_
    refine RunL.callP (isCall_func rfl ent_136) rfl rfl rfl (fun w hm=>itoa_calls x2 hpo w (hL.mono hm)) ?_
    refine RunL.new (New.buildSlice (parts:=[(0,.tmp 33)]) rfl sl_166 zero_9 rfl rfl rfl rfl) rfl rfl rfl (fun b34=>?_)
    refine RunL.append (A:=[(b34,_)]) (B:=_) (x:=x) (ys:=strsV (Part.n x2).words) ap_166 rfl rfl rfl hx1 rfl (fun h=>by cases h) (fun w hm=>src_blk (hm.at (.head _))) (one_of rfl) (by simp only [maxLen];omega) (by omega) rfl (fun z35 hz35=>?_)
    refine st ?_
    refine lv (Val.add rfl rfl (IntWalk.i64_in _ ⟨by omega,by omega⟩)) ?_
    exact RunE.roundX z35 (by omega) (by rw [wsK_s hk hp,strsV_app,List.length_append];exact hz35) rfl (Sub.consE (t:=16) rfl rfl (Sub.consE (t:=3) rfl (by first | (rw [wsK_s hk hp];simp only [List.length_append];rfl) | (rw [wsK_s hk hp];rfl) | exact (Part.no q1 q2 q3 c5').elim) (Sub.cons (t:=14) rfl (Sub.cons (t:=15) rfl (Sub.nil _))))) (Pick.skip (Pick.same (by first | (rw [wsK_s hk hp,strsV_app];rfl) | (rw [wsK_s hk hp];rfl) | exact (Part.no q1 q2 q3 c5').elim)))
   intro c2'
   have q2:p.isN=false:=c2'
   refine st ?_
   refine lv (part_ns rfl) ?_
   refine cn rfl ?_ ?_
   ·intro c3'
    obtain ⟨x2,rfl⟩:=Part.ofNs c3'
    obtain ⟨hxS,hxl,hx64⟩:=hpo
    have hw1:(Part.ns x2).words.length=x2.l.length:=List.length_map ..
    refine st ?_
    refine lv (Val.len_sl rfl sl_27) ?_
    refine RunC.loopX (X:=Eng.Own) (n0:=[]) (x2.l.length) (fun j y1 q=>(41,.int .i64 (j:Int))::(3,ownV y1 (wsK ps k++(x2.l.take j).map Lib.itoa).length)::q) (fun _ _=>_) (fun j y1=>[]) (fun j y1=>ownB 9 y1 (strsV (wsK ps k++(x2.l.take j).map Lib.itoa))++[]) (fun j y1=>OwnOk 1 y1 (wsK ps k++(x2.l.take j).map Lib.itoa).length (strsV (wsK ps k++(x2.l.take j).map Lib.itoa))) x (by simpa using hx1) rfl (Sub.consE (t:=41) rfl rfl (Sub.consE (t:=3) rfl (by simp) (Sub.cons (t:=14) rfl (Sub.cons (t:=15) rfl (Sub.cons (t:=16) rfl (Sub.cons (t:=39) rfl (Sub.cons (t:=40) rfl (Sub.nil _)))))))) (Pick.same (by simp)) ?_
    intro j y1 jN jI
    have hx1:=jI
    refine st ?_
    refine cn rfl ?_ ?_
    ·intro c4'
     have hj:j < x2.l.length:=by omega
     obtain ⟨y,hy⟩:∃ y,x2.l[j]=y:=⟨_,rfl⟩
     have hy64:=hx64 y (hy ▸ List.getElem_mem hj)
     have hlw:(wsK ps k++(x2.l.take j).map Lib.itoa).length=(wsK ps k).length + j:=by (rw [List.length_append,List.length_map,List.length_take];omega)
     have e2:wsK ps k++(x2.l.take (j + 1)).map Lib.itoa=(wsK ps k++(x2.l.take j).map Lib.itoa)++[Lib.itoa y]:=by (rw [map_take _ hj hy,List.append_assoc])
     refine st ?_
     refine lv (Val.indexAddr_slp rfl rfl sl_27 (by omega) (by omega) (Sl.ptrM hxS hj)) ?_
     refine lv (Val.load_gen rfl (fun w hm=>Sl.loadM1 hxS (by decide) hm (by simp) ty_3 hj (v:=.int .i64 y) (by simp [intC,hy]))) ?_
     refine RunL.callP (isCall_func rfl ent_136) rfl rfl rfl (fun w hm=>itoa_calls y hy64 w (hL.mono hm)) ?_
     refine RunL.new (New.buildSlice (parts:=[(0,.tmp 47)]) rfl sl_166 zero_9 rfl rfl rfl rfl) rfl rfl rfl (fun b48=>?_)
     refine RunL.append (A:=[(b48,_)]) (B:=_) (x:=y1) (ys:=strsV [Lib.itoa y]) ap_166 rfl rfl rfl hx1 rfl (fun h=>by cases h) (fun w hm=>src_blk (hm.at (.head _))) (one_of rfl) (by simp only [maxLen];omega) (by omega) rfl (fun z49 hz49=>?_)
     refine st ?_
     refine lv (Val.add rfl rfl (IntWalk.i64_in _ ⟨by omega,by omega⟩)) ?_
     exact RunE.roundX z49 (by omega) (by rw [e2,strsV_app,List.length_append];exact hz49) rfl (Sub.consE (t:=41) rfl rfl (Sub.consE (t:=3) rfl (by rw [e2];simp only [List.length_append];rfl) (Sub.cons (t:=14) rfl (Sub.cons (t:=15) rfl (Sub.cons (t:=16) rfl (Sub.cons (t:=39) rfl (Sub.cons (t:=40) rfl (Sub.nil _)))))))) (Pick.skip (Pick.same (by rw [e2,strsV_app];rfl)))
    intro c4'
    obtain rfl:j=x2.l.length:=by omega
    have hyn:=hx1
    rw [List.take_length] at hyn
    simp only [List.take_length]
    refine RunC.exit ?_
    refine RunE.pass_exit ?_
    refine RunE.pass_exit ?_
    refine RunE.block_here ?_
    refine st ?_
    refine lv (Val.add rfl rfl (IntWalk.i64_in _ ⟨by omega,by omega⟩)) ?_
    exact RunE.roundX y1 (by omega) (by rw [wsK_s hk hp];exact hyn) rfl (Sub.consE (t:=16) rfl rfl (Sub.consE (t:=3) rfl (by first | (rw [wsK_s hk hp];simp only [List.length_append];rfl) | (rw [wsK_s hk hp];rfl) | exact (Part.no q1 q2 q3 c5').elim) (Sub.cons (t:=14) rfl (Sub.cons (t:=15) rfl (Sub.nil _))))) (Pick.same (by first | (rw [wsK_s hk hp,strsV_app];rfl) | (rw [wsK_s hk hp];rfl) | exact (Part.no q1 q2 q3 c5').elim))
   intro c3'
   have q3:p.isNs=false:=c3'
   refine st ?_
   refine lv (part_sps rfl) ?_
   refine cn rfl ?_ ?_
   ·intro c5'
    obtain ⟨x2,rfl⟩:=Part.ofSps c5'
    obtain ⟨hxS,hxl,hx64⟩:=hpo
    have hw1:(Part.sps x2).words.length=x2.l.length:=List.length_map ..
    refine st ?_
    refine lv (Val.len_sl rfl sl_22) ?_
    refine RunC.loopX (X:=Eng.Own) (n0:=[]) (x2.l.length) (fun j y2 q=>(56,.int .i64 (j:Int))::(3,ownV y2 (wsK ps k++(x2.l.take j).map spS).length)::q) (fun _ _=>_) (fun j y2=>[]) (fun j y2=>ownB 9 y2 (strsV (wsK ps k++(x2.l.take j).map spS))++[]) (fun j y2=>OwnOk 1 y2 (wsK ps k++(x2.l.take j).map spS).length (strsV (wsK ps k++(x2.l.take j).map spS))) x (by simpa using hx1) rfl (Sub.consE (t:=56) rfl rfl (Sub.consE (t:=3) rfl (by simp) (Sub.cons (t:=14) rfl (Sub.cons (t:=15) rfl (Sub.cons (t:=16) rfl (Sub.cons (t:=54) rfl (Sub.cons (t:=55) rfl (Sub.nil _)))))))) (Pick.same (by simp)) ?_
    intro j y2 jN jI
    have hx1:=jI
    refine st ?_
    refine cn rfl ?_ ?_
    ·intro c6'
     have hj:j < x2.l.length:=by omega
     obtain ⟨y,hy⟩:∃ y,x2.l[j]=y:=⟨_,rfl⟩
     have hy64:=hx64 y (hy ▸ List.getElem_mem hj)
     have hlo:=itoa_len hy64.1
     have hhi:=itoa_len hy64.2
     have hlw:(wsK ps k++(x2.l.take j).map spS).length=(wsK ps k).length + j:=by (rw [List.length_append,List.length_map,List.length_take];omega)
     have e2:wsK ps k++(x2.l.take (j + 1)).map spS=(wsK ps k++(x2.l.take j).map spS)++[spS y]:=by (rw [map_take _ hj hy,List.append_assoc])
     refine st ?_
     refine lv (Val.indexAddr_slp rfl rfl sl_22 (by omega) (by omega) (Sl.ptrM hxS hj)) ?_
     refine lv (Val.load_gen rfl (fun w hm=>Sl.loadX hxS (by decide) hm (by simp) ty_38 hj hy)) ?_
     refine RunL.new (New.alloc zero_38) rfl rfl rfl (fun b13=>?_)
     refine RunL.sto (Sto.store rfl rfl .here ty_38 rfl rfl) rfl rfl ?_
     refine st ?_
     refine RunC.draw 10 fol_ (.cons .here rfl .nil) ?_
     refine va 0 rfl (Val.pure rfl) rfl rfl rfl (.cons .here rfl .nil) rfl ?_
     refine va 1 rfl (Val.fieldAddr rfl fld_38_0) rfl rfl rfl (.cons .here rfl .nil) rfl ?_
     refine va 2 rfl (Val.load_one rfl (.head _) ty_3 rfl) rfl rfl rfl (.cons .here rfl .nil) rfl ?_
     refine va 5 rfl (Val.fieldAddr rfl fld_38_1) rfl rfl rfl (.cons .here rfl .nil) rfl ?_
     refine va 6 rfl (Val.load_one rfl (.head _) ty_3 rfl) rfl rfl rfl (.cons .here rfl .nil) rfl ?_
     refine RunA.one (i:=3) (by kernel_rfl) (by kernel_rfl) ?_
     refine RunI.callP rfl (isCall_func rfl ent_136) rfl rfl rfl (fun w hm=>itoa_calls y.lo hy64.1 w (hL.mono hm)) (RunK.toA (.cons .here rfl .nil) (.cons .here rfl .nil) rfl ?_)
     refine va 4 rfl (Val.strAdd rfl rfl (by simp;omega)) rfl rfl rfl (.cons .here rfl .nil) rfl ?_
     refine RunA.one (i:=7) (by kernel_rfl) (by kernel_rfl) ?_
     refine RunI.callP rfl (isCall_func rfl ent_136) rfl rfl rfl (fun w hm=>itoa_calls y.hi hy64.2 w (hL.mono hm)) (RunK.toA (.cons .here rfl .nil) (.cons .here rfl .nil) rfl ?_)
     refine va 8 rfl (Val.strAdd rfl rfl (by simp;omega)) rfl rfl rfl (.cons .here rfl .nil) rfl ?_
     refine RunA.one (i:=9) (by kernel_rfl) (by kernel_rfl) ?_
     refine RunI.new rfl (New.buildSlice (parts:=[(0,.tmp 68)]) rfl sl_166 zero_9 rfl rfl rfl rfl) rfl rfl rfl (fun b69=>(RunK.toA (.cons .here rfl (.cons .here rfl .nil)) (.cons (.there .here) rfl .nil) rfl ?_))
     refine RunA.toB (by kernel_rfl) ?_
     refine RunB.one (i:=10) (by kernel_rfl) ?_
     refine RunI.append (A:=[(b69,_),(b13,_)]) (B:=_) (x:=y2) (ys:=strsV [spS y]) rfl ap_166 rfl rfl rfl hx1 rfl (fun h=>by cases h) (fun w hm=>src_blk (hm.at (.head _))) (one_of rfl) (by simp only [maxLen];omega) (by omega) rfl (fun z70 hz70=>(RunK.toB ?_))
     refine RunB.one (i:=11) (by kernel_rfl) ?_
     refine RunI.val rfl (Val.pure rfl) rfl rfl rfl (RunK.toB ?_)
     refine RunB.done (by kernel_rfl) ?_
     refine st ?_
     refine lv (Val.add rfl rfl (IntWalk.i64_in _ ⟨by omega,by omega⟩)) ?_
     exact RunE.roundX z70 (by omega) (by rw [e2,strsV_app,List.length_append];exact hz70) rfl (Sub.consE (t:=56) rfl rfl (Sub.consE (t:=3) rfl (by rw [e2];simp only [List.length_append];rfl) (Sub.cons (t:=14) rfl (Sub.cons (t:=15) rfl (Sub.cons (t:=16) rfl (Sub.cons (t:=54) rfl (Sub.cons (t:=55) rfl (Sub.nil _)))))))) (Pick.skip (Pick.skip (Pick.same (by rw [e2,strsV_app];rfl))))
    intro c6'
    obtain rfl:j=x2.l.length:=by omega
    have hyn:=hx1
    rw [List.take_length] at hyn
    simp only [List.take_length]
    refine RunC.exit ?_
    refine RunE.pass_exit ?_
    refine RunE.pass_exit ?_
    refine RunE.block_here ?_
    refine st ?_
    refine lv (Val.add rfl rfl (IntWalk.i64_in _ ⟨by omega,by omega⟩)) ?_
    exact RunE.roundX y2 (by omega) (by rw [wsK_s hk hp];exact hyn) rfl (Sub.consE (t:=16) rfl rfl (Sub.consE (t:=3) rfl (by first | (rw [wsK_s hk hp];simp only [List.length_append];rfl) | (rw [wsK_s hk hp];rfl) | exact (Part.no q1 q2 q3 c5').elim) (Sub.cons (t:=14) rfl (Sub.cons (t:=15) rfl (Sub.nil _))))) (Pick.same (by first | (rw [wsK_s hk hp,strsV_app];rfl) | (rw [wsK_s hk hp];rfl) | exact (Part.no q1 q2 q3 c5').elim))
   intro c5'
   refine st ?_
   refine lv (Val.add rfl rfl (IntWalk.i64_in _ ⟨by omega,by omega⟩)) ?_
   exact RunE.roundX x (by omega) (by exact (Part.no q1 q2 q3 c5').elim) rfl (Sub.consE (t:=16) rfl rfl (Sub.consE (t:=3) rfl (by first | (rw [wsK_s hk hp];simp only [List.length_append];rfl) | (rw [wsK_s hk hp];rfl) | exact (Part.no q1 q2 q3 c5').elim) (Sub.cons (t:=14) rfl (Sub.cons (t:=15) rfl (Sub.nil _))))) (Pick.same (by first | (rw [wsK_s hk hp,strsV_app];rfl) | (rw [wsK_s hk hp];rfl) | exact (Part.no q1 q2 q3 c5').elim))
  intro c0'
  obtain rfl:k=ps.length:=by omega
  rw [wsK_all] at hx1
  simp only [wsK_all]
  have hcap:((ps.map Part.words).flatten).length≤ownC x:=own_cap hx1
  have hjl:=join_le (sep:=[32]) (m:=50) (xs:=(ps.map Part.words).flatten) (fun y hy=>by obtain ⟨ws,h1,h2⟩:=List.mem_flatten.1 hy;obtain ⟨p,h3,rfl⟩:=List.mem_map.1 h1;exact words_len (hok p h3) y h2)
  simp only [List.length_singleton] at hjl
  refine RunC.exit ?_
  refine RunE.pass_exit ?_
  refine RunE.pass_exit ?_
  refine RunE.block_here ?_
  refine st ?_
  refine RunL.callP (isCall_func rfl ent_137) rfl rfl rfl (fun w hm=>(by rw [ownV_slice hx1];exact join_calls (ownQ x) (ownK x) 0 (ownC x) ((ps.map Part.words).flatten) [32] w (own_sl (f:=strC) (fun _=>rfl) (by decide) hx1 (fun b o h=>hm.at (by simp only [List.nil_append,List.append_nil];exact h))) (by omega) hcap (by omega))) ?_
  refine lv (Val.strAdd rfl rfl (by simp;omega)) ?_
  refine RunC.ret ?_
  exact RunE.retP (.r1 rfl (.tmp rfl)) (by first | rfl | simp)
end Go.Proofs.YtleamcmljcdapaaGreatDoor
namespace Go.Proofs.YtleamcmljcdapaaGreatDoor
open Go Go.Eng
theorem aps_58_9:apsB Tryz.prog 58 9=some 5:=by kernel_rfl
theorem ent_135:Enters Tryz.prog 135:=enters_of Tryz.func135 (by kernel_rfl) rfl
theorem ent_88:Enters Tryz.prog 88:=enters_of Tryz.func88 (by kernel_rfl) rfl
theorem ent_89:Enters Tryz.prog 89:=enters_of Tryz.func89 (by kernel_rfl) rfl
theorem fld_148_0:fieldB Tryz.prog 148 0=some 0:=by kernel_rfl
theorem fld_148_1:fieldB Tryz.prog 148 1=some 1:=by kernel_rfl
theorem noif_22:(Tryz.prog.underlying 22).any (fun t=>match t with | .interface _=>false | _=>true)=true:=by kernel_rfl
theorem noif_9:(Tryz.prog.underlying 9).any (fun t=>match t with | .interface _=>false | _=>true)=true:=by kernel_rfl
theorem ty_146:tyB Tryz.prog 146=some (false,1):=by kernel_rfl
theorem ty_58:tyB Tryz.prog 58=some (false,1):=by kernel_rfl
theorem und_9:Tryz.prog.underlying 9=some (.string):=by kernel_rfl
theorem zero_20:zeroB Tryz.prog 20=some [.nilIface]:=by kernel_rfl
end Go.Proofs.YtleamcmljcdapaaGreatDoor
namespace Go.Bk
open Go Go.Eng Go.RowKit
def BuP (b:Nat) (p:Value):Prop:=p = .pointer none∨p = .pointer (some ⟨b,0,none⟩)
def buS (b:Nat):Value:=.pointer (some ⟨b,0,none⟩)
end Go.Bk
namespace Go.Proofs.YtleamcmljcdapaaGreatDoor
open Go Go.Eng Go.Bk Go.RowKit

abbrev buO (p:Value) (x:Eng.Own) (n:Nat):Obj:=.cells [p,ownV x n].toArray 148 (0,0)
abbrev buB (b:Nat) (p:Value) (x:Eng.Own) (l:Str) (tl:Blks):Blks:=(b,buO p x l.length)::(ownB 5 x (byc l)++tl)
theorem copyCheck_calls (b:Nat) (p v:Value) (rest:Blks) (W0 w:World) (hm0:Mem W0 [] ((b,.cells [p,v].toArray 148 (0,0))::(rest++[])) w) (hp:BuP b p) :
    Calls Tryz.prog 135 #[.pointer (some ⟨b,0,none⟩)] w (Grow W0 [] (fun _:Unit=>.tuple #[]) (fun _=>(b,.cells [buS b,v].toArray 148 (0,0))::(rest++[])) (fun _=>True)):=by
  obtain ⟨j,hj,hjs⟩:=Option.map_eq_some_iff.1 (show (Tryz.prog.info? 148).map (·.size)=some 2 by kernel_rfl)
  have hj0:j.size ≠ 0:=by rw [hjs];decide
  rcases hp with rfl | rfl
  · refine calls_from hm0 Tryz.func135 rfl rfl ?_
    refine st ?_
    refine lv (Val.fieldAddr rfl fld_148_0) ?_
    refine lv (Val.load_one rfl (.head _) ty_146 rfl) ?_
    refine lv (Val.eqlNilptr rfl (t:=148) (by kernel_rfl)) ?_
    refine RunC.cond rfl ?_ (fun h=>absurd h (by simp))
    intro c0
    clear c0
    refine st ?_
    refine lv (Val.toUnsafe rfl (List.mem_append_right _ (.head _)) (t:=148) (by kernel_rfl) (by kernel_rfl) hj hj0 (by simp)) ?_
    refine lv (Val.ext Tryz.func166 (by kernel_rfl) (by kernel_rfl) (by kernel_rfl) (e:=Extern.AbiNoEscape.same) (by kernel_rfl) rfl (fun w=>rfl)) ?_
    refine lv (Val.fromUnsafe rfl (List.mem_append_right _ (.head _)) (t:=148) (by kernel_rfl) (by kernel_rfl) hj (by kernel_rfl)) ?_
    refine lv (Val.fieldAddr rfl fld_148_0) ?_
    refine RunL.sto (Sto.store rfl rfl .here ty_146 rfl rfl) rfl rfl ?_
    refine st ?_
    exact RunE.finG () trivial (.r0 rfl) rfl (.cons .here rfl (Pick.refl _))
  · refine calls_from hm0 Tryz.func135 rfl rfl ?_
    refine st ?_
    refine lv (Val.fieldAddr rfl fld_148_0) ?_
    refine lv (Val.load_one rfl (.head _) ty_146 rfl) ?_
    refine lv (Val.eqlNilptr rfl (t:=148) (by kernel_rfl)) ?_
    refine RunC.cond rfl (fun h=>absurd h (by simp)) ?_
    intro c0
    clear c0
    refine st ?_
    refine lv (Val.fieldAddr rfl fld_148_0) ?_
    refine lv (Val.load_one rfl (.head _) ty_146 rfl) ?_
    refine lv (Val.neqSame rfl rfl (t:=148) (by kernel_rfl) hj) ?_
    refine RunC.cond rfl (fun h=>absurd h (by simp)) ?_
    intro c1
    clear c1
    refine st ?_
    exact RunE.finG () trivial (.r0 rfl) rfl (.cons .here rfl (Pick.refl _))
theorem copyCheckT_calls (b:Nat) (p v:Value) (tl:Blks) (W0 w:World) (hm0:Mem W0 [] ((b,.cells [p,v].toArray 148 (0,0))::tl) w) (hp:BuP b p) :
    Calls Tryz.prog 135 #[.pointer (some ⟨b,0,none⟩)] w (Grow W0 [] (fun _:Unit=>.tuple #[]) (fun _=>(b,.cells [buS b,v].toArray 148 (0,0))::tl) (fun _=>True)):=by
  have h:=copyCheck_calls b p v tl W0 w (by rw [List.append_nil];exact hm0) hp
  simp only [List.append_nil] at h
  exact h
theorem bwrite_calls (b:Nat) (p:Value) (x:Eng.Own) (l s:Str) (rest:Blks) (W0 w:World) (hm0:Mem W0 [] (buB b p x l (rest++[])) w) (hp:BuP b p) (hx:OwnOk 1 x l.length (byc l)) (hb:l.length + s.length≤140737488355328) :
    Calls Tryz.prog 88 #[.pointer (some ⟨b,0,none⟩),.string (bs s)] w (Grow W0 [] (fun _:Eng.Own=>.tuple #[.int .i64 (s.length:Int),.nilIface]) (fun y=>buB b (buS b) y (l++s) (rest++[])) (fun y=>OwnOk 1 y (l++s).length (byc (l++s)))):=by
  refine calls_from hm0 Tryz.func88 rfl rfl ?_
  refine st ?_
  refine RunL.callG (isCall_func rfl ent_135) rfl rfl rfl (fun w hm=>(copyCheckT_calls b p (ownV x l.length) (ownB 5 x (byc l)++(rest++[])) W0 w hm hp)) (fun z7 hz7=>?_)
  
  refine st ?_
  refine lv (Val.fieldAddr rfl fld_148_1) ?_
  refine lv (Val.load_one rfl (.head _) ty_58 rfl) ?_
  refine RunL.appendS (A:=[(b,_)]) (B:=_) (x:=x) (ys:=s) aps_58_9 rfl rfl rfl hx (by omega) rfl (fun z14 hz14=>?_)
  refine st ?_
  refine lv (Val.fieldAddr rfl fld_148_1) ?_
  refine RunL.sto (Sto.storeOwn rfl rfl .here ty_58 rfl rfl) rfl rfl ?_
  refine st ?_
  refine lv (Val.lenS rfl und_9) ?_
  refine RunC.ret ?_
  exact RunE.retG z14 (by rw [List.length_append,byc_app];exact hz14) (.r2 rfl (.tmp rfl) (.tmp rfl)) rfl (by simp only [buB,List.length_append,byc_app];exact (.cons .here rfl (Pick.refl _)))
theorem calls_re {β:Type} {P:Program} {f:FuncId} {args:Array Value} {W0 w:World} {chg:Blks} {v:β→Value} {nw nw':β→Blks} {I:β→Prop} (h:Calls P f args w (Grow W0 chg v nw I)) (hp:∀ b,Pick (nw' b) (nw b)):Calls P f args w (Grow W0 chg v nw' I) :=
  calls_mono h (by rintro e w' ⟨b,h1,h2,h3⟩;exact ⟨b,h1,h2,h3.pick (hp b)⟩)
theorem mem_below {W0 w w':World} {news:Blks} (h:Mem W0 [] news w) (hb:Below W0.heap.size w w'):Mem W0 [] [] w' :=
  ⟨hb.os.trans h.os,hb.tape.trans h.tape,hb.output.trans h.output,Nat.le_trans h.size hb.size,fun k hk _=>(hb.block k hk).trans (h.old k hk (by simp)),fun _ _ h=>(by cases h),fun _ _ h=>(by cases h),by simp⟩
theorem bstring_calls (b:Nat) (p:Value) (x:Eng.Own) (l:Str) (tl:Blks) (W0 w:World) (hm0:Mem W0 [] (buB b p x l tl) w) (hp:BuP b p) (hx:OwnOk 1 x l.length (byc l)) :
    Calls Tryz.prog 90 #[.pointer (some ⟨b,0,none⟩)] w (Grow W0 [] (fun _:Unit=>.string (bs l)) (fun _=>[]) (fun _=>True)):=by
  have h1:=hm0.newd b (buO p x l.length) (.head _)
  have hown:w.ownsRow W0.heap.size 5 1 (ownV x l.length) l.length (byc l):=hx.owns (fun b' o hb=>hm0.newd b' o (.tail _ (List.mem_append_left _ hb)))
  have hne:(ownV x l.length).ownBlock ≠ some b:=by
    have h2:=hm0.once
    match x,h2 with
    | none,_=>intro h;cases h
    | some (b',c,r),h2 =>
      intro h
      have e:b'=b:=Option.some.inj h
      subst e
      simp [ownB] at h2
  have hB:Lib.BuilderAt 148 5 W0.heap.size b p (Lib.byteCells l) w:=⟨h1.1,_,h1.2,by rw [show (Lib.byteCells l).length=l.length by simp [Lib.byteCells]];exact hown,hne⟩
  refine calls_mono (Tryz.Builder_String_any W0.heap.size b l w (by rcases hp with rfl | rfl;exact .inl hB;exact .inr hB) hm0.size) ?_
  rintro e w' ⟨rfl,hb⟩
  exact ⟨(),trivial,rfl,mem_below hm0 hb⟩
theorem linep_calls (ps:List Part) (ws:List Str) (hws:(ps.map Part.words).flatten=ws) (b:Nat) (w:World) (hL:Lw Tryz.prog w) (hb:w.heap[b]? = some (.cells ((ps.map fun p=>[p.v]).flatten).toArray 20 (0,0))) (hps:ps.length≤100) (hok:∀ p∈ps,p.ok w) (hN:ws.length≤20000) :
    Calls Tryz.prog 89 #[.slice (some ⟨b,0,none⟩) ps.length ps.length] w (Pure (.string (bs (lineS ws))) w):=by
  rw [← hws] at hN ⊢
  exact line_calls ps (some ⟨b,0,none⟩) b 0 ps.length w hL (Sl.rowsR (t:=[]) (by rw [List.append_nil];exact hb) (by simp)) hps hok hN
theorem brow_calls (word:Str) (s:SA Sp) (b:Nat) (p:Value) (x:Eng.Own) (l:Str) (rest:Blks) (W0 w:World) (hL:Lw Tryz.prog W0) (hm0:Mem W0 [] (buB b p x l (rest++[])) w) (hp:BuP b p) (hx:OwnOk 1 x l.length (byc l)) (hw:word.length≤40) (hs:(Part.sps s).ok W0) (hb:l.length + (rowS word s.l).length≤140737488355328) :
    Calls Tryz.prog 87 #[.string (bs word),s.v,.pointer (some ⟨b,0,none⟩)] w (Grow W0 [] (fun _:Eng.Own=>.tuple #[]) (fun y=>buB b (buS b) y (l++rowS word s.l) (rest++[])) (fun y=>OwnOk 1 y (l++rowS word s.l).length (byc (l++rowS word s.l)))):=by
  have hwl:(word::s.l.map spS).length≤20000:=by
    have:=hs.2.1
    simp only [List.length_cons,List.length_map]
    omega
  refine calls_from hm0 Tryz.func87 rfl rfl ?_
  refine st ?_
  refine lv (Val.makeInterface rfl noif_9) ?_
  refine lv (Val.makeInterface rfl noif_22) ?_
  refine RunL.new (New.buildSlice (parts:=[(0,.tmp 6),(1,.tmp 8)]) rfl sl_192 zero_20 rfl rfl rfl rfl) rfl rfl rfl (fun b9=>?_)
  refine RunL.callP (isCall_func rfl ent_89) rfl rfl rfl (fun w hm=>(linep_calls [Part.s word,Part.sps s] (word::s.l.map spS) (by simp [Part.words]) b9 w (hL.mono hm) (hm.at (.head _)) (by simp) (by intro p hp;simp only [List.mem_cons,List.not_mem_nil,or_false] at hp;rcases hp with rfl | rfl;exact hw;exact hs.mono0 hm) hwl)) ?_
  refine RunL.callG (isCall_func rfl ent_88) rfl rfl rfl (fun w hm=>(bwrite_calls b p x l (rowS word s.l) rest W0 w (hm.pick (Pick.cnt fun x=>by simp only [nC];omega)) hp hx hb)) (fun z11 hz11=>?_)
  
  refine st ?_
  exact RunE.finG z11 hz11 (.r0 rfl) rfl (.cons .here rfl (Pick.refl _))
end Go.Proofs.YtleamcmljcdapaaGreatDoor
namespace Go.Proofs.YtleamcmljcdapaaGreatDoor
open Go Go.Eng
theorem ent_87:Enters Tryz.prog 87:=enters_of Tryz.func87 (by kernel_rfl) rfl
theorem ent_90:Enters Tryz.prog 90:=enters_of Tryz.func90 (by kernel_rfl) rfl
theorem noif_3:(Tryz.prog.underlying 3).any (fun t=>match t with | .interface _=>false | _=>true)=true:=by kernel_rfl
theorem zero_148:zeroB Tryz.prog 148=some [.pointer none,.slice none 0 0]:=by kernel_rfl
end Go.Proofs.YtleamcmljcdapaaGreatDoor
namespace Go.Bk
open Go Go.Eng Go.RowKit
theorem lineS_len {ws:List Str} (h:∀ x∈ws,x.length≤50):(lineS ws).length≤ws.length * 51 + 1:=by
  have h1:=join_le (sep:=[32]) h
  unfold lineS
  rw [List.length_append]
  simp only [nl,List.length_singleton] at h1 ⊢
  omega
theorem rowS_len {W:World} {word:Str} {s:SA Sp} (hw:word.length≤40) (hs:(Part.sps s).ok W):(rowS word s.l).length≤(s.l.length + 1) * 51 + 1:=by
  have h:=lineS_len (ws:=word::s.l.map spS) (fun x hx=>by
    rcases List.mem_cons.1 hx with rfl | hx
    · omega
    · exact words_len hs x hx)
  unfold rowS
  simpa using h
theorem sp64 {s:Sp} {h:Int} (hs:spanX s h=true) (hh:h≤9223372036854775807):In64 s.lo∧In64 s.hi:=by
  simp only [spanX,Bool.and_eq_true,decide_eq_true_eq] at hs
  unfold In64
  omega
structure TrV (t:TrA):Prop where
  dawn:In64 t.dawn
  ways:t.ways.l.length≤6
  all:∀ x∈t.all,x.l.length≤6∧∀ s∈x.l,In64 s.lo∧In64 s.hi
theorem tour_v {t:TrA} (h:tourX t.pl=true):TrV t:=by
  unfold tourX at h
  rw [tour_all] at h
  simp only [Bool.and_eq_true,decide_eq_true_eq,within,Bool.not_eq_true',List.any_eq_false,badRow,Bool.or_eq_true,not_or,badSp,Bool.not_eq_false] at h
  obtain ⟨⟨⟨h1,h2⟩,h3⟩,h4⟩:=h
  have e1:t.pl.fr.length=t.fr.l.length:=rfl
  have e2:t.pl.ways.length=t.ways.l.length:=by simp [TrA.pl]
  have e3:t.pl.dawn=t.dawn:=rfl
  rw [e1] at h1 h2 h4
  rw [e2] at h2
  rw [e3] at h3
  refine ⟨by unfold In64;omega,by omega,fun x hx=>?_⟩
  obtain ⟨h5,h6⟩:=h4 x hx
  have h5':x.l.length=t.fr.l.length:=by first | exact h5 | simpa using h5
  refine ⟨by omega,fun s hs=>sp64 (h:=1440) ?_ (by decide)⟩
  first | exact h6 s hs | (simp [badSp] at h6;exact h6 s hs)
theorem TrV.part {W:World} {t:TrA} (h:TrV t) (hT:TrOk W t) {x:SA Sp} (hx:x∈t.all):(Part.sps x).ok W:=⟨hT.all x hx,by have:=(h.all x hx).1;omega,(h.all x hx).2⟩
theorem all_fr (t:TrA):t.fr∈t.all:=by simp [TrA.all]
theorem all_stay (t:TrA):t.stay∈t.all:=by simp [TrA.all]
theorem all_light (t:TrA):t.light∈t.all:=by simp [TrA.all]
theorem all_way {t:TrA} {x:SA Sp} (h:x∈t.ways.l):x∈t.all:=by simp [TrA.all,h]
def tT (t:TrA) (k:Nat):Str:=lineS [wTour,Lib.itoa t.dawn]++rowS wFrom t.fr.l++((t.ways.l.take k).map fun s=>rowS wWays s.l).flatten
theorem tT_s {t:TrA} {k:Nat} (hk:k < t.ways.l.length) {x:SA Sp} (hx:t.ways.l[k]=x):tT t (k + 1)=tT t k++rowS wWays x.l:=by
  unfold tT
  rw [List.take_succ_eq_append_getElem hk,List.map_append,List.flatten_append,hx]
  simp
theorem tour_text (t:TrA):tourS t.pl=tT t t.ways.l.length++rowS wStay t.stay.l++rowS wLight t.light.l:=by
  unfold tT tourS
  rw [List.take_length]
  simp [TrA.pl,List.map_map,Function.comp_def]
theorem tT_len {W:World} {t:TrA} (h:TrV t) (hT:TrOk W t):∀ {k:Nat},k≤t.ways.l.length→(tT t k).length≤1000 + 400 * k
  | 0,_=>by
    have h1:=lineS_len (ws:=[wTour,Lib.itoa t.dawn]) (fun x hx=>by
      simp only [List.mem_cons,List.not_mem_nil,or_false] at hx
      rcases hx with rfl | rfl
      · decide
      · exact Nat.le_trans (itoa_len h.dawn) (by decide))
    have h2:=rowS_len (word:=wFrom) (by decide) (h.part hT (all_fr t))
    have h3:=(h.all _ (all_fr t)).1
    unfold tT
    simp only [List.take_zero,List.map_nil,List.flatten_nil,List.append_nil,List.length_append]
    simp only [List.length_cons,List.length_nil] at h1
    omega
  | k + 1,hk=>by
    have hk':k < t.ways.l.length:=by omega
    have hm:=all_way (List.getElem_mem hk')
    have h2:=rowS_len (word:=wWays) (by decide) (h.part hT hm)
    have h3:=(h.all _ hm).1
    rw [tT_s hk' rfl,List.length_append]
    have:=tT_len h hT (k:=k) (by omega)
    omega
end Go.Bk
namespace Go.Proofs.YtleamcmljcdapaaGreatDoor
open Go Go.Eng Go.Bk Go.RowKit

abbrev trO (t:TrA):Obj:=.cells t.cells.toArray 25 (0,0)
abbrev tM (t:TrA) (b3 b1:Nat) (y:Eng.Own) (l:Str):Blks:=(b3,buO (buS b3) y l.length)::(b1,trO t)::(ownB 5 y (byc l)++[])
theorem bwrite0_calls (b:Nat) (s:Str) (tl:Blks) (W0 w:World) (hm0:Mem W0 [] ((b,.cells [.pointer none,.slice none 0 0].toArray 148 (0,0))::tl) w) (hb:s.length≤140737488355328) :
    Calls Tryz.prog 88 #[.pointer (some ⟨b,0,none⟩),.string (bs s)] w (Grow W0 [] (fun _:Eng.Own=>.tuple #[.int .i64 (s.length:Int),.nilIface]) (fun y=>buB b (buS b) y s tl) (fun y=>OwnOk 1 y s.length (byc s))):=by
  have h:=bwrite_calls b (.pointer none) none [] s tl W0 w (by rw [List.append_nil];exact hm0) (.inl rfl) OwnOk.start (by simpa using hb)
  simp only [List.append_nil,List.nil_append] at h
  exact h
theorem trow_calls (t:TrA) (word:Str) (s:SA Sp) (b3 b1:Nat) (y:Eng.Own) (l:Str) (W0 w:World) (hL:Lw Tryz.prog W0) (hm0:Mem W0 [] (tM t b3 b1 y l) w) (hx:OwnOk 1 y l.length (byc l)) (hw:word.length≤40) (hs:(Part.sps s).ok W0) (hb:l.length≤100000) :
    Calls Tryz.prog 87 #[.string (bs word),s.v,.pointer (some ⟨b3,0,none⟩)] w (Grow W0 [] (fun _:Eng.Own=>.tuple #[]) (fun y=>tM t b3 b1 y (l++rowS word s.l)) (fun y=>OwnOk 1 y (l++rowS word s.l).length (byc (l++rowS word s.l)))):=by
  have h2:=rowS_len hw hs
  have h3:=hs.2.1
  exact calls_re (brow_calls word s b3 (buS b3) y l [(b1,trO t)] W0 w hL (hm0.pick (Pick.cnt fun x=>by simp only [nC];omega)) (.inr rfl) hx hw hs (by omega)) (fun y=>(Pick.cnt fun x=>by simp only [nC];omega))
theorem tourT_calls (t:TrA) (W:World) (hL:Lw Tryz.prog W) (hT:TrOk W t) (hv:TrV t):Calls Tryz.prog 86 #[t.v] W (Grow W [] (fun _:Unit=>.string (bs (tourS t.pl))) (fun _=>[]) (fun _=>True)):=by
  have hl0:(lineS [wTour,Lib.itoa t.dawn]).length≤1000:=by
    have h1:=lineS_len (ws:=[wTour,Lib.itoa t.dawn]) (fun x hx=>by
      simp only [List.mem_cons,List.not_mem_nil,or_false] at hx
      rcases hx with rfl | rfl
      · decide
      · exact Nat.le_trans (itoa_len hv.dawn) (by decide))
    simp only [List.length_cons,List.length_nil] at h1
    omega
  have hw6:=hv.ways
  have hst:=rowS_len (word:=wStay) (by decide) (hv.part hT (all_stay t))
  have hst2:=(hv.all _ (all_stay t)).1
  have hlen:=fun k hk=>tT_len hv hT (k:=k) hk
  have hlast:=hlen t.ways.l.length (Nat.le_refl _)
  have e0:tT t 0=lineS [wTour,Lib.itoa t.dawn]++rowS wFrom t.fr.l:=by simp [tT]
  refine calls_start Tryz.func86 rfl rfl ?_
  refine st ?_
  refine RunL.new (New.box rfl) rfl rfl rfl (fun b1=>?_)
  refine st ?_
  refine RunL.new (New.alloc zero_148) rfl rfl rfl (fun b3=>?_)
  refine st ?_
  refine lv (Val.makeInterface rfl noif_9) ?_
  refine lv (Val.fieldAddr rfl fld_25_0) ?_
  refine lv (Val.load_one rfl (.tail _ (.head _)) ty_3 rfl) ?_
  refine lv (Val.makeInterface rfl noif_3) ?_
  refine RunL.new (New.buildSlice (parts:=[(0,.tmp 8),(1,.tmp 11)]) rfl sl_192 zero_20 rfl rfl rfl rfl) rfl rfl rfl (fun b12=>?_)
  refine RunL.callP (isCall_func rfl ent_89) rfl rfl rfl (fun w hm=>(linep_calls [Part.s wTour,Part.n t.dawn] [wTour,Lib.itoa t.dawn] rfl b12 w (hL.mono hm) (hm.at (.head _)) (by simp) (by intro p hp;simp only [List.mem_cons,List.not_mem_nil,or_false] at hp;rcases hp with rfl | rfl;exact (show wTour.length≤40 by decide);exact hv.dawn) (by simp))) ?_
  refine RunL.callG (isCall_func rfl ent_88) rfl rfl rfl (fun w hm=>(calls_re (nw':=fun y=>tM t b3 b1 y (lineS [wTour,Lib.itoa t.dawn])) (bwrite0_calls b3 (lineS [wTour,Lib.itoa t.dawn]) [(b1,trO t)] W w (hm.pick (.cons (.there .here) rfl (.cons (.there .here) rfl .nil))) (by omega)) (fun y=>(Pick.cnt fun x=>by simp only [nC];omega)))) (fun z14 hz14=>?_)
  
  refine st ?_
  refine lv (Val.fieldAddr rfl fld_25_1) ?_
  refine lv (Val.load_one rfl (.tail _ (.head _)) ty_22 rfl) ?_
  refine RunL.callG (isCall_value rfl rfl ent_87) rfl rfl rfl (fun w hm=>(trow_calls t wFrom t.fr b3 b1 z14 _ W w hL hm hz14 (by decide) (hv.part hT (all_fr t)) (by omega))) (fun z18 hz18=>?_)
  
  refine st ?_
  refine lv (Val.fieldAddr rfl fld_25_2) ?_
  refine lv (Val.load_one rfl (.tail _ (.head _)) ty_23 rfl) ?_
  refine lv (Val.len_sl rfl sl_23) ?_
  refine RunC.loopX (X:=Eng.Own) (n0:=[(b1,_)]) (t.ways.l.length) (fun k x q=>(22,.int .i64 (k:Int))::q) (fun _ _=>_) (fun k x=>[(b3,buO (buS b3) x (tT t k).length)]) (fun k x=>ownB 5 x (byc (tT t k))++[]) (fun k x=>OwnOk 1 x (tT t k).length (byc (tT t k))) z18 (by rw [e0];exact hz18) rfl (Sub.consE (t:=22) rfl rfl (Sub.cons (t:=1) rfl (Sub.cons (t:=3) rfl (Sub.cons (t:=4) rfl (Sub.cons (t:=20) rfl (Sub.cons (t:=21) rfl (Sub.nil _))))))) (.cons .here (by rw [e0]) (.cons .here rfl (Pick.same (by rw [e0];rfl)))) ?_
  intro k x kN kI
  refine st ?_
  refine cn rfl ?_ ?_
  ·intro c0'
   have hk:k < t.ways.l.length:=by omega
   obtain ⟨y,hy⟩:∃ y,t.ways.l[k]=y:=⟨_,rfl⟩
   have hym:y∈t.ways.l:=hy ▸ List.getElem_mem hk
   have hlk:=hlen k (by omega)
   refine st ?_
   refine lv (Val.indexAddr_slp rfl rfl sl_23 (by omega) (by omega) (Sl.ptrM hT.ways hk)) ?_
   refine lv (Val.load_gen rfl (fun w hm=>Sl.loadM1 hT.ways (by decide) hm (by simp) ty_22 hk (v:=y.v) (by simp [SA.cell,hy]))) ?_
   refine RunL.callG (isCall_value rfl rfl ent_87) rfl rfl rfl (fun w hm=>(trow_calls t wWays y b3 b1 x _ W w hL hm kI (by decide) (hv.part hT (all_way hym)) (by omega))) (fun z28 hz28=>?_)
   
   refine st ?_
   refine lv (Val.add rfl rfl (IntWalk.i64_in _ ⟨by omega,by omega⟩)) ?_
   exact RunE.roundX z28 (by omega) (by rw [tT_s hk hy];exact hz28) rfl (Sub.consE (t:=22) rfl rfl (Sub.cons (t:=1) rfl (Sub.cons (t:=3) rfl (Sub.cons (t:=4) rfl (Sub.cons (t:=20) rfl (Sub.cons (t:=21) rfl (Sub.nil _))))))) (.cons .here (by rw [tT_s hk hy]) (.cons .here rfl (Pick.same (by rw [tT_s hk hy];rfl))))
  intro c0'
  obtain rfl:k=t.ways.l.length:=by omega
  refine RunC.exit ?_
  refine RunE.pass_exit ?_
  refine RunE.pass_exit ?_
  refine RunE.block_here ?_
  refine st ?_
  refine lv (Val.fieldAddr rfl fld_25_3) ?_
  refine lv (Val.load_one rfl (.tail _ (.head _)) ty_22 rfl) ?_
  refine RunL.callG (isCall_value rfl rfl ent_87) rfl rfl rfl (fun w hm=>(trow_calls t wStay t.stay b3 b1 x _ W w hL hm kI (by decide) (hv.part hT (all_stay t)) (by omega))) (fun z33 hz33=>?_)
  
  refine st ?_
  refine lv (Val.fieldAddr rfl fld_25_4) ?_
  refine lv (Val.load_one rfl (.tail _ (.head _)) ty_22 rfl) ?_
  refine RunL.callG (isCall_value rfl rfl ent_87) rfl rfl rfl (fun w hm=>(trow_calls t wLight t.light b3 b1 z33 _ W w hL hm hz33 (by decide) (hv.part hT (all_light t)) (by rw [List.length_append];omega))) (fun z37 hz37=>?_)
  
  refine st ?_
  refine RunL.callG (isCall_func rfl ent_90) rfl rfl rfl (fun w hm=>(bstring_calls b3 (buS b3) z37 _ [(b1,trO t)] W w (hm.pick (Pick.cnt fun x=>by simp only [nC];omega)) (.inr rfl) hz37)) (fun z38 hz38=>?_)
  
  refine st ?_
  refine RunC.ret ?_
  exact RunE.retG () trivial (.r1 rfl (.tmp rfl)) (by rw [tour_text]) .nil
end Go.Proofs.YtleamcmljcdapaaGreatDoor
namespace Go.Proofs.YtleamcmljcdapaaGreatDoor
open Go Go.Eng
theorem arr1_176:arr1B Tryz.prog 176=some 3:=by kernel_rfl
theorem ent_110:Enters Tryz.prog 110:=enters_of Tryz.func110 (by kernel_rfl) rfl
theorem ent_117:Enters Tryz.prog 117:=enters_of Tryz.func117 (by kernel_rfl) rfl
theorem noif_27:(Tryz.prog.underlying 27).any (fun t=>match t with | .interface _=>false | _=>true)=true:=by kernel_rfl
theorem places_176:placesB Tryz.prog 176=some [(0,1),(1,1),(2,1)]:=by kernel_rfl
theorem ty_176:tyB Tryz.prog 176=some (true,3):=by kernel_rfl
theorem zero_176:zeroB Tryz.prog 176=some [.string ⟨#[]⟩,.string ⟨#[]⟩,.string ⟨#[]⟩]:=by kernel_rfl
theorem zero_98:zeroB Tryz.prog 98=some [.int .i64 0,.int .i64 0,.int .i64 0,.int .i64 0]:=by kernel_rfl
end Go.Proofs.YtleamcmljcdapaaGreatDoor
namespace Go.Bk
open Go Go.Eng Go.RowKit
def kindW (k:Int):Str:=if k=1 then wBack else if k=2 then wLook else wTake
structure LnV (l:Ln):Prop where
  kind:l.kind=0∨l.kind=1∨l.kind=2
  card:In64 l.card
  person:In64 l.person
  slot:In64 l.slot
theorem kindW_len (k:Int):(kindW k).length≤40:=by
  unfold kindW
  split
  · decide
  · split <;> decide
theorem it50 {n:Int} (h:In64 n):(Lib.itoa n).length≤50:=Nat.le_trans (itoa_len h) (by decide)
theorem loanS_len {l:Ln} (h:LnV l):(loanS l).length≤154:=by
  have h1:=it50 h.card
  have h2:=it50 h.person
  have h3:=it50 h.slot
  have key:∀ a b c:Str,a.length≤50→b.length≤50→c.length≤50→(lineS [a,b,c]).length≤154:=fun a b c ha hb hc=>by
    have:=lineS_len (ws:=[a,b,c]) (fun x hx=>by
      simp only [List.mem_cons,List.not_mem_nil,or_false] at hx
      rcases hx with rfl | rfl | rfl <;> assumption)
    simpa using this
  unfold loanS
  split
  · split
    · exact key _ _ _ (by decide) h3 (by decide)
    · exact key _ _ _ (by decide) h3 h1
  · exact key _ _ _ (by split <;> decide) h1 h2
structure CbV (c:CbA):Prop where
  slots:In64 c.slots
  wrong:In64 c.wrong
  homes:c.homes.l.length≤5
  hom64:∀ n∈c.homes.l,In64 n
  loans:c.loans.l.length≤12
  each:∀ l∈c.loans.l,LnV l
theorem cab_v {c:CbA} (h:cabX c.pl=true):CbV c:=by
  simp only [cabX,Bool.and_eq_true,decide_eq_true_eq,within,Bool.not_eq_true',List.any_eq_false,Bool.not_eq_false] at h
  obtain ⟨⟨⟨⟨⟨h1,h2⟩,h3⟩,h4⟩,h5⟩,h6⟩:=h
  have e1:c.pl.slots=c.slots:=rfl
  have e2:c.pl.homes=c.homes.l:=rfl
  have e3:c.pl.wrong=c.wrong:=rfl
  have e4:c.pl.loans=c.loans.l:=rfl
  rw [e1] at h1
  rw [e2] at h2 h5
  rw [e3] at h3
  rw [e4] at h4 h6
  refine ⟨by unfold In64;omega,by unfold In64;omega,h2,fun n hn=>?_,h4,fun l hl=>?_⟩
  · obtain ⟨i,hi,rfl⟩:=List.getElem_of_mem hn
    unfold homesX at h5
    have h7:=List.all_eq_true.1 h5 i (List.mem_range.2 hi)
    simp only [Bool.and_eq_true,within,decide_eq_true_eq,e1,e2] at h7
    rw [List.getD_eq_getElem?_getD,List.getElem?_eq_getElem hi] at h7
    simp only [Option.getD_some] at h7
    unfold In64
    omega
  · have h7:loanX c.pl l=true:=by first | exact h6 l hl | simpa using h6 l hl
    unfold loanX at h7
    rw [e1,e2] at h7
    split at h7
    · simp only [within,Bool.and_eq_true,decide_eq_true_eq] at h7
      refine ⟨by omega,?_,?_,?_⟩ <;> unfold In64 <;> omega
    · split at h7
      · simp only [within,Bool.and_eq_true,Bool.or_eq_true,decide_eq_true_eq] at h7
        refine ⟨by omega,?_,?_,?_⟩ <;> unfold In64 <;> omega
      · cases h7
def cT (c:CbA) (k:Nat):Str:=lineS [wCab,Lib.itoa c.slots,Lib.itoa c.wrong]++lineS (wHomes::c.homes.l.map Lib.itoa)++((c.loans.l.take k).map loanS).flatten
theorem cT_s {c:CbA} {k:Nat} (hk:k < c.loans.l.length) {x:Ln} (hx:c.loans.l[k]=x):cT c (k + 1)=cT c k++loanS x:=by
  unfold cT
  rw [List.take_succ_eq_append_getElem hk,List.map_append,List.flatten_append,hx]
  simp
theorem cab_text (c:CbA):cabS c.pl=cT c c.loans.l.length:=by
  unfold cT cabS
  rw [List.take_length]
  rfl
theorem cab_l1 {c:CbA} (h:CbV c):(lineS [wCab,Lib.itoa c.slots,Lib.itoa c.wrong]).length≤1000:=by
  have:=lineS_len (ws:=[wCab,Lib.itoa c.slots,Lib.itoa c.wrong]) (fun x hx=>by
    simp only [List.mem_cons,List.not_mem_nil,or_false] at hx
    rcases hx with rfl | rfl | rfl
    · decide
    · exact it50 h.slots
    · exact it50 h.wrong)
  simp only [List.length_cons,List.length_nil] at this
  omega
theorem cab_l2 {c:CbA} (h:CbV c):(lineS (wHomes::c.homes.l.map Lib.itoa)).length≤1000:=by
  have:=lineS_len (ws:=wHomes::c.homes.l.map Lib.itoa) (fun x hx=>by
    rcases List.mem_cons.1 hx with rfl | hx
    · decide
    · obtain ⟨n,hn,rfl⟩:=List.mem_map.1 hx
      exact it50 (h.hom64 n hn))
  have h5:=h.homes
  simp only [List.length_cons,List.length_map] at this
  omega
theorem flat_len_le {α:Type} {f:α→Str} {m:Nat}:∀ {l:List α},(∀ x∈l,(f x).length≤m)→((l.map f).flatten).length≤l.length * m
  | [],_=>by simp
  | a::l,h=>by
    have h1:=h a (by simp)
    have ih:=flat_len_le (f:=f) (l:=l) (fun x hx=>h x (by simp [hx]))
    simp only [List.map_cons,List.flatten_cons,List.length_append,List.length_cons,Nat.add_mul]
    omega
theorem cT_len {c:CbA} (h:CbV c) (k:Nat):(cT c k).length≤2000 + 154 * 12:=by
  have h1:=cab_l1 h
  have h2:=cab_l2 h
  have h3:=flat_len_le (f:=loanS) (l:=c.loans.l.take k) (m:=154) (fun x hx=>loanS_len (h.each x (List.mem_of_mem_take hx)))
  have h4:=h.loans
  have h5:(c.loans.l.take k).length * 154≤12 * 154:=Nat.mul_le_mul_right _ (by rw [List.length_take];omega)
  unfold cT
  simp only [List.length_append]
  omega
end Go.Bk
namespace Go.Proofs.YtleamcmljcdapaaGreatDoor
open Go Go.Eng Go.Bk Go.RowKit

theorem loans_calls (W:World):Calls Tryz.prog 117 #[] W (Pure (.agg #[.string (bs wTake),.string (bs wBack),.string (bs wLook)]) W):=by
  refine calls_start Tryz.func117 rfl rfl ?_
  refine st ?_
  refine RunL.new (New.alloc zero_176) rfl rfl rfl (fun b0=>?_)
  refine st ?_
  refine lv (Val.build (parts:=[(0,.const (.string ⟨#[116,97,107,101]⟩)),(1,.const (.string ⟨#[98,97,99,107]⟩)),(2,.const (.string ⟨#[108,111,111,107]⟩))]) rfl zero_176 places_176 rfl) ?_
  refine RunL.sto (Sto.store rfl rfl .here ty_176 rfl rfl) rfl rfl ?_
  refine st ?_
  refine RunC.ret ?_
  exact RunE.retP (.r1 rfl (.agg rfl (.head _) ty_176 rfl)) (by first | rfl | simp)
theorem loan_calls (l:Ln) (h:LnV l) (W:World) (hL:Lw Tryz.prog W):Calls Tryz.prog 110 #[.agg l.cells.toArray] W (Pure (.string (bs (loanS l))) W):=by
  have hk:=h.kind
  refine calls_start Tryz.func110 rfl rfl ?_
  refine st ?_
  refine RunL.new (New.box rfl) rfl rfl rfl (fun b1=>?_)
  refine st ?_
  refine RunC.draw 3 fol_ (.cons .here rfl .nil) ?_
  refine va 1 rfl (Val.fieldAddr rfl fld_98_0) rfl rfl rfl (.cons .here rfl .nil) rfl ?_
  refine va 2 rfl (Val.load_one rfl (.head _) ty_3 rfl) rfl rfl rfl (.cons .here rfl .nil) rfl ?_
  refine RunA.one (i:=0) (by kernel_rfl) (by kernel_rfl) ?_
  refine RunI.callP rfl (isCall_func rfl ent_117) rfl rfl rfl (fun w hm=>loans_calls w) (RunK.toA (.cons .here rfl .nil) (.cons .here rfl .nil) rfl ?_)
  refine RunA.toB (by kernel_rfl) ?_
  refine RunB.one (i:=3) (by kernel_rfl) ?_
  refine RunI.val rfl (Val.index1 rfl rfl arr1_176 (by omega) (by omega) (show (#[Value.string (bs wTake),.string (bs wBack),.string (bs wLook)]:Array Value)[l.kind.toNat]? = some (.string (bs (kindW l.kind))) by rcases hk with h | h | h <;> rw [h] <;> rfl)) rfl rfl rfl (RunK.toB ?_)
  refine RunB.one (i:=4) (by kernel_rfl) ?_
  refine RunI.val rfl (Val.pure rfl) rfl rfl rfl (RunK.toB ?_)
  refine RunB.done (by kernel_rfl) ?_
  refine st ?_
  refine lv (Val.fieldAddr rfl fld_98_0) ?_
  refine lv (Val.load_one rfl (.head _) ty_3 rfl) ?_
  refine cn rfl ?_ ?_
  ·intro c0'
   refine st ?_
   refine lv (Val.makeInterface rfl noif_9) ?_
   refine lv (Val.fieldAddr rfl fld_98_1) ?_
   refine lv (Val.load_one rfl (.head _) ty_3 rfl) ?_
   refine lv (Val.makeInterface rfl noif_3) ?_
   refine lv (Val.fieldAddr rfl fld_98_2) ?_
   refine lv (Val.load_one rfl (.head _) ty_3 rfl) ?_
   refine lv (Val.makeInterface rfl noif_3) ?_
   refine RunL.new (New.buildSlice (parts:=[(0,.tmp 13),(1,.tmp 16),(2,.tmp 19)]) rfl sl_192 zero_20 rfl rfl rfl rfl) rfl rfl rfl (fun b20=>?_)
   refine RunL.callP (isCall_func rfl ent_89) rfl rfl rfl (fun w hm=>(linep_calls [Part.s (kindW l.kind),Part.n l.card,Part.n l.person] [kindW l.kind,Lib.itoa l.card,Lib.itoa l.person] rfl b20 w (hL.mono hm) (hm.at (.head _)) (by simp) (by intro p hp;simp only [List.mem_cons,List.not_mem_nil,or_false] at hp;rcases hp with rfl | rfl | rfl;exact kindW_len _;exact h.card;exact h.person) (by simp))) ?_
   refine st ?_
   refine RunC.ret ?_
   refine RunE.block_ret ?_
   refine RunE.pass_ret ?_
   exact RunE.retP (.r1 rfl (.tmp rfl)) (by have h2:¬ l.kind=2:=(by simpa using c0');unfold loanS kindW;rw [if_neg h2];rcases hk with h | h | h <;> simp_all)
  intro c0'
  refine st ?_
  refine lv (Val.fieldAddr rfl fld_98_1) ?_
  refine lv (Val.load_one rfl (.head _) ty_3 rfl) ?_
  refine cn rfl ?_ ?_
  ·intro c1'
   refine st ?_
   refine lv (Val.makeInterface rfl noif_9) ?_
   refine lv (Val.fieldAddr rfl fld_98_3) ?_
   refine lv (Val.load_one rfl (.head _) ty_3 rfl) ?_
   refine lv (Val.makeInterface rfl noif_3) ?_
   refine lv (Val.makeInterface rfl noif_9) ?_
   refine RunL.new (New.buildSlice (parts:=[(0,.tmp 27),(1,.tmp 30),(2,.tmp 31)]) rfl sl_192 zero_20 rfl rfl rfl rfl) rfl rfl rfl (fun b32=>?_)
   refine RunL.callP (isCall_func rfl ent_89) rfl rfl rfl (fun w hm=>(linep_calls [Part.s (kindW l.kind),Part.n l.slot,Part.s wNone] [kindW l.kind,Lib.itoa l.slot,wNone] rfl b32 w (hL.mono hm) (hm.at (.head _)) (by simp) (by intro p hp;simp only [List.mem_cons,List.not_mem_nil,or_false] at hp;rcases hp with rfl | rfl | rfl;exact kindW_len _;exact h.slot;exact (show wNone.length≤40 by decide)) (by simp))) ?_
   refine st ?_
   refine RunC.ret ?_
   refine RunE.block_ret ?_
   refine RunE.pass_ret ?_
   exact RunE.retP (.r1 rfl (.tmp rfl)) (by have h2:l.kind=2:=(by simpa using c0');have h3:l.card = -1:=(by simpa using c1');unfold loanS kindW;rw [if_pos h2,if_pos h3];simp [h2])
  intro c1'
  refine st ?_
  refine lv (Val.makeInterface rfl noif_9) ?_
  refine lv (Val.fieldAddr rfl fld_98_3) ?_
  refine lv (Val.load_one rfl (.head _) ty_3 rfl) ?_
  refine lv (Val.makeInterface rfl noif_3) ?_
  refine lv (Val.fieldAddr rfl fld_98_1) ?_
  refine lv (Val.load_one rfl (.head _) ty_3 rfl) ?_
  refine lv (Val.makeInterface rfl noif_3) ?_
  refine RunL.new (New.buildSlice (parts:=[(0,.tmp 35),(1,.tmp 38),(2,.tmp 41)]) rfl sl_192 zero_20 rfl rfl rfl rfl) rfl rfl rfl (fun b42=>?_)
  refine RunL.callP (isCall_func rfl ent_89) rfl rfl rfl (fun w hm=>(linep_calls [Part.s (kindW l.kind),Part.n l.slot,Part.n l.card] [kindW l.kind,Lib.itoa l.slot,Lib.itoa l.card] rfl b42 w (hL.mono hm) (hm.at (.head _)) (by simp) (by intro p hp;simp only [List.mem_cons,List.not_mem_nil,or_false] at hp;rcases hp with rfl | rfl | rfl;exact kindW_len _;exact h.slot;exact h.card) (by simp))) ?_
  refine st ?_
  refine RunC.ret ?_
  exact RunE.retP (.r1 rfl (.tmp rfl)) (by have h2:l.kind=2:=(by simpa using c0');have h3:¬ l.card = -1:=(by simpa using c1');unfold loanS kindW;rw [if_pos h2,if_neg h3];simp [h2])
theorem cabT_calls (c:CbA) (W:World) (hL:Lw Tryz.prog W) (hC:CbOk W c) (hv:CbV c):Calls Tryz.prog 109 #[c.v] W (Pure (.string (bs (cabS c.pl))) W):=by
  have hl:=hv.loans
  have hh:=hv.homes
  have hl1:=cab_l1 hv
  have hl2:=cab_l2 hv
  have e0:cT c 0=lineS [wCab,Lib.itoa c.slots,Lib.itoa c.wrong]++lineS (wHomes::c.homes.l.map Lib.itoa):=by simp [cT]
  have hlen:=cT_len hv
  refine calls_start Tryz.func109 rfl rfl ?_
  refine st ?_
  refine RunL.new (New.box rfl) rfl rfl rfl (fun b1=>?_)
  refine vp rfl rfl rfl rfl ?_
  refine nnx ?_
  refine RunC.seq ?_
  apply RunC.drawJ (J:=J2 _ _ _ _ _ _) 14 fol_ (.cons .here rfl .nil)
  ·refine va 0 rfl (Val.makeInterface rfl noif_9) rfl rfl rfl (.cons .here rfl .nil) rfl ?_
   refine va 1 rfl (Val.fieldAddr rfl fld_30_0) rfl rfl rfl (.cons .here rfl .nil) rfl ?_
   refine va 2 rfl (Val.load_one rfl (.head _) ty_3 rfl) rfl rfl rfl (.cons .here rfl .nil) rfl ?_
   refine va 3 rfl (Val.makeInterface rfl noif_3) rfl rfl rfl (.cons .here rfl .nil) rfl ?_
   refine va 4 rfl (Val.fieldAddr rfl fld_30_2) rfl rfl rfl (.cons .here rfl .nil) rfl ?_
   refine va 5 rfl (Val.load_one rfl (.head _) ty_3 rfl) rfl rfl rfl (.cons .here rfl .nil) rfl ?_
   refine va 6 rfl (Val.makeInterface rfl noif_3) rfl rfl rfl (.cons .here rfl .nil) rfl ?_
   refine va 9 rfl (Val.makeInterface rfl noif_9) rfl rfl rfl (.cons .here rfl .nil) rfl ?_
   refine va 10 rfl (Val.fieldAddr rfl fld_30_1) rfl rfl rfl (.cons .here rfl .nil) rfl ?_
   refine va 11 rfl (Val.load_one rfl (.head _) ty_27 rfl) rfl rfl rfl (.cons .here rfl .nil) rfl ?_
   refine va 12 rfl (Val.makeInterface rfl noif_27) rfl rfl rfl (.cons .here rfl .nil) rfl ?_
   refine RunA.all (rs:=[7,13]) (by kernel_rfl) (by simp) (by kernel_rfl) (fun m hm=>?_)
   simp only [List.mem_cons,List.not_mem_nil,or_false] at hm
   rcases hm with rfl | rfl
   ·refine RunI.new rfl (New.buildSlice (parts:=[(0,.tmp 6),(1,.tmp 9),(2,.tmp 12)]) rfl sl_192 zero_20 rfl rfl rfl rfl) rfl rfl rfl (fun b13=>(RunK.toA (.cons .here rfl (.cons .here rfl .nil)) (.cons (.there .here) rfl .nil) rfl ?_))
    refine RunA.all (rs:=[8,13]) (by kernel_rfl) (by simp) (by kernel_rfl) (fun m hm=>?_)
    simp only [List.mem_cons,List.not_mem_nil,or_false] at hm
    rcases hm with rfl | rfl
    ·refine RunI.callP rfl (isCall_func rfl ent_89) rfl rfl rfl (fun w hm=>(linep_calls [Part.s wCab,Part.n c.slots,Part.n c.wrong] [wCab,Lib.itoa c.slots,Lib.itoa c.wrong] rfl b13 w (hL.mono hm) (hm.at (.head _)) (by simp) (by intro p hp;simp only [List.mem_cons,List.not_mem_nil,or_false] at hp;rcases hp with rfl | rfl | rfl;exact (show wCab.length≤40 by decide);exact hv.slots;exact hv.wrong) (by simp))) (RunK.toA (.cons .here rfl (.cons .here rfl .nil)) (.cons .here rfl (.cons .here rfl .nil)) rfl ?_)
     refine RunA.one (i:=13) (by kernel_rfl) (by kernel_rfl) ?_
     refine RunI.new rfl (New.buildSlice (parts:=[(0,.tmp 15),(1,.tmp 18)]) rfl sl_192 zero_20 rfl rfl rfl rfl) rfl rfl rfl (fun b19=>(RunK.toA (.cons .here rfl (.cons .here rfl (.cons .here rfl .nil))) (.cons (.there .here) rfl (.cons (.there .here) rfl .nil)) rfl ?_))
     refine RunA.toB (by kernel_rfl) ?_
     refine RunB.one (i:=14) (by kernel_rfl) ?_
     refine RunI.callP rfl (isCall_func rfl ent_89) rfl rfl rfl (fun w hm=>(linep_calls [Part.s wHomes,Part.ns c.homes] (wHomes::c.homes.l.map Lib.itoa) (by simp [Part.words]) b19 w (hL.mono hm) (hm.at (.head _)) (by simp) (by intro p hp;simp only [List.mem_cons,List.not_mem_nil,or_false] at hp;rcases hp with rfl | rfl;exact (show wHomes.length≤40 by decide);exact ⟨hC.homes.mono0 (by decide) hm,by omega,hv.hom64⟩) (by simp;omega))) (RunK.toB ?_)
     refine RunB.one (i:=15) (by kernel_rfl) ?_
     refine RunI.val rfl (Val.strAdd rfl rfl (by omega)) rfl rfl rfl (RunK.toB ?_)
     refine RunB.one (i:=16) (by kernel_rfl) ?_
     refine RunI.val rfl (Val.pure rfl) rfl rfl rfl (RunK.toB ?_)
     refine RunB.done (by kernel_rfl) ?_
     exact RunE.join2 b13 b19 (Sub.refl _) (Pick.refl _)
    refine RunI.new rfl (New.buildSlice (parts:=[(0,.tmp 15),(1,.tmp 18)]) rfl sl_192 zero_20 rfl rfl rfl rfl) rfl rfl rfl (fun b19=>(RunK.toA (.cons .here rfl (.cons .here rfl (.cons .here rfl .nil))) (.cons (.there .here) rfl (.cons (.there .here) rfl .nil)) rfl ?_))
    refine RunA.one (i:=8) (by kernel_rfl) (by kernel_rfl) ?_
    refine RunI.callP rfl (isCall_func rfl ent_89) rfl rfl rfl (fun w hm=>(linep_calls [Part.s wCab,Part.n c.slots,Part.n c.wrong] [wCab,Lib.itoa c.slots,Lib.itoa c.wrong] rfl b13 w (hL.mono hm) (hm.at (.tail _ (.head _))) (by simp) (by intro p hp;simp only [List.mem_cons,List.not_mem_nil,or_false] at hp;rcases hp with rfl | rfl | rfl;exact (show wCab.length≤40 by decide);exact hv.slots;exact hv.wrong) (by simp))) (RunK.toA (.cons .here rfl (.cons .here rfl (.cons .here rfl .nil))) (.cons .here rfl (.cons .here rfl (.cons .here rfl .nil))) rfl ?_)
    refine RunA.toB (by kernel_rfl) ?_
    refine RunB.one (i:=14) (by kernel_rfl) ?_
    refine RunI.callP rfl (isCall_func rfl ent_89) rfl rfl rfl (fun w hm=>(linep_calls [Part.s wHomes,Part.ns c.homes] (wHomes::c.homes.l.map Lib.itoa) (by simp [Part.words]) b19 w (hL.mono hm) (hm.at (.head _)) (by simp) (by intro p hp;simp only [List.mem_cons,List.not_mem_nil,or_false] at hp;rcases hp with rfl | rfl;exact (show wHomes.length≤40 by decide);exact ⟨hC.homes.mono0 (by decide) hm,by omega,hv.hom64⟩) (by simp;omega))) (RunK.toB ?_)
    refine RunB.one (i:=15) (by kernel_rfl) ?_
    refine RunI.val rfl (Val.strAdd rfl rfl (by omega)) rfl rfl rfl (RunK.toB ?_)
    refine RunB.one (i:=16) (by kernel_rfl) ?_
    refine RunI.val rfl (Val.pure rfl) rfl rfl rfl (RunK.toB ?_)
    refine RunB.done (by kernel_rfl) ?_
    exact RunE.join2 b13 b19 (Sub.cons (t:=3) rfl (Sub.cons (t:=21) rfl (Sub.cons (t:=20) rfl (Sub.cons (t:=19) rfl (Sub.cons (t:=14) rfl (Sub.cons (t:=13) rfl (Sub.cons (t:=18) rfl (Sub.cons (t:=17) rfl (Sub.cons (t:=16) rfl (Sub.cons (t:=15) rfl (Sub.cons (t:=12) rfl (Sub.cons (t:=11) rfl (Sub.cons (t:=10) rfl (Sub.cons (t:=9) rfl (Sub.cons (t:=8) rfl (Sub.cons (t:=7) rfl (Sub.cons (t:=6) rfl (Sub.skip rfl (Sub.skip rfl (Sub.skip rfl (Sub.skip rfl (Sub.skip rfl (Sub.skip rfl (Sub.skip rfl (Sub.skip rfl (Sub.skip rfl (Sub.skip rfl (Sub.skip rfl (Sub.skip rfl (Sub.skip rfl (Sub.skip rfl (Sub.skip rfl (Sub.skip rfl (Sub.skip rfl (Sub.refl _))))))))))))))))))))))))))))))))))) (.cons .here rfl (.cons .here rfl (.cons .here rfl .nil)))
   refine RunI.new rfl (New.buildSlice (parts:=[(0,.tmp 15),(1,.tmp 18)]) rfl sl_192 zero_20 rfl rfl rfl rfl) rfl rfl rfl (fun b19=>(RunK.toA (.cons .here rfl (.cons .here rfl .nil)) (.cons (.there .here) rfl .nil) rfl ?_))
   refine RunA.one (i:=7) (by kernel_rfl) (by kernel_rfl) ?_
   refine RunI.new rfl (New.buildSlice (parts:=[(0,.tmp 6),(1,.tmp 9),(2,.tmp 12)]) rfl sl_192 zero_20 rfl rfl rfl rfl) rfl rfl rfl (fun b13=>(RunK.toA (.cons .here rfl (.cons .here rfl (.cons .here rfl .nil))) (.cons (.there .here) rfl (.cons (.there .here) rfl .nil)) rfl ?_))
   refine RunA.one (i:=8) (by kernel_rfl) (by kernel_rfl) ?_
   refine RunI.callP rfl (isCall_func rfl ent_89) rfl rfl rfl (fun w hm=>(linep_calls [Part.s wCab,Part.n c.slots,Part.n c.wrong] [wCab,Lib.itoa c.slots,Lib.itoa c.wrong] rfl b13 w (hL.mono hm) (hm.at (.head _)) (by simp) (by intro p hp;simp only [List.mem_cons,List.not_mem_nil,or_false] at hp;rcases hp with rfl | rfl | rfl;exact (show wCab.length≤40 by decide);exact hv.slots;exact hv.wrong) (by simp))) (RunK.toA (.cons .here rfl (.cons .here rfl (.cons .here rfl .nil))) (.cons .here rfl (.cons .here rfl (.cons .here rfl .nil))) rfl ?_)
   refine RunA.toB (by kernel_rfl) ?_
   refine RunB.one (i:=14) (by kernel_rfl) ?_
   refine RunI.callP rfl (isCall_func rfl ent_89) rfl rfl rfl (fun w hm=>(linep_calls [Part.s wHomes,Part.ns c.homes] (wHomes::c.homes.l.map Lib.itoa) (by simp [Part.words]) b19 w (hL.mono hm) (hm.at (.tail _ (.head _))) (by simp) (by intro p hp;simp only [List.mem_cons,List.not_mem_nil,or_false] at hp;rcases hp with rfl | rfl;exact (show wHomes.length≤40 by decide);exact ⟨hC.homes.mono0 (by decide) hm,by omega,hv.hom64⟩) (by simp;omega))) (RunK.toB ?_)
   refine RunB.one (i:=15) (by kernel_rfl) ?_
   refine RunI.val rfl (Val.strAdd rfl rfl (by omega)) rfl rfl rfl (RunK.toB ?_)
   refine RunB.one (i:=16) (by kernel_rfl) ?_
   refine RunI.val rfl (Val.pure rfl) rfl rfl rfl (RunK.toB ?_)
   refine RunB.done (by kernel_rfl) ?_
   exact RunE.join2 b13 b19 (Sub.cons (t:=3) rfl (Sub.cons (t:=21) rfl (Sub.cons (t:=20) rfl (Sub.cons (t:=19) rfl (Sub.cons (t:=14) rfl (Sub.cons (t:=13) rfl (Sub.cons (t:=18) rfl (Sub.cons (t:=17) rfl (Sub.cons (t:=16) rfl (Sub.cons (t:=15) rfl (Sub.cons (t:=12) rfl (Sub.cons (t:=11) rfl (Sub.cons (t:=10) rfl (Sub.cons (t:=9) rfl (Sub.cons (t:=8) rfl (Sub.cons (t:=7) rfl (Sub.cons (t:=6) rfl (Sub.skip rfl (Sub.skip rfl (Sub.skip rfl (Sub.skip rfl (Sub.skip rfl (Sub.skip rfl (Sub.skip rfl (Sub.skip rfl (Sub.skip rfl (Sub.skip rfl (Sub.skip rfl (Sub.skip rfl (Sub.skip rfl (Sub.skip rfl (Sub.skip rfl (Sub.skip rfl (Sub.skip rfl (Sub.refl _))))))))))))))))))))))))))))))))))) (.cons (.there .here) rfl (.cons .here rfl (.cons .here rfl .nil)))
  refine J2.out (fun b13 b19=>?_)
  refine st ?_
  refine lv (Val.fieldAddr rfl fld_30_3) ?_
  refine lv (Val.load_one rfl (.tail _ (.tail _ (.head _))) ty_28 rfl) ?_
  refine lv (Val.len_sl rfl sl_28) ?_
  refine RunC.loopK (c.loans.l.length) (fun k q=>(25,.int .i64 (k:Int))::(3,.string (bs (cT c k)))::q) (fun _=>_) (fun _=>[]) (fun _=>True) trivial rfl (Sub.consE (t:=25) rfl rfl (Sub.consE (t:=3) rfl (by rw [e0]) (Sub.cons (t:=1) rfl (Sub.cons (t:=23) rfl (Sub.cons (t:=24) rfl (Sub.nil _)))))) (.cons .here rfl (.cons .here rfl (.cons .here rfl .nil))) ?_
  intro k kN kI
  clear kI
  refine st ?_
  refine cn rfl ?_ ?_
  ·intro c0'
   have hk:k < c.loans.l.length:=by omega
   obtain ⟨x,hx⟩:∃ x,c.loans.l[k]=x:=⟨_,rfl⟩
   refine st ?_
   refine lv (Val.indexAddr_slp rfl rfl sl_28 (by omega) (by omega) (Sl.ptrM hC.loans hk)) ?_
   refine lv (Val.load_gen rfl (fun w hm=>Sl.loadX hC.loans (by decide) hm (by simp) ty_98 hk hx)) ?_
   refine RunL.new (New.alloc zero_98) rfl rfl rfl (fun b5=>?_)
   refine RunL.sto (Sto.store rfl rfl .here ty_98 rfl rfl) rfl rfl ?_
   refine st ?_
   refine lv (Val.load_agg rfl (.head _) ty_98 rfl) ?_
   refine RunL.callP (isCall_func rfl ent_110) rfl rfl rfl (fun w hm=>(hx ▸ loan_calls c.loans.l[k] (hv.each _ (List.getElem_mem hk)) w (hL.mono hm))) ?_
   refine lv (Val.strAdd rfl rfl (by have:=loanS_len (hv.each _ (List.getElem_mem hk));rw [hx] at this;have:=hlen k;omega)) ?_
   refine lv (Val.add rfl rfl (IntWalk.i64_in _ ⟨by omega,by omega⟩)) ?_
   exact RunE.round (by omega) trivial rfl (Sub.consE (t:=25) rfl rfl (Sub.consE (t:=3) rfl (by rw [cT_s hk hx]) (Sub.cons (t:=1) rfl (Sub.cons (t:=23) rfl (Sub.cons (t:=24) rfl (Sub.nil _)))))) (.cons (.there .here) rfl (.cons (.there .here) rfl (.cons (.there .here) rfl .nil)))
  intro c0'
  obtain rfl:k=c.loans.l.length:=by omega
  refine RunC.exit ?_
  refine RunE.pass_exit ?_
  refine RunE.pass_exit ?_
  refine RunE.block_here ?_
  refine st ?_
  refine RunC.ret ?_
  exact RunE.retP (.r1 rfl (.tmp rfl)) (by rw [cab_text])
end Go.Proofs.YtleamcmljcdapaaGreatDoor
namespace Go.Proofs.YtleamcmljcdapaaGreatDoor
open Go Go.Eng
theorem zero_109:zeroB Tryz.prog 109=some [.int .i64 0,.int .i64 0,.int .i64 0]:=by kernel_rfl
theorem zero_111:zeroB Tryz.prog 111=some [.int .i64 0,.int .i64 0,.int .i64 0,.int .i64 0]:=by kernel_rfl
end Go.Proofs.YtleamcmljcdapaaGreatDoor
namespace Go.Bk
open Go Go.Eng Go.RowKit
structure RyV (r:RyA):Prop where
  terms:r.terms.l.length≤4
  paid:r.paid.l.length=r.terms.l.length
  prices:r.prices.l.length≤4
  shares:r.shares.l.length=r.prices.l.length
  reports:r.reports.l.length≤20
  tm:∀ t∈r.terms.l,In64 t.first∧In64 t.upto∧In64 t.beyond
  pd:∀ n∈r.paid.l,In64 n
  pr:∀ n∈r.prices.l,In64 n
  sh:∀ x∈r.shares.l,x.l.length≤5∧∀ n∈x.l,In64 n
  rp:∀ x∈r.reports.l,In64 x.agent∧In64 x.kind∧In64 x.first∧In64 x.last
theorem any_no {α:Type} {p:α→Bool} {l:List α} (h:l.any p=false) {x:α} (hx:x∈l):p x=false:=by
  rw [List.any_eq_false] at h
  simpa using h x hx
theorem roy_v {r:RyA} (h:royalX r.pl=true):RyV r:=by
  simp only [royalX,Bool.and_eq_true,Bool.not_eq_true',decide_eq_true_eq] at h
  obtain ⟨⟨⟨⟨⟨⟨⟨⟨⟨h1,h2⟩,h3⟩,h4⟩,h5⟩,h6⟩,h7⟩,h8⟩,h9⟩,h10⟩:=h
  have e:r.pl.shares.length=r.shares.l.length:=by simp [RyA.pl]
  rw [e] at h4
  rw [ry_rows] at h9
  refine ⟨h1,h2,h3,h4,h5,fun t ht=>?_,fun n hn=>?_,fun n hn=>?_,fun x hx=>?_,fun x hx=>?_⟩
  · have h:=any_no h6 ht
    simp only [badTm,within,Bool.or_eq_false_iff,Bool.not_eq_false',Bool.and_eq_true,decide_eq_true_eq] at h
    refine ⟨?_,?_,?_⟩ <;> unfold In64 <;> omega
  · have h:=any_no h7 hn
    simp only [within,Bool.not_eq_false',Bool.and_eq_true,decide_eq_true_eq] at h
    unfold In64;omega
  · have h:=any_no h8 hn
    simp only [within,Bool.not_eq_false',Bool.and_eq_true,decide_eq_true_eq] at h
    unfold In64;omega
  · have h:=any_no h9 hx
    simp only [sharingX,within,Bool.not_eq_false',Bool.and_eq_true,decide_eq_true_eq,List.all_eq_true] at h
    obtain ⟨⟨ha,hb⟩,hc⟩:=h
    refine ⟨by omega,fun n hn=>?_⟩
    have:=ha n hn
    unfold In64;omega
  · have h:=any_no h10 hx
    have e1:r.pl.terms.length=r.terms.l.length:=rfl
    have e2:r.pl.prices.length=r.prices.l.length:=rfl
    rw [badRp,e1,e2] at h
    have e3:r.pl.terms.length≤4:=h1
    have e4:r.pl.prices.length≤4:=h3
    rw [e1] at e3
    rw [e2] at e4
    simp only [within,Bool.or_eq_false_iff,Bool.not_eq_false',Bool.and_eq_true,decide_eq_true_eq,decide_eq_false_iff_not] at h
    refine ⟨?_,?_,?_,?_⟩ <;> unfold In64 <;> omega
theorem l5 {a b c d e:Str} (ha:a.length≤50) (hb:b.length≤50) (hc:c.length≤50) (hd:d.length≤50) (he:e.length≤50):(lineS [a,b,c,d,e]).length≤256:=by
  have:=lineS_len (ws:=[a,b,c,d,e]) (fun x hx=>by
    simp only [List.mem_cons,List.not_mem_nil,or_false] at hx
    rcases hx with rfl | rfl | rfl | rfl | rfl <;> assumption)
  simpa using this
theorem agentS_len {r:RyA} (h:RyV r) {t:Tm} {n:Int} (ht:t∈r.terms.l) (hn:n∈r.paid.l):(agentS t n).length≤256 :=
  l5 (by decide) (it50 (h.tm t ht).1) (it50 (h.tm t ht).2.1) (it50 (h.tm t ht).2.2) (it50 (h.pd n hn))
theorem reportS_len {r:RyA} (h:RyV r) {x:Rp} (hx:x∈r.reports.l):(reportS x).length≤256 :=
  l5 (by decide) (it50 (h.rp x hx).1) (it50 (h.rp x hx).2.1) (it50 (h.rp x hx).2.2.1) (it50 (h.rp x hx).2.2.2)
theorem kindS_len {r:RyA} (h:RyV r) {n:Int} {x:SA Int} (hn:n∈r.prices.l) (hx:x∈r.shares.l):(kindS n x.l).length≤358:=by
  have h1:=lineS_len (ws:=wKind::Lib.itoa n::x.l.map Lib.itoa) (fun y hy=>by
    rcases List.mem_cons.1 hy with rfl | hy
    · decide
    · rcases List.mem_cons.1 hy with rfl | hy
      · exact it50 (h.pr n hn)
      · obtain ⟨m,hm,rfl⟩:=List.mem_map.1 hy
        exact it50 ((h.sh x hx).2 m hm))
  have h2:=(h.sh x hx).1
  unfold kindS
  simp only [List.length_cons,List.length_map] at h1
  omega
def rT1 (r:RyA) (k:Nat):Str:=lineS [wRoyal]++(((r.terms.l.zip r.paid.l).take k).map fun x=>agentS x.1 x.2).flatten
def rT2 (r:RyA) (k:Nat):Str:=rT1 r r.terms.l.length++(((r.prices.l.zip r.shares.l).take k).map fun x=>kindS x.1 x.2.l).flatten
def rT3 (r:RyA) (k:Nat):Str:=rT2 r r.prices.l.length++((r.reports.l.take k).map reportS).flatten
theorem zip_take {α β γ:Type} {f:α×β→List γ} {l:List α} {m:List β} {k:Nat} (hk:k < l.length) (hm:m.length=l.length) {x:α} {y:β} (hx:l[k]=x) (hy:m[k]=y) :
    (((l.zip m).take (k + 1)).map f).flatten=(((l.zip m).take k).map f).flatten++f (x,y):=by
  have hz:k < (l.zip m).length:=by rw [List.length_zip];omega
  rw [List.take_succ_eq_append_getElem hz,List.map_append,List.flatten_append,List.getElem_zip,hx,hy]
  simp
theorem rT1_s {r:RyA} (hv:RyV r) {k:Nat} (hk:k < r.terms.l.length) {x:Tm} {y:Int} (hx:r.terms.l[k]=x) (hy:r.paid.l[k]'(by rw [hv.paid];exact hk)=y):rT1 r (k + 1)=rT1 r k++agentS x y:=by
  unfold rT1
  rw [zip_take hk hv.paid hx hy,List.append_assoc]
theorem rT2_s {r:RyA} (hv:RyV r) {k:Nat} (hk:k < r.prices.l.length) {x:Int} {y:SA Int} (hx:r.prices.l[k]=x) (hy:r.shares.l[k]'(by rw [hv.shares];exact hk)=y):rT2 r (k + 1)=rT2 r k++kindS x y.l:=by
  unfold rT2
  rw [zip_take hk hv.shares hx hy,List.append_assoc]
theorem rT3_s {r:RyA} {k:Nat} (hk:k < r.reports.l.length) {x:Rp} (hx:r.reports.l[k]=x):rT3 r (k + 1)=rT3 r k++reportS x:=by
  unfold rT3
  rw [List.take_succ_eq_append_getElem hk,List.map_append,List.flatten_append,hx]
  simp
theorem zip_map_r {α β γ δ:Type} (f:α×γ→δ) (g:β→γ):∀ (l:List α) (m:List β),(l.zip (m.map g)).map f=(l.zip m).map fun x=>f (x.1,g x.2)
  | [],_=>rfl
  | _::_,[]=>rfl
  | a::l,b::m=>by simp [zip_map_r f g l m]
theorem roy_text {r:RyA} (hv:RyV r):royalS r.pl=rT3 r r.reports.l.length:=by
  unfold rT3 rT2 rT1 royalS
  have h1:(r.terms.l.zip r.paid.l).length=r.terms.l.length:=by rw [List.length_zip,hv.paid,Nat.min_self]
  have h2:(r.prices.l.zip r.shares.l).length=r.prices.l.length:=by rw [List.length_zip,hv.shares,Nat.min_self]
  rw [List.take_length,← h1,List.take_length,← h2,List.take_length]
  have e:r.pl.shares=r.shares.l.map (·.l):=rfl
  rw [e,zip_map_r]
  rfl
theorem rT1_len {r:RyA} (hv:RyV r) (k:Nat):(rT1 r k).length≤52 + 4 * 256:=by
  have h0:(lineS [wRoyal]).length≤52:=by decide
  have h1:=flat_len_le (f:=fun x:Tm×Int=>agentS x.1 x.2) (l:=(r.terms.l.zip r.paid.l).take k) (m:=256) (fun x hx=>by
    have h2:=List.of_mem_zip (List.mem_of_mem_take hx)
    exact agentS_len hv h2.1 h2.2)
  have h2:((r.terms.l.zip r.paid.l).take k).length * 256≤4 * 256:=Nat.mul_le_mul_right _ (by have:=hv.terms;rw [List.length_take,List.length_zip];omega)
  unfold rT1
  rw [List.length_append]
  omega
theorem rT2_len {r:RyA} (hv:RyV r) (k:Nat):(rT2 r k).length≤52 + 4 * 256 + 4 * 358:=by
  have h0:=rT1_len hv r.terms.l.length
  have h1:=flat_len_le (f:=fun x:Int×SA Int=>kindS x.1 x.2.l) (l:=(r.prices.l.zip r.shares.l).take k) (m:=358) (fun x hx=>by
    have h2:=List.of_mem_zip (List.mem_of_mem_take hx)
    exact kindS_len hv h2.1 h2.2)
  have h2:((r.prices.l.zip r.shares.l).take k).length * 358≤4 * 358:=Nat.mul_le_mul_right _ (by have:=hv.prices;rw [List.length_take,List.length_zip];omega)
  unfold rT2
  rw [List.length_append]
  omega
theorem rT3_len {r:RyA} (hv:RyV r) (k:Nat):(rT3 r k).length≤52 + 4 * 256 + 4 * 358 + 20 * 256:=by
  have h0:=rT2_len hv r.prices.l.length
  have h1:=flat_len_le (f:=reportS) (l:=r.reports.l.take k) (m:=256) (fun x hx=>reportS_len hv (List.mem_of_mem_take hx))
  have h2:(r.reports.l.take k).length * 256≤20 * 256:=Nat.mul_le_mul_right _ (by have:=hv.reports;rw [List.length_take];omega)
  unfold rT3
  rw [List.length_append]
  omega
end Go.Bk
namespace Go.Proofs.YtleamcmljcdapaaGreatDoor
open Go Go.Eng Go.Bk Go.RowKit

theorem royT_calls (r:RyA) (W:World) (hL:Lw Tryz.prog W) (hR:RyOk W r) (hv:RyV r):Calls Tryz.prog 121 #[r.v] W (Pure (.string (bs (royalS r.pl))) W):=by
  obtain ⟨v1,v2,v3,v4,v5,_,_,_,_,_⟩:=id hv
  have e0:rT1 r 0=lineS [wRoyal]:=by simp [rT1]
  have e1:rT2 r 0=rT1 r r.terms.l.length:=by simp [rT2]
  have e2:rT3 r 0=rT2 r r.prices.l.length:=by simp [rT3]
  have hl1:=rT1_len hv
  have hl2:=rT2_len hv
  have hl3:=rT3_len hv
  refine calls_start Tryz.func121 rfl rfl ?_
  refine st ?_
  refine RunL.new (New.box rfl) rfl rfl rfl (fun b1=>?_)
  refine st ?_
  refine lv (Val.makeInterface rfl noif_9) ?_
  refine RunL.new (New.buildSlice (parts:=[(0,.tmp 10)]) rfl sl_192 zero_20 rfl rfl rfl rfl) rfl rfl rfl (fun b11=>?_)
  refine RunL.callP (isCall_func rfl ent_89) rfl rfl rfl (fun w hm=>(linep_calls [Part.s wRoyal] [wRoyal] rfl b11 w (hL.mono hm) (hm.at (.head _)) (by simp) (by intro p hp;simp only [List.mem_cons,List.not_mem_nil,or_false] at hp;obtain rfl:=hp;exact (show wRoyal.length≤40 by decide)) (by simp))) ?_
  refine st ?_
  refine lv (Val.fieldAddr rfl fld_35_0) ?_
  refine lv (Val.load_one rfl (.tail _ (.head _)) ty_31 rfl) ?_
  refine lv (Val.len_sl rfl sl_31) ?_
  refine RunC.loopK (r.terms.l.length) (fun k q=>(16,.int .i64 (k:Int))::(3,.string (bs (rT1 r k)))::q) (fun _=>_) (fun _=>[]) (fun _=>True) trivial rfl (Sub.consE (t:=16) rfl rfl (Sub.consE (t:=3) rfl (by rw [e0]) (Sub.cons (t:=1) rfl (Sub.cons (t:=14) rfl (Sub.cons (t:=15) rfl (Sub.nil _)))))) (.cons .here rfl (.cons .here rfl .nil)) ?_
  intro k kN kI
  clear kI
  refine st ?_
  refine cn rfl ?_ ?_
  ·intro c0'
   have hk:k < r.terms.l.length:=by omega
   obtain ⟨x,hx⟩:∃ x,r.terms.l[k]=x:=⟨_,rfl⟩
   have hxm:x∈r.terms.l:=hx ▸ List.getElem_mem hk
   have hk2:k < r.paid.l.length:=by omega
   obtain ⟨y,hy⟩:∃ y,r.paid.l[k]=y:=⟨_,rfl⟩
   have hym:y∈r.paid.l:=hy ▸ List.getElem_mem hk2
   refine st ?_
   refine lv (Val.indexAddr_slp rfl rfl sl_31 (by omega) (by omega) (Sl.ptrM hR.terms hk)) ?_
   refine lv (Val.load_gen rfl (fun w hm=>Sl.loadX hR.terms (by decide) hm (by simp) ty_109 hk hx)) ?_
   refine RunL.new (New.alloc zero_109) rfl rfl rfl (fun b5=>?_)
   refine st ?_
   refine RunL.sto (Sto.store rfl rfl .here ty_109 rfl rfl) rfl rfl ?_
   refine st ?_
   refine RunC.draw 19 fol_ (.cons .here rfl (.cons .here rfl (.cons .here rfl .nil))) ?_
   refine va 0 rfl (Val.pure rfl) rfl rfl rfl (.cons .here rfl (.cons .here rfl (.cons .here rfl .nil))) rfl ?_
   refine va 1 rfl (Val.makeInterface rfl noif_9) rfl rfl rfl (.cons .here rfl (.cons .here rfl (.cons .here rfl .nil))) rfl ?_
   refine va 2 rfl (Val.fieldAddr rfl fld_109_0) rfl rfl rfl (.cons .here rfl (.cons .here rfl (.cons .here rfl .nil))) rfl ?_
   refine va 3 rfl (Val.load_one rfl (.head _) ty_3 rfl) rfl rfl rfl (.cons .here rfl (.cons .here rfl (.cons .here rfl .nil))) rfl ?_
   refine va 4 rfl (Val.makeInterface rfl noif_3) rfl rfl rfl (.cons .here rfl (.cons .here rfl (.cons .here rfl .nil))) rfl ?_
   refine va 5 rfl (Val.fieldAddr rfl fld_109_1) rfl rfl rfl (.cons .here rfl (.cons .here rfl (.cons .here rfl .nil))) rfl ?_
   refine va 6 rfl (Val.load_one rfl (.head _) ty_3 rfl) rfl rfl rfl (.cons .here rfl (.cons .here rfl (.cons .here rfl .nil))) rfl ?_
   refine va 7 rfl (Val.makeInterface rfl noif_3) rfl rfl rfl (.cons .here rfl (.cons .here rfl (.cons .here rfl .nil))) rfl ?_
   refine va 8 rfl (Val.fieldAddr rfl fld_109_2) rfl rfl rfl (.cons .here rfl (.cons .here rfl (.cons .here rfl .nil))) rfl ?_
   refine va 9 rfl (Val.load_one rfl (.head _) ty_3 rfl) rfl rfl rfl (.cons .here rfl (.cons .here rfl (.cons .here rfl .nil))) rfl ?_
   refine va 10 rfl (Val.makeInterface rfl noif_3) rfl rfl rfl (.cons .here rfl (.cons .here rfl (.cons .here rfl .nil))) rfl ?_
   refine va 11 rfl (Val.fieldAddr rfl fld_35_4) rfl rfl rfl (.cons .here rfl (.cons .here rfl (.cons .here rfl .nil))) rfl ?_
   refine va 12 rfl (Val.load_one rfl (.tail _ (.tail _ (.head _))) ty_27 rfl) rfl rfl rfl (.cons .here rfl (.cons .here rfl (.cons .here rfl .nil))) rfl ?_
   refine va 13 rfl (Val.pure rfl) rfl rfl rfl (.cons .here rfl (.cons .here rfl (.cons .here rfl .nil))) rfl ?_
   refine va 14 rfl (Val.indexAddr_slp rfl rfl sl_27 (by omega) (by omega) (Sl.ptrM hR.paid hk2)) rfl rfl rfl (.cons .here rfl (.cons .here rfl (.cons .here rfl .nil))) rfl ?_
   refine va 15 rfl (Val.load_gen rfl (fun w hm=>Sl.loadM1 hR.paid (by decide) hm (by simp) ty_3 hk2 (v:=.int .i64 y) (by simp [intC,hy]))) rfl rfl rfl (.cons .here rfl (.cons .here rfl (.cons .here rfl .nil))) rfl ?_
   refine va 16 rfl (Val.makeInterface rfl noif_3) rfl rfl rfl (.cons .here rfl (.cons .here rfl (.cons .here rfl .nil))) rfl ?_
   refine RunA.one (i:=17) (by kernel_rfl) (by kernel_rfl) ?_
   refine RunI.new rfl (New.buildSlice (parts:=[(0,.tmp 22),(1,.tmp 25),(2,.tmp 28),(3,.tmp 31),(4,.tmp 37)]) rfl sl_192 zero_20 rfl rfl rfl rfl) rfl rfl rfl (fun b38=>(RunK.toA (.cons .here rfl (.cons .here rfl (.cons .here rfl (.cons .here rfl .nil)))) (.cons (.there .here) rfl (.cons (.there .here) rfl (.cons (.there .here) rfl .nil))) rfl ?_))
   refine RunA.one (i:=18) (by kernel_rfl) (by kernel_rfl) ?_
   refine RunI.callP rfl (isCall_func rfl ent_89) rfl rfl rfl (fun w hm=>(linep_calls [Part.s wAgent,Part.n x.first,Part.n x.upto,Part.n x.beyond,Part.n y] [wAgent,Lib.itoa x.first,Lib.itoa x.upto,Lib.itoa x.beyond,Lib.itoa y] rfl b38 w (hL.mono hm) (hm.at (.head _)) (by simp) (by intro p hp;simp only [List.mem_cons,List.not_mem_nil,or_false] at hp;rcases hp with rfl | rfl | rfl | rfl | rfl;exact (show wAgent.length≤40 by decide);exact (hv.tm x hxm).1;exact (hv.tm x hxm).2.1;exact (hv.tm x hxm).2.2;exact hv.pd y hym) (by simp))) (RunK.toA (.cons .here rfl (.cons .here rfl (.cons .here rfl (.cons .here rfl .nil)))) (.cons .here rfl (.cons .here rfl (.cons .here rfl (.cons .here rfl .nil)))) rfl ?_)
   refine RunA.toB (by kernel_rfl) ?_
   refine RunB.one (i:=19) (by kernel_rfl) ?_
   refine RunI.val rfl (Val.strAdd rfl rfl (by have:=agentS_len hv hxm hym;unfold agentS at this;have:=hl1 k;omega)) rfl rfl rfl (RunK.toB ?_)
   refine RunB.one (i:=20) (by kernel_rfl) ?_
   refine RunI.val rfl (Val.pure rfl) rfl rfl rfl (RunK.toB ?_)
   refine RunB.done (by kernel_rfl) ?_
   refine st ?_
   refine lv (Val.add rfl rfl (IntWalk.i64_in _ ⟨by omega,by omega⟩)) ?_
   exact RunE.round (by omega) trivial rfl (Sub.consE (t:=16) rfl rfl (Sub.consE (t:=3) rfl (by rw [rT1_s hv hk hx hy];rfl) (Sub.cons (t:=1) rfl (Sub.cons (t:=14) rfl (Sub.cons (t:=15) rfl (Sub.nil _)))))) (.cons (.there (.there .here)) rfl (.cons (.there (.there .here)) rfl .nil))
  intro c0'
  obtain rfl:k=r.terms.l.length:=by omega
  refine RunC.exit ?_
  refine RunE.pass_exit ?_
  refine RunE.pass_exit ?_
  refine RunE.block_here ?_
  refine st ?_
  refine lv (Val.fieldAddr rfl fld_35_1) ?_
  refine lv (Val.load_one rfl (.tail _ (.head _)) ty_27 rfl) ?_
  refine lv (Val.len_sl rfl sl_27) ?_
  refine RunC.loopK (r.prices.l.length) (fun k q=>(45,.int .i64 (k:Int))::(3,.string (bs (rT2 r k)))::q) (fun _=>_) (fun _=>[]) (fun _=>True) trivial rfl (Sub.consE (t:=45) rfl rfl (Sub.consE (t:=3) rfl (by rw [e1]) (Sub.cons (t:=1) rfl (Sub.cons (t:=43) rfl (Sub.cons (t:=44) rfl (Sub.nil _)))))) (.cons .here rfl (.cons .here rfl .nil)) ?_
  intro k kN kI
  clear kI
  refine st ?_
  refine cn rfl ?_ ?_
  ·intro c1'
   have hk:k < r.prices.l.length:=by omega
   obtain ⟨x,hx⟩:∃ x,r.prices.l[k]=x:=⟨_,rfl⟩
   have hxm:x∈r.prices.l:=hx ▸ List.getElem_mem hk
   have hk2:k < r.shares.l.length:=by omega
   obtain ⟨y,hy⟩:∃ y,r.shares.l[k]=y:=⟨_,rfl⟩
   have hym:y∈r.shares.l:=hy ▸ List.getElem_mem hk2
   refine st ?_
   refine lv (Val.indexAddr_slp rfl rfl sl_27 (by omega) (by omega) (Sl.ptrM hR.prices hk)) ?_
   refine lv (Val.load_gen rfl (fun w hm=>Sl.loadM1 hR.prices (by decide) hm (by simp) ty_3 hk (v:=.int .i64 x) (by simp [intC,hx]))) ?_
   refine lv (Val.makeInterface rfl noif_9) ?_
   refine lv (Val.makeInterface rfl noif_3) ?_
   refine lv (Val.fieldAddr rfl fld_35_2) ?_
   refine lv (Val.load_one rfl (.tail _ (.head _)) ty_32 rfl) ?_
   refine lv (Val.indexAddr_slp rfl rfl sl_32 (by omega) (by omega) (Sl.ptrM hR.shares hk2)) ?_
   refine lv (Val.load_gen rfl (fun w hm=>Sl.loadM1 hR.shares (by decide) hm (by simp) ty_27 hk2 (v:=y.v) (by simp [SA.cell,hy]))) ?_
   refine lv (Val.makeInterface rfl noif_27) ?_
   refine RunL.new (New.buildSlice (parts:=[(0,.tmp 51),(1,.tmp 53),(2,.tmp 59)]) rfl sl_192 zero_20 rfl rfl rfl rfl) rfl rfl rfl (fun b60=>?_)
   refine RunL.callP (isCall_func rfl ent_89) rfl rfl rfl (fun w hm=>(linep_calls [Part.s wKind,Part.n x,Part.ns y] (wKind::Lib.itoa x::y.l.map Lib.itoa) (by simp [Part.words]) b60 w (hL.mono hm) (hm.at (.head _)) (by simp) (by intro p hp;simp only [List.mem_cons,List.not_mem_nil,or_false] at hp;rcases hp with rfl | rfl | rfl;exact (show wKind.length≤40 by decide);exact hv.pr x hxm;exact ⟨(hR.rows y hym).mono0 (by decide) hm,by have:=(hv.sh y hym).1;omega,(hv.sh y hym).2⟩) (by have:=(hv.sh y hym).1;simp;omega))) ?_
   refine lv (Val.strAdd rfl rfl (by have:=kindS_len hv hxm hym;unfold kindS at this;have:=hl2 k;omega)) ?_
   refine lv (Val.add rfl rfl (IntWalk.i64_in _ ⟨by omega,by omega⟩)) ?_
   exact RunE.round (by omega) trivial rfl (Sub.consE (t:=45) rfl rfl (Sub.consE (t:=3) rfl (by rw [rT2_s hv hk hx hy];rfl) (Sub.cons (t:=1) rfl (Sub.cons (t:=43) rfl (Sub.cons (t:=44) rfl (Sub.nil _)))))) (.cons (.there .here) rfl (.cons (.there .here) rfl .nil))
  intro c1'
  obtain rfl:k=r.prices.l.length:=by omega
  refine RunC.exit ?_
  refine RunE.pass_exit ?_
  refine RunE.pass_exit ?_
  refine RunE.block_here ?_
  refine st ?_
  refine lv (Val.fieldAddr rfl fld_35_3) ?_
  refine lv (Val.load_one rfl (.tail _ (.head _)) ty_33 rfl) ?_
  refine lv (Val.len_sl rfl sl_33) ?_
  refine RunC.loopK (r.reports.l.length) (fun k q=>(67,.int .i64 (k:Int))::(3,.string (bs (rT3 r k)))::q) (fun _=>_) (fun _=>[]) (fun _=>True) trivial rfl (Sub.consE (t:=67) rfl rfl (Sub.consE (t:=3) rfl (by rw [e2]) (Sub.cons (t:=1) rfl (Sub.cons (t:=65) rfl (Sub.cons (t:=66) rfl (Sub.nil _)))))) (.cons .here rfl (.cons .here rfl .nil)) ?_
  intro k kN kI
  clear kI
  refine st ?_
  refine cn rfl ?_ ?_
  ·intro c2'
   have hk:k < r.reports.l.length:=by omega
   obtain ⟨x,hx⟩:∃ x,r.reports.l[k]=x:=⟨_,rfl⟩
   have hxm:x∈r.reports.l:=hx ▸ List.getElem_mem hk
   refine st ?_
   refine lv (Val.indexAddr_slp rfl rfl sl_33 (by omega) (by omega) (Sl.ptrM hR.reports hk)) ?_
   refine lv (Val.load_gen rfl (fun w hm=>Sl.loadX hR.reports (by decide) hm (by simp) ty_111 hk hx)) ?_
   refine RunL.new (New.alloc zero_111) rfl rfl rfl (fun b9=>?_)
   refine RunL.sto (Sto.store rfl rfl .here ty_111 rfl rfl) rfl rfl ?_
   refine st ?_
   refine lv (Val.makeInterface rfl noif_9) ?_
   refine lv (Val.fieldAddr rfl fld_111_0) ?_
   refine lv (Val.load_one rfl (.head _) ty_3 rfl) ?_
   refine lv (Val.makeInterface rfl noif_3) ?_
   refine lv (Val.fieldAddr rfl fld_111_1) ?_
   refine lv (Val.load_one rfl (.head _) ty_3 rfl) ?_
   refine lv (Val.makeInterface rfl noif_3) ?_
   refine lv (Val.fieldAddr rfl fld_111_2) ?_
   refine lv (Val.load_one rfl (.head _) ty_3 rfl) ?_
   refine lv (Val.makeInterface rfl noif_3) ?_
   refine lv (Val.fieldAddr rfl fld_111_3) ?_
   refine lv (Val.load_one rfl (.head _) ty_3 rfl) ?_
   refine lv (Val.makeInterface rfl noif_3) ?_
   refine RunL.new (New.buildSlice (parts:=[(0,.tmp 72),(1,.tmp 75),(2,.tmp 78),(3,.tmp 81),(4,.tmp 84)]) rfl sl_192 zero_20 rfl rfl rfl rfl) rfl rfl rfl (fun b85=>?_)
   refine RunL.callP (isCall_func rfl ent_89) rfl rfl rfl (fun w hm=>(linep_calls [Part.s wReport,Part.n x.agent,Part.n x.kind,Part.n x.first,Part.n x.last] [wReport,Lib.itoa x.agent,Lib.itoa x.kind,Lib.itoa x.first,Lib.itoa x.last] rfl b85 w (hL.mono hm) (hm.at (.head _)) (by simp) (by intro p hp;simp only [List.mem_cons,List.not_mem_nil,or_false] at hp;rcases hp with rfl | rfl | rfl | rfl | rfl;exact (show wReport.length≤40 by decide);exact (hv.rp x hxm).1;exact (hv.rp x hxm).2.1;exact (hv.rp x hxm).2.2.1;exact (hv.rp x hxm).2.2.2) (by simp))) ?_
   refine lv (Val.strAdd rfl rfl (by have:=reportS_len hv hxm;unfold reportS at this;have:=hl3 k;omega)) ?_
   refine lv (Val.add rfl rfl (IntWalk.i64_in _ ⟨by omega,by omega⟩)) ?_
   exact RunE.round (by omega) trivial rfl (Sub.consE (t:=67) rfl rfl (Sub.consE (t:=3) rfl (by rw [rT3_s hk hx];rfl) (Sub.cons (t:=1) rfl (Sub.cons (t:=65) rfl (Sub.cons (t:=66) rfl (Sub.nil _)))))) (.cons (.there (.there .here)) rfl (.cons (.there (.there .here)) rfl .nil))
  intro c2'
  obtain rfl:k=r.reports.l.length:=by omega
  refine RunC.exit ?_
  refine RunE.pass_exit ?_
  refine RunE.pass_exit ?_
  refine RunE.block_here ?_
  refine st ?_
  refine RunC.ret ?_
  exact RunE.retP (.r1 rfl (.tmp rfl)) (by rw [roy_text hv])
end Go.Proofs.YtleamcmljcdapaaGreatDoor
namespace Go.Proofs.YtleamcmljcdapaaGreatDoor
open Go Go.Eng
theorem ap_58:apB Tryz.prog 58=some (5,1,1):=by kernel_rfl
theorem fld_118_0:fieldB Tryz.prog 118 0=some 0:=by kernel_rfl
theorem sl_58:slB Tryz.prog 58=some (5,1):=by kernel_rfl
theorem ty_5:tyB Tryz.prog 5=some (false,1):=by kernel_rfl
theorem und_3:Tryz.prog.underlying 3=some (.int .i64):=by kernel_rfl
theorem und_5:Tryz.prog.underlying 5=some (.int .u8):=by kernel_rfl
theorem zero_5:zeroB Tryz.prog 5=some [.int .u8 0]:=by kernel_rfl
end Go.Proofs.YtleamcmljcdapaaGreatDoor
