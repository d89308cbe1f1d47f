/- Printed by our programs. -/
import Derived.Test.YtbflhimigloapaaGreatDoorY06
import Derived.Test.YtbflhimigloapaaGreatDoorProg
import Derived.Test.YtbflhimigloapaaGreatDoorRows
import Derived.Lib.LaidTab
import Derived.Stop.LaidErr
import Derived.MakeChecks
import Derived.Shelf.Vars
import Derived.Handed
import Derived.HandedShaped
import Derived.Lay
set_option linter.unusedSimpArgs false
set_option linter.unusedVariables false
set_option linter.unusedSectionVars false
open Go.Proofs.Tryz
open Go.Proofs.Tryz renaming prog→π
open Go.Proofs.YtbflhimigloapaaGreatDoor
namespace Go.Le
open Go Go.Eng Go.Bk Go.RowKit
def okAny:Rule:=fun _ _ _=>true
def endL (c:Cb) (ok:Rule):Rc:=playX c c.wrong ok c.loans.length
def openX (c:Cb) (valid:Bool):Except Int Unit:=if cabV c=true then (if valid=true then (if (endL c okAny).length=0 then .error 4 else .ok ()) else .error 2) else .error 1
theorem Az8 {c:Cb} {valid:Bool} {u:Unit} (h:openX c valid = .ok u):cabV c=true∧valid=true∧(endL c okAny).length ≠ 0:=by
 unfold openX at h
 split at h
 · rename_i h1
   split at h
   · rename_i h2
     split at h
     · cases h
     · rename_i h3;exact ⟨h1,h2,h3⟩
   · cases h
 · cases h
def eadd (z:Int×Int×Bool) (x:Int):Int×Int×Bool:=(min (if z.2.2 then z.1 else x) x,max (if z.2.2 then z.2.1 else x) x,true)
def endsL (l:List Int):Int×Int×Bool:=l.foldl eadd (0,0,false)
theorem CR7 (z:Int×Int×Bool) (a b:Int):eadd (eadd z a) b=eadd (eadd z b) a:=by
 obtain ⟨lo,hi,s⟩:=z
 cases s
 · simp only [eadd,if_true,Bool.false_eq_true,if_false,Prod.mk.injEq,and_true]
   omega
 · simp only [eadd,if_true,Prod.mk.injEq,and_true]
   omega
theorem CR5 {l l':List Int} (h:l.Perm l'):endsL l=endsL l':=h.foldl_eq' (fun x _ y _ z=>CR7 z x y) _
theorem CR4 (l:List Int) (x:Int):endsL (l++[x])=eadd (endsL l) x:=by simp [endsL]
def misC (c:Cb) (s:List Int) (k:Nat):Nat:=(List.range k).countP fun i=>!decide (s.getD i 0 = -1) && !decide (s.getD i 0=c.homes.getD i 0)
def misN (c:Cb) (p:List Int×Int):Int:=(misC c p.1 c.homes.length:Nat)
theorem Dl8 (c:Cb) (s:List Int) (k:Nat):misC c s (k + 1)=misC c s k + (if (!decide (s.getD k 0 = -1) && !decide (s.getD k 0=c.homes.getD k 0))=true then 1 else 0):=by
 unfold misC;rw [List.range_succ,List.countP_append,List.countP_singleton]
theorem Dt0 (c:Cb) (s:List Int) (k:Nat):misC c s k≤k:=by
 have:=List.countP_le_length (p:=fun i=>!decide (s.getD i 0 = -1) && !decide (s.getD i 0=c.homes.getD i 0)) (l:=List.range k)
 rw [List.length_range] at this;exact this
def misX (c:Cb):Int×Int×Bool:=endsL ((endL c okAny).map (misN c))
def MisX (c:Cb):(Int×Int)×Int:=match openX c true with
 | .ok _=>(((misX c).1,(misX c).2.1),0)
 | .error k=>((0,0),k)
end Go.Le
namespace Go.Q
open Go Go.Eng Go.Bk Go.Le Go.RowKit
structure RuleOk (Tr:TypeId) (vr:Value) (fr:Nat) (ok:Rule):Prop where
 meth:∀ w,(method (π.types.size + Made.depth) Tr vr "pairworks/lend.allows").run π w = .ok (fr,vr) w
 ent:Enters π fr
 calls:∀ (i:Nat) (ln:Ln) (b:Bool) (w:World),CC fr #[vr,.I (i:Int),.agg ln.cells.toArray,.bool b] w (Pure (.bool (ok i ln b)) w)
theorem Di5:RuleOk 137 (.agg #[]) 308 okAny:=⟨At6 _,Dv4,fun i ln b w=>Ca0 i ln b w⟩
theorem CU5 (c:CbA) (bc:Nat) (hv:cabV c.pl=true) (Tr:TypeId) (vr:Value) (fr:Nat) (ok:Rule) (hr:RuleOk Tr vr fr ok) (W:World) (hb:W.heap[bc]? = some (cabO c)) (hC:CbOk W c) (hCC:CbC c):CC 53 #[aV bc,.iface Tr vr] W (News (fun z:PlayT c.pl c.pl.wrong ok c.pl.loans.length=>.map (some z.1.1)) (fun z=>[(z.1.1,rcO z.1.2)]) W):=by
 have hw:c.wrong≤12:=(CS8 hv).wrong.2;refine cS func53 ?_;refine st ?_;refine Ab5 13 Ah0 .nil ?_;refine zv 0 rfl (Aa4 rfl) ?_;refine zv 1 rfl (Aa4 rfl) ?_;refine zv 2 rfl (Aa4 rfl) ?_;refine zv 3 rfl (Lo rfl Ay0) ?_;refine zv 4 rfl (Lo rfl Bx4) ?_;refine zv 5 rfl (Aa0 rfl hb (by simp) Cy2 rfl) ?_;refine zv 6 rfl (Ae0 rfl BD4) ?_;refine zv 7 rfl (Aa4 rfl) ?_;refine zv 8 rfl (Aa4 rfl) ?_;refine zv 9 rfl (Lo rfl Ay0) ?_;refine zv 10 rfl (Lo rfl Ch2) ?_;refine zv 11 rfl (Aa0 rfl hb (by simp) Ae2 rfl) ?_;refine zv 12 rfl (Aa4 rfl) ?_;refine zt ?_;refine zB 13 ?_;refine Xk rfl (zF rfl DN7) (fun w hm=>Co3 c bc hv c.loans.l.length (Nat.le_refl _) c.wrong hw Tr vr fr ok rfl hr.meth hr.ent hr.calls w (hm.old_at hb (by simp)) (hC.mono0 hm) hCC) (fun b18=>(Ab1 ?_))
 refine zp 14 ?_;refine zd ?_;refine su ?_;exact Ld (chg:=[]) rZ (fun _ hm=>⟨b18,rfl,hm⟩)
abbrev OpenT (c:Cb):={ z:Nat×Nat×Rc // z.2.2.Perm (endL c okAny) }
theorem BN7 (v:Value) (W:World):CC 52 #[v] W (Pure (.bool true) W):=by
 refine cS func52 ?_;refine su ?_;exact rP
theorem BH1 (c:CbA) (hC0:CbS c) (hCC:CbC c) (gf:FuncId) (cap:Array Value) (valid:Bool) (he:Enters π gf) (W:World) (hC:CbOk W c)
  (hval:∀ b news w,Mem W [] news w→w.heap[b]? = some (cabO c)→cabV c.pl=true→CC gf ([(aV b:Value)]++cap.toList).toArray w (Pure (.bool valid) w)) :
  CC 51 #[c.v,.func (.func gf) #[] cap] W (TryB lmis (openX c.pl valid) (fun z:OpenT c.pl=>.tuple #[aV z.1.1,.map (some z.1.2.1)]) (fun z=>[(z.1.1,cabO c),(z.1.2.1,rcO z.1.2.2)]) W):=by
 refine cS func51 ?_;refine st ?_;refine zn (Lm rfl) (fun b2=>?_)
 refine Xm (zF rfl DN8) (fun w hm=>BU4 c w (hC.mono0 hm) hC0) (fun e9 he9=>?_) (fun a9 ha9 b9=>?_)
 ·obtain ⟨hcv,rfl⟩:=CF1 he9
  refine Aa1 ?_;exact AI7 (by unfold openX;rw [if_neg (by simp [hcv])])
 have hcv:=Dc0 ha9;refine st ?_;refine Xe (Ab4 rfl rfl he) (fun w hm=>hval b9 _ w hm (hm.at mm0) hcv) ?_;refine Xh (zF rfl BY2) (fun w hm=>AH2 _ _ w) (fun e13 he13=>?_) (fun v13 hv13=>?_)
 ·obtain ⟨er13,rfl⟩:=Ad0 he13
  refine Aa1 ?_;exact AI7 (by unfold openX;rw [if_pos hcv,if_neg (by simp [er13])])
 obtain ⟨ok13,rfl⟩:=Ad9 hv13;refine st ?_;refine lv (Lr (parts:=[]) rfl CX5 Cq4 rfl) ?_;refine lv (Lz rfl Dd2) ?_;refine Xj (zF rfl DN9) (fun w hm=>CU5 c b9 hcv _ _ _ okAny Di5 w (hm.at mm0) (hC.mono0 hm) hCC) (fun b17=>?_)
 refine st ?_;refine lv (BO6 AJ4 rfl (fun w hm=>hm.at mm0)) ?_;refine Xh (zF rfl BY2) (fun w hm=>AH2 _ _ w) (fun e21 he21=>?_) (fun v21 hv21=>?_)
 ·obtain ⟨er21,rfl⟩:=Ad0 he21
  refine Aa1 ?_;exact AI7 (by unfold openX;rw [if_pos hcv,if_pos ok13,if_pos (by have h9:=b17.2.length_eq;have h8:=Bo1 b17.1.2;have h7:¬ (0 < (rv b17.1.2).length):=(by simpa using er21);rw [show (endL c.pl okAny).length=_ from h9.symm];omega)])
 obtain ⟨ok21,rfl⟩:=Ad9 hv21;refine su ?_;exact Cw2 (a:=()) (⟨(b9,b17.1.1,b17.1.2),b17.2⟩:OpenT c.pl) (.r2 rfl (.tmp rfl) (.tmp rfl)) (by unfold openX;rw [if_pos hcv,if_pos ok13,if_neg (by have h9:=b17.2.length_eq;have h8:=Bo1 b17.1.2;have h7:0 < (rv b17.1.2).length:=(by simpa using ok21);rw [show (endL c.pl okAny).length=_ from h9.symm];omega)]) rfl (qD (qC .nil))
theorem BH2 (b:Nat) (W:World):CC 50 #[.nilIface,.pointer (some ⟨b,0,none⟩)] W (Pure (.tuple #[]) W):=by
 refine cS func50 ?_;refine st ?_;refine lv (Am1 rfl AL5) ?_;refine Ly rfl ?_ (fun h=>absurd h (by simp))
 intro c0;clear c0;refine su ?_;exact Aa9 (.r0 rfl) (by first | rfl | simp)
theorem BH3 (b:Nat) (k:Int) (x:Value) (W:World) (hb:W.heap[b]? = some (.cells #[x] 49 (0,0))):CC 50 #[lmis k,.pointer (some ⟨b,0,none⟩)] W (Turns b (.cells #[.I k] 49 (0,0)) (.tuple #[]) W):=by
 refine Af8 hb func50 rfl rfl ?_;refine st ?_;refine lv (Ar5 rfl AL5) ?_;refine Ly rfl (fun h=>absurd h (by simp)) ?_;intro c0;clear c0;refine st ?_;refine lv (Am6 rfl Cg1) ?_;refine zn (Lp Cc7) (fun b4=>?_)
 refine sQ .here ?_;refine st ?_;refine Ly rfl (fun h=>absurd h (by simp)) ?_;intro c1;clear c1;refine su ?_;refine Xs (Ab9 rfl rfl .here Af7 rfl rfl) ?_;refine st ?_;exact Ak9 (chg:=[(b,_)]) (.r0 rfl) (fun _ hm=>⟨rfl,hm.drop⟩)
theorem BV0 (b:Nat) (z:Int×Int×Bool) (x:Int) (W:World) (hb:W.heap[b]? = some (.cells [Value.int .i64 z.1,.I z.2.1,.bool z.2.2].toArray 227)):CC 126 #[aV b,.I x] W (Turns b (.cells [Value.int .i64 (eadd z x).1,.I (eadd z x).2.1,.bool (eadd z x).2.2].toArray 227) (.tuple #[]) W):=by
 obtain ⟨lo,hi,s⟩:=z;obtain ⟨sv,hsv⟩:∃ sv,sv=s:=⟨_,rfl⟩;refine Af8 hb func126 rfl rfl ?_;refine su ?_;refine cn rfl ?_ ?_
 ·intro c0'
  obtain rfl:s=false:=by simpa using c0'
  refine su ?_;refine Xs (Ab9 rfl rfl .here Ae2 rfl rfl) ?_;refine su ?_;refine Xs (Ab9 rfl rfl .here Ae2 rfl rfl) ?_;refine su ?_;refine Xs (Ab9 rfl rfl .here Cl5 rfl rfl) ?_;refine st ?_;refine Bl2 (X:=Unit) 17 (n0:=[]) (fun u q=>q) (fun u=>[(b,.cells [Value.int .i64 (eadd (lo,hi,sv) x).1,.I (eadd (lo,hi,sv) x).2.1,.bool (eadd (lo,hi,sv) x).2.2].toArray 227)]) (fun u=>[]) (fun u=>[]) (fun u=>True) Ah0 .nil (Sub.nil _) .nil ?_ ?_
  ·refine Xv (i:=0) rfl (fun c hck=>(Aa4 rfl)) (fun _ _ _ h=>h) .nil ?_
   refine Xv (i:=1) rfl (fun c hck=>(Aa4 rfl)) (fun _ _ _ h=>h) .nil ?_;refine Xv (i:=2) rfl (fun c hck=>(Aa4 rfl)) (fun _ _ _ h=>h) .nil ?_;refine Xv (i:=3) rfl (fun c hck=>(Aa4 rfl)) (fun _ _ _ h=>h) .nil ?_;refine Xv (i:=4) rfl (fun c hck=>(Lo rfl At8)) (fun _ _ _ h=>h) .nil ?_;refine Xv (i:=6) rfl (fun c hck=>(Aa4 rfl)) (fun _ _ _ h=>h) .nil ?_;refine Xv (i:=8) rfl (fun c hck=>(Aa4 rfl)) (fun _ _ _ h=>h) .nil ?_;refine Xv (i:=9) rfl (fun c hck=>(Aa4 rfl)) (fun _ _ _ h=>h) .nil ?_;refine Xv (i:=10) rfl (fun c hck=>(Lo rfl AR1)) (fun _ _ _ h=>h) .nil ?_;refine Xv (i:=12) rfl (fun c hck=>(Aa4 rfl)) (fun _ _ _ h=>h) .nil ?_;refine Af0 (rs:=[5,11]) (by kernel_rfl) (by simp) (by kernel_rfl) (fun m hm=>?_)
   simp only [List.mem_cons,List.not_mem_nil,or_false] at hm
   rcases hm with rfl | rfl
   ·refine Xc rfl (Aa7 rfl mm0 Ae2 rfl) (Aa2 .nil .nil rfl ?_)
    refine Xv (i:=7) rfl (fun c hck=>(Val.min rfl rfl)) (fun _ _ _ h=>h) .nil ?_;refine zA 11 ?_;refine Xc rfl (Aa7 rfl mm0 Ae2 rfl) (Aa2 .nil .nil rfl ?_)
    refine Xv (i:=13) rfl (fun c hck=>(Val.max rfl rfl)) (fun _ _ _ h=>h) .nil ?_;refine Xv (i:=14) rfl (fun c hck=>(Aa4 rfl)) (fun _ _ _ h=>h) .nil ?_;refine Xv (i:=15) rfl (fun c hck=>(Lo rfl At8)) (fun _ _ _ h=>h) .nil ?_;refine zA 16 ?_;refine Xr rfl (Ab9 rfl rfl .here Ae2 rfl rfl) (Aa2 .nil .nil rfl ?_)
    refine zt ?_;refine zp 17 ?_;refine zp 18 ?_;refine zB 19 ?_;refine Xr rfl (Ab9 rfl rfl .here Ae2 rfl rfl) (Ab1 ?_)
    refine zd ?_;subst hsv;exact Ae5 () trivial rfl (Sub.nil _) .nil
   refine Xc rfl (Aa7 rfl mm0 Ae2 rfl) (Aa2 .nil .nil rfl ?_)
   refine Xv (i:=13) rfl (fun c hck=>(Val.max rfl rfl)) (fun _ _ _ h=>h) .nil ?_;refine zA 5 ?_;refine Xc rfl (Aa7 rfl mm0 Ae2 rfl) (Aa2 .nil .nil rfl ?_)
   refine Xv (i:=7) rfl (fun c hck=>(Val.min rfl rfl)) (fun _ _ _ h=>h) .nil ?_;refine Xv (i:=14) rfl (fun c hck=>(Aa4 rfl)) (fun _ _ _ h=>h) .nil ?_;refine Xv (i:=15) rfl (fun c hck=>(Lo rfl At8)) (fun _ _ _ h=>h) .nil ?_;refine zA 16 ?_;refine Xr rfl (Ab9 rfl rfl .here Ae2 rfl rfl) (Aa2 .nil .nil rfl ?_)
   refine zt ?_;refine zp 17 ?_;refine zp 18 ?_;refine zB 19 ?_;refine Xr rfl (Ab9 rfl rfl .here Ae2 rfl rfl) (Ab1 ?_)
   refine zd ?_;subst hsv;exact Ae5 () trivial rfl (Sub.nil _) .nil
  intro u uI;subst hsv;exact Ak9 (chg:=[(b,_)]) (.r0 rfl) (fun _ hm=>⟨rfl,hm.drop⟩)
 intro c0';obtain rfl:s=true:=by simpa using c0'
 refine st ?_;refine Bl2 (X:=Unit) 17 (n0:=[]) (fun u q=>q) (fun u=>[(b,.cells [Value.int .i64 (eadd (lo,hi,sv) x).1,.I (eadd (lo,hi,sv) x).2.1,.bool (eadd (lo,hi,sv) x).2.2].toArray 227)]) (fun u=>[]) (fun u=>[]) (fun u=>True) Ah0 .nil (Sub.nil _) .nil ?_ ?_
 ·refine Xv (i:=0) rfl (fun c hck=>(Aa4 rfl)) (fun _ _ _ h=>h) .nil ?_
  refine Xv (i:=1) rfl (fun c hck=>(Aa4 rfl)) (fun _ _ _ h=>h) .nil ?_;refine Xv (i:=2) rfl (fun c hck=>(Aa4 rfl)) (fun _ _ _ h=>h) .nil ?_;refine Xv (i:=3) rfl (fun c hck=>(Aa4 rfl)) (fun _ _ _ h=>h) .nil ?_;refine Xv (i:=4) rfl (fun c hck=>(Lo rfl At8)) (fun _ _ _ h=>h) .nil ?_;refine Xv (i:=6) rfl (fun c hck=>(Aa4 rfl)) (fun _ _ _ h=>h) .nil ?_;refine Xv (i:=8) rfl (fun c hck=>(Aa4 rfl)) (fun _ _ _ h=>h) .nil ?_;refine Xv (i:=9) rfl (fun c hck=>(Aa4 rfl)) (fun _ _ _ h=>h) .nil ?_;refine Xv (i:=10) rfl (fun c hck=>(Lo rfl AR1)) (fun _ _ _ h=>h) .nil ?_;refine Xv (i:=12) rfl (fun c hck=>(Aa4 rfl)) (fun _ _ _ h=>h) .nil ?_;refine Af0 (rs:=[5,11]) (by kernel_rfl) (by simp) (by kernel_rfl) (fun m hm=>?_)
  simp only [List.mem_cons,List.not_mem_nil,or_false] at hm
  rcases hm with rfl | rfl
  ·refine Xc rfl (Aa7 rfl mm0 Ae2 rfl) (Aa2 .nil .nil rfl ?_)
   refine Xv (i:=7) rfl (fun c hck=>(Val.min rfl rfl)) (fun _ _ _ h=>h) .nil ?_;refine zA 11 ?_;refine Xc rfl (Aa7 rfl mm0 Ae2 rfl) (Aa2 .nil .nil rfl ?_)
   refine Xv (i:=13) rfl (fun c hck=>(Val.max rfl rfl)) (fun _ _ _ h=>h) .nil ?_;refine Xv (i:=14) rfl (fun c hck=>(Aa4 rfl)) (fun _ _ _ h=>h) .nil ?_;refine Xv (i:=15) rfl (fun c hck=>(Lo rfl At8)) (fun _ _ _ h=>h) .nil ?_;refine zA 16 ?_;refine Xr rfl (Ab9 rfl rfl .here Ae2 rfl rfl) (Aa2 .nil .nil rfl ?_)
   refine zt ?_;refine zp 17 ?_;refine zp 18 ?_;refine zB 19 ?_;refine Xr rfl (Ab9 rfl rfl .here Ae2 rfl rfl) (Ab1 ?_)
   refine zd ?_;subst hsv;exact Ae5 () trivial rfl (Sub.nil _) .nil
  refine Xc rfl (Aa7 rfl mm0 Ae2 rfl) (Aa2 .nil .nil rfl ?_)
  refine Xv (i:=13) rfl (fun c hck=>(Val.max rfl rfl)) (fun _ _ _ h=>h) .nil ?_;refine zA 5 ?_;refine Xc rfl (Aa7 rfl mm0 Ae2 rfl) (Aa2 .nil .nil rfl ?_)
  refine Xv (i:=7) rfl (fun c hck=>(Val.min rfl rfl)) (fun _ _ _ h=>h) .nil ?_;refine Xv (i:=14) rfl (fun c hck=>(Aa4 rfl)) (fun _ _ _ h=>h) .nil ?_;refine Xv (i:=15) rfl (fun c hck=>(Lo rfl At8)) (fun _ _ _ h=>h) .nil ?_;refine zA 16 ?_;refine Xr rfl (Ab9 rfl rfl .here Ae2 rfl rfl) (Aa2 .nil .nil rfl ?_)
  refine zt ?_;refine zp 17 ?_;refine zp 18 ?_;refine zB 19 ?_;refine Xr rfl (Ab9 rfl rfl .here Ae2 rfl rfl) (Ab1 ?_)
  refine zd ?_;subst hsv;exact Ae5 () trivial rfl (Sub.nil _) .nil
 intro u uI;subst hsv;exact Ak9 (chg:=[(b,_)]) (.r0 rfl) (fun _ hm=>⟨rfl,hm.drop⟩)
end Go.Q
namespace Go.Le
open Go Go.Eng Go.Bk Go.RowKit
def gatX (c:Cb) (l:Rc) (us:List Nat):Int×Int×Bool:=endsL ((pickX l us).map (misN c))
theorem De6 (c:Cb) (l:Rc) (us:List Nat) (i:Nat):gatX c l (us++[i])=eadd (gatX c l us) (misN c (l.getD i zE)):=by
 unfold gatX;rw [BF2,List.map_append];exact CR4 _ _
theorem Du3 {c:Cb} {l:Rc} {us:List Nat} (hl:l.Perm (endL c okAny)) (hn:us.Nodup) (hlt:∀ i∈us,i < l.length) (AN6:∀ i,i < l.length→i∈us):gatX c l us=misX c :=
 CR5 (((Cf2 hn hlt AN6).trans hl).map _)
theorem Dd5 {c:Cb} {s:List Int} {k:Nat} (h:¬ s.getD k 0 = -1∧¬ s.getD k 0=c.homes.getD k 0):misC c s (k + 1)=misC c s k + 1:=by
 rw [Dl8,if_pos (by simp only [Bool.and_eq_true,Bool.not_eq_true',decide_eq_false_iff_not];exact h)]
theorem Ds9 {c:Cb} {s:List Int} {k:Nat} (h:s.getD k 0 = -1∨s.getD k 0=c.homes.getD k 0):misC c s (k + 1)=misC c s k:=by
 rw [Dl8,if_neg (by simp only [Bool.and_eq_true,Bool.not_eq_true',decide_eq_false_iff_not];exact fun h2=>h.elim h2.1 h2.2),Nat.add_zero]
theorem DJ9 {c:Cb} {u:Unit} (h:openX c true = .ok u):MisX c=(((misX c).1,(misX c).2.1),0):=by unfold MisX;rw [h]
theorem Ds8 {c:Cb} {k:Int} (h:openX c true = .error k):MisX c=((0,0),k):=by unfold MisX;rw [h]
end Go.Le
namespace Go.Q
open Go Go.Eng Go.Bk Go.Le Go.RowKit
theorem Cs1 (b:Nat) (w:World):CallsD π 125 #[.pointer (some ⟨b,0,none⟩)] .returning w fun e u w'=>(∃ v,e = .returned v)∧u = .returning∧Mem w [] [] w':=by
 refine callsD_of_wpS func125 rfl fun c₀ cs hu=>?_
 refine wpS_region ?_;simp [wpOpsS,go_sem,recoverD,hu,ntmps125,Exit.thenS]
 refine (BH2 b w).mono ?_
 rintro e w' ⟨rfl,hm⟩
 exact ⟨rfl,.returning,by rw [← hu],_,results_none rfl _ _ _,⟨_,rfl⟩,rfl,hm⟩
theorem Cs0 (b:Nat) (k:Int) (x:Value) (w:World) (hb:w.heap[b]? = some (.cells #[x] 49 (0,0))):CallsD π 125 #[.pointer (some ⟨b,0,none⟩)] (.panicking [{ v:=lmis k,recovered:=false }]) w fun e u w' =>
  (∃ v,e = .returned v)∧u = .panicking [{ v:=lmis k,recovered:=true }]∧Mem w [(b,.cells #[.I k] 49 (0,0))] [] w':=by
 refine callsD_of_wpS func125 rfl fun c₀ cs hu=>?_
 refine wpS_region ?_;simp [wpOpsS,go_sem,recoverD,hu,ntmps125,Exit.thenS]
 refine (BH3 b k x w hb).mono ?_
 rintro e w' ⟨rfl,hm⟩
 exact ⟨rfl,.panicking [{ v:=lmis k,recovered:=true }],rfl,_,results_none rfl _ _ _,⟨_,rfl⟩,rfl,hm⟩
theorem AQ2:Catches π 125 49 lmis:=⟨Cs1,fun b k x w h=>Cs0 b k x w h⟩
abbrev enO (z:Int×Int×Bool):Obj:=.cells [Value.int .i64 z.1,.I z.2.1,.bool z.2.2].toArray 227 (0,0)
set_option maxHeartbeats 2000000 in
theorem Bf9 (c:CbA) (hC0:CbS c) (hCC:CbC c) (W:World) (hC:CbOk W c):CC 68 #[c.v] W (Pure (.tuple #[.agg #[.I (MisX c.pl).1.1,.I (MisX c.pl).1.2],.I (MisX c.pl).2]) W):=by
 refine Af6 func68 rfl rfl ?_;refine csr ?_;refine Xg (Lm rfl) (fun b1=>?_)
 refine Xg (Lp Ac9) (fun b2=>?_)
 refine Xg (Lp Aq8) (fun b3=>?_)
 refine nsr ?_;refine vQ ?_;refine AF9 rfl ?_;refine nsr ?_;refine Xa (Ab8 rfl mm2 DG1 rfl) ?_;refine Cb2 (Ab6 rfl DO1) rfl rfl rfl (fun w hm=>BH1 c hC0 hCC 52 #[] true DO0 w (hC.mono0 hm) (fun b _ w _ _ _=>BN7 _ w)) (fun e14 he14=>?_) (fun a14 ha14 z14=>?_)
 ·refine Aa1 ?_
  exact Al3 AQ2 CQ9 .here (.r2 rfl (.agg rfl mm1 Ah1 rfl) (.one rfl mm0 Af7 rfl)) (by rw [Ds8 he14])
 obtain ⟨⟨bc,m,l⟩,hz14⟩:=z14;dsimp only at hz14 ⊢;have hcv:=CS8 (Az8 ha14).1;have hl5:c.homes.l.length≤5:=hcv.few;have hgd:∀ p∈l,Gd c.pl p:=fun p hp=>Be8 hcv.slots.1 hcv.few hcv.hom hcv.wrong.2 _ p (hz14.mem_iff.1 hp)
 iterate 5 refine vQ ?_
 refine nsr ?_;refine Xg (Lp CW9) (fun b6=>?_)
 refine nnx ?_;refine Lx ?_;refine csr ?_;refine vQ ?_;refine Xg (Bu0 AJ4 rfl (fun w hm=>hm.at mm2)) (fun b18=>?_)
 refine nnx ?_;refine Ks ?_;refine Af5 (X:=List Nat) (n0:=[(b2,_),(b3,_),(bc,_),(m,_)]) (l.length) (fun j us q=>q) (fun _ _=>_) (fun j us=>[(b6,enO (gatX c.pl l us)),(b18,itK m (rv l) us)]) (fun j us=>[]) (fun j us=>us.Nodup∧(∀ i∈us,i < l.length)∧us.length=j) [] ⟨List.nodup_nil,(fun _ h=>by cases h),rfl⟩ rfl (Kh (t:=2) rfl (Kh (t:=3) rfl (Kh (t:=4) rfl (Kh (t:=6) rfl (Kh (t:=18) rfl (Sub.nil _)))))) (qD (qC (qI (qH (qE (Pick.skip (Pick.same rfl))))))) ?_;intro j us jN jI;obtain ⟨hxn,hxl,hxj⟩:=jI;refine csr ?_;refine Bt0 rfl (fun w hm=>hm.at mm5) (fun _=>(.there .here)) rfl (fun i19 hi19 hx19=>?_) (fun hx19=>?_)
 ·have hil:i19 < l.length:=by (rw [← Bo1];exact hi19)
  obtain ⟨p,hp⟩:∃ p,l[i19]=p:=⟨_,rfl⟩;have hg:=hgd p (hp ▸ List.getElem_mem hil);obtain ⟨s,n0⟩:=p;obtain ⟨x0,x1,x2,x3,x4,hse⟩:=BK7 hg.len;dsimp only at hse;have hsl:s.length=5:=hg.len;have hge:l.getD i19 zE=(s,n0):=by (rw [List.getD_eq_getElem?_getD,List.getElem?_eq_getElem hil,hp];rfl)
  have hcs:[Value.int .i64 x0,.I x1,.I x2,.I x3,.I x4]=s.map (Value.int .i64):=by rw [hse];rfl
  refine vQ ?_;refine nnx ?_;refine Lx ?_;refine An9 rfl ?_;refine Kd ?_;refine Ke ?_;refine Ks ?_;refine csr ?_;refine Xa (Bs7 (l:=rv l) (v:=.tuple #[.agg #[.I x0,.I x1,.I x2,.I x3,.I x4],.I n0]) rfl (fun w hm=>hm.at mm1) (fun w hm=>hm.at mm5) hi19 (by simp [rv,hp,ka,hse])) ?_;refine vQ ?_;refine Xg (Lp AJ2) (fun b7=>?_)
  refine sQ .here ?_;refine nsr ?_;refine vQ ?_;refine nnx ?_;refine Lx ?_;refine csr ?_;refine vQ ?_;refine vQ ?_;refine Xa (Lo rfl Ay0) ?_;refine Xa (Lo rfl Bx5) ?_;refine Xa (Aa7 rfl mm5 Bv1 rfl) ?_;refine Xa (Ae0 rfl Ag0) ?_;refine vQ ?_;refine nnx ?_;refine Ks ?_;refine Ad5 (c.homes.l.length) (fun k q=>(29,.I (k:Int))::(8,.I ((misC c.pl s k:Nat):Int))::q) (fun _=>_) (fun _=>[]) (fun _=>True) trivial rfl (Ah7 (t:=29) rfl rfl (Ah7 (t:=8) rfl rfl (Kh (t:=2) rfl (Kh (t:=3) rfl (Kh (t:=4) rfl (Kh (t:=6) rfl (Kh (t:=7) rfl (Kh (t:=18) rfl (Kh (t:=27) rfl (Kh (t:=28) rfl (Sub.nil _))))))))))) (qF (qE (qC .nil))) ?_;intro k kN kI;clear kI;refine csr ?_;refine vQ ?_;refine nnx ?_;refine Lx ?_;refine Ly rfl ?_ ?_
  ·intro c1
   have c1':=c1;clear c1;try simp only [nH] at c1'
   have hk:k < c.homes.l.length:=by omega
   have hmb:=Dt0 c.pl s k;refine Kd ?_;refine Ke ?_;refine Lx ?_;refine Ks ?_;refine csr ?_;refine vQ ?_;refine Xa (Aa3 rfl rfl Ag0 (by omega) (by omega) (Sl.ptrM hC.homes hk)) ?_;refine Xa (Aa5 rfl (fun w hm=>Sl.loadM1 hC.homes (by decide) hm (by simp) Ae2 hk (v:=.I (c.homes.l.getD k 0)) (by simp [intC,hk]))) ?_;refine vQ ?_;refine vQ ?_;refine nsr ?_;refine vQ ?_;refine Xa (Aa8 rfl rfl AI4 (by omega) (by omega)) ?_;refine Xa (Aa5 rfl (fun w hm=>AS3 (l:=s) (hm.at mm0) hcs Ae2 (i:=(k:Int)) (by omega) (by omega) rfl)) ?_;refine vQ ?_;refine vQ ?_
   refine Ab0 (dj:=38) (dp:=44) 6 rfl (fun g38=>by
    have g38':=g38;try simp only [nH] at g38'
    refine vQ ?_;refine Xa (Aa8 rfl rfl AI4 (by omega) (by omega)) ?_;refine Xa (Aa5 rfl (fun w hm=>AS3 (l:=s) (hm.at mm0) hcs Ae2 (i:=(k:Int)) (by omega) (by omega) rfl)) ?_
    iterate 3 refine vQ ?_
    exact Ac0 (Kh rfl (qU (qT (Ad3 rfl (by rw [g38]) (Ab3 _))))) (List.Sublist.refl _)
   ) (fun g38=>by
     iterate 5 refine nQ ?_
     refine vQ ?_;exact Ac0 (Kh rfl (qU (qT (Ad3 rfl (by rw [g38]) (Ab3 _))))) (List.Sublist.refl _)
   ) ?_
   refine nnx ?_;refine Ly rfl ?_ ?_
   ·intro c2
    have c2':=c2;clear c2;try simp only [nH] at c2'
    have hmc:=Dd5 (c:=c.pl) (s:=s) (k:=k) c2';refine Kw ?_;refine vQ ?_;refine Xa (Kb rfl rfl (Lq _ ⟨by omega,by omega⟩)) ?_;refine vQ ?_;refine Kf ?_;refine Ac8 ?_;refine Ke ?_;refine Kw ?_;refine Xa (Kb rfl rfl (Lq _ ⟨by omega,by omega⟩)) ?_;refine vQ ?_;refine Kf ?_;exact Ac1 (by omega) trivial rfl (Ah7 (t:=29) rfl rfl (Ah7 (t:=8) rfl (by first | (rw [hmc];rfl) | rw [hmc]) (Kh (t:=2) rfl (Kh (t:=3) rfl (Kh (t:=4) rfl (Kh (t:=6) rfl (Kh (t:=7) rfl (Kh (t:=18) rfl (Kh (t:=27) rfl (Kh (t:=28) rfl (Sub.nil _))))))))))) (qF (qE (qC .nil)))
   intro c2;have c2':=c2;clear c2;try simp only [nH] at c2'
   have hmc:=Ds9 (c:=c.pl) (s:=s) (k:=k) c2';refine Kd ?_;refine Ac8 ?_;refine Ke ?_;refine Kw ?_;refine Xa (Kb rfl rfl (Lq _ ⟨by omega,by omega⟩)) ?_;refine vQ ?_;refine Kf ?_;exact Ac1 (by omega) trivial rfl (Ah7 (t:=29) rfl rfl (Ah7 (t:=8) rfl (by first | (rw [hmc];rfl) | rw [hmc]) (Kh (t:=2) rfl (Kh (t:=3) rfl (Kh (t:=4) rfl (Kh (t:=6) rfl (Kh (t:=7) rfl (Kh (t:=18) rfl (Kh (t:=27) rfl (Kh (t:=28) rfl (Sub.nil _))))))))))) (qF (qE (qC .nil)))
  intro c1;have c1':=c1;clear c1;try simp only [nH] at c1'
  obtain rfl:k=c.homes.l.length:=by omega
  refine Ls ?_;refine Ac6 ?_;refine Ac6 ?_;refine Aa6 ?_;refine Ke ?_;refine Kw ?_;refine vQ ?_;refine AV9 (Ab6 rfl DC1) rfl rfl rfl (.there .here) (fun w hm=>BV0 b6 (gatX c.pl l us) _ w (hm.at mm1)) ?_;refine Kf ?_;refine Ac8 ?_;exact Ac3 (us++[i19]) (by have:=DE9 hxn hxl hil hx19;omega) ⟨AU4 hxn hx19,BU7 hxl hil,by simp [hxj]⟩ rfl (Kh (t:=2) rfl (Kh (t:=3) rfl (Kh (t:=4) rfl (Kh (t:=6) rfl (Kh (t:=18) rfl (Sub.nil _)))))) (.cons (.there .here) (by rw [De6,hge];rfl) (qD (qD (qD (qD (qD .nil))))))
 have hxall:∀ i,i < l.length→i∈us:=fun i hi=>hx19 i (by rw [Bo1];exact hi)
 have hgx:=Du3 hz14 hxn hxl hxall;refine vQ ?_;refine nnx ?_;refine Lx ?_;refine Ae9 rfl ?_;refine Ls ?_;refine Ac6 ?_;refine Ac6 ?_;refine Aa6 ?_;refine Ke ?_;refine csr ?_;refine Xa (Lo rfl At8) ?_;refine Xa (Aa7 rfl mm0 Ae2 rfl) ?_;refine Xa (Lo rfl AR1) ?_;refine Xa (Aa7 rfl mm0 Ae2 rfl) ?_;refine Xa (Lr (parts:=[(0,.tmp 51),(1,.tmp 53)]) rfl Ac9 Aj2 rfl) ?_;refine sQ (.there (.there .here)) ?_;refine sQ (.there (.there (.there .here))) ?_;refine nnx ?_;refine Kt ?_;exact AW0 AQ2 CQ9 (.r2 rfl (.agg rfl mm2 Ah1 rfl) (.one rfl mm3 Af7 rfl)) (by rw [DJ9 ha14,hgx])
theorem AH5:Enters π 15:=eZ func15
theorem DN6:Enters π 66:=eZ func66
theorem DN5:Enters π 67:=eZ func67
theorem DN4:Enters π 68:=eZ func68
theorem DN3:Enters π 69:=eZ func69
theorem Bw0:pairB π 23=true:=by kernel_rfl
theorem CD7:placesB π 71=some [(0,1),(1,1),(2,1),(3,1)]:=by kernel_rfl
theorem AP3:placesB π 73=some [(0,1),(1,1),(2,1),(3,1)]:=by kernel_rfl
theorem Do2:zeroB π 71=some [.I 0,.slice none 0 0,.I 0,.slice none 0 0]:=by kernel_rfl
end Go.Q
namespace Go.Le
open Go Go.Eng Go.Hp Go.Pw1 Go.RowKit
structure HZ where
 bb:Nat
 b1:Nat
 b2:Nat
 bc:Nat
def hT:List Tn:=[⟨0,[63],[109,105,42]⟩,⟨0,[42],[109,105,108,108]⟩,⟨0,[50],[63,97,42]⟩]
def hL1:List Str:=[[102,97,108,108,115],[109,105,108,108],[112,97,115,115]]
def hL2:List Str:=[[109,105,108,108],[108,97,107,101]]
def hM:Mx:=⟨[⟨1,hL1⟩,⟨2,hL2⟩],hT⟩
def hA (z:HZ):MxA:=⟨[⟨⟨1,hL1⟩,some ⟨z.b1,0,none⟩,z.b1,0,3⟩,⟨⟨2,hL2⟩,some ⟨z.b2,0,none⟩,z.b2,0,2⟩],some ⟨z.bb,0,none⟩,z.bb,0,2,hT,some ⟨z.bc,0,none⟩,z.bc,0,3⟩
theorem DS5 (z:HZ):(hA z).pl=hM:=rfl
theorem DK4:waysE hM=0:=by kernel_rfl
theorem Du0:FirstX hM=([1,3,4],0):=by kernel_rfl
theorem DS4 (z:HZ):MSm (hA z):=⟨by show 2≤1000;decide,by show 3≤1000;decide,fun x hx=>by
  rcases List.mem_cons.1 hx with rfl | hx
  · exact ⟨by show 3≤1000;decide,fun t ht=>by
     simp only [hL1,List.mem_cons,List.not_mem_nil,or_false] at ht
     rcases ht with rfl | rfl | rfl <;> decide⟩
  · obtain rfl:=List.mem_singleton.1 hx
    exact ⟨by show 2≤1000;decide,fun t ht=>by
     simp only [hL2,List.mem_cons,List.not_mem_nil,or_false] at ht
     rcases ht with rfl | rfl <;> decide⟩,fun t ht=>by
  have ht:t∈hT:=ht;simp only [hT,List.mem_cons,List.not_mem_nil,or_false] at ht
  rcases ht with rfl | rfl | rfl <;> decide⟩
theorem CI8 {a b:List Int} (h:a.length=b.length) (h2:a.take a.length=b.take a.length):a=b:=by
 rw [List.take_length,h,List.take_length] at h2;exact h2
theorem Cm4 {a b:List Int} {k:Nat} (ha:k < a.length) (hb:k < b.length) (h:a.take k=b.take k) (h2:a[k]=b[k]):a.take (k + 1)=b.take (k + 1):=by
 rw [List.take_succ_eq_append_getElem ha,List.take_succ_eq_append_getElem hb,h,h2]
def cA (bh bl:Nat):Bk.CbA:=⟨4,⟨[0,1,2],some ⟨bh,0,none⟩,bh,0,3⟩,1,⟨[⟨0,0,0,0⟩,⟨0,1,1,0⟩,⟨1,0,0,0⟩,⟨1,1,1,0⟩],some ⟨bl,0,none⟩,bl,0,4⟩⟩
def cP:Bk.Cb:=⟨4,[0,1,2],1,[⟨0,0,0,0⟩,⟨0,1,1,0⟩,⟨1,0,0,0⟩,⟨1,1,1,0⟩]⟩
theorem DS9 (bh bl:Nat):(cA bh bl).pl=cP:=rfl
theorem DR9:MisX cP=((0,1),0):=by kernel_rfl
end Go.Le
namespace Go.Q
open Go Go.Eng Go.Le Go.Hp Go.Pw1 Go.RowKit
abbrev hW (z:HZ):Blks:=[(z.bb,.cells [.I 1,.slice (some ⟨z.b1,0,none⟩) 3 3,.I 2,.slice (some ⟨z.b2,0,none⟩) 2 2].toArray 65),(z.b1,.cells (strsV hL1).flatten.toArray 9),(z.b2,.cells (strsV hL2).flatten.toArray 9),
 (z.bc,.cells (hT.map Tn.cells).flatten.toArray 165)]
theorem DS6 {w:World} {z:HZ} (h:∀ b o,(b,o)∈hW z→w.heap[b]? = some o):MOk w (hA z):=by
 refine ⟨Sl.rows (xs:=(hA z).bxs.map BxA.cells) (h _ _ mm0) (by simp [hA,BxA.cells]),fun x hx=>?_,?_⟩
 · rcases List.mem_cons.1 hx with rfl | hx
   · exact Sl.rows (h _ _ mm1) (by simp [hL1,strsV])
   · obtain rfl:=List.mem_singleton.1 hx
     exact Sl.rows (h _ _ mm2) (by simp [hL2,strsV])
 · exact Sl.rows (h _ _ mm3) (fun x hx=>by obtain ⟨a,_,rfl⟩:=List.mem_map.1 hx;rfl)
theorem BJ2 (W:World):CC 67 #[] W (News (fun z:HZ=>(hA z).v) (fun z=>hW z) W):=by
 refine cS func67 ?_;refine st ?_;refine zn (Lp BQ4) (fun b0=>?_)
 refine zn (Lu (parts:=[(0,.const (.string ⟨#[102,97,108,108,115]⟩)),(1,.const (.string ⟨#[109,105,108,108]⟩)),(2,.const (.string ⟨#[112,97,115,115]⟩))]) rfl Ao3 AW3 rfl rfl rfl rfl) (fun b1=>?_)
 refine lv (Lr (parts:=[(0,.const (.I 1)),(1,.tmp 1)]) rfl AM5 Be9 rfl) ?_;refine zn (Lu (parts:=[(0,.const (.string ⟨#[109,105,108,108]⟩)),(1,.const (.string ⟨#[108,97,107,101]⟩))]) rfl Ao3 AW3 rfl rfl rfl rfl) (fun b3=>?_)
 refine lv (Lr (parts:=[(0,.const (.I 2)),(1,.tmp 3)]) rfl AM5 Be9 rfl) ?_;refine zn (Lu (parts:=[(0,.tmp 2),(1,.tmp 4)]) rfl Bv7 AM5 rfl rfl rfl rfl) (fun b5=>?_)
 refine lv (Lr (parts:=[(1,.const (.string ⟨#[63]⟩)),(2,.const (.string ⟨#[109,105,42]⟩))]) rfl AD5 AJ8 rfl) ?_;refine lv (Lr (parts:=[(1,.const (.string ⟨#[42]⟩)),(2,.const (.string ⟨#[109,105,108,108]⟩))]) rfl AD5 AJ8 rfl) ?_;refine lv (Lr (parts:=[(1,.const (.string ⟨#[50]⟩)),(2,.const (.string ⟨#[63,97,42]⟩))]) rfl AD5 AJ8 rfl) ?_;refine zn (Lu (parts:=[(0,.tmp 6),(1,.tmp 7),(2,.tmp 8)]) rfl Be1 AD5 rfl rfl rfl rfl) (fun b9=>?_)
 refine lv (Lr (parts:=[(0,.tmp 5),(1,.tmp 9)]) rfl BQ4 BF1 rfl) ?_;refine sQ (.there (.there (.there (.there .here)))) ?_;refine su ?_;exact Ld (chg:=[]) (.r1 rfl (.agg rfl mm4 Cl6 rfl)) (fun _ hm=>⟨⟨b5,b1,b3,b9⟩,rfl,hm.pick (qD (qH (qD (qC .nil))))⟩)
abbrev lOZ:=Nat×Nat×LV
abbrev lozB (z:lOZ) (l:LV):Blks:=[(z.1,.cells (l++z.2.2).toArray 3)]
theorem BJ4 (z:HZ) (W:World) (h:∀ b o,(b,o)∈hW z→W.heap[b]? = some o):CC 66 #[(hA z).v] W (News (fun y:lOZ=>.tuple #[.slice (some ⟨y.1,0,none⟩) 3 y.2.1,.I 0]) (fun y=>lozB y [.I 1,.I 3,.I 4]) W):=by
 have h1:=BW3 (hA z) (DS4 z) W (DS6 h) DK4;rw [DS5,Du0] at h1;refine h1.mono ?_
 rintro e w' ⟨⟨x,hx⟩,rfl,hm⟩
 obtain ⟨b,c,r,rfl,_⟩:=hx.has (by decide);exact ⟨(b,c,r),rfl,hm⟩
theorem BV3 (a b:List Int) (qa:OA) (ba oa ca:Nat) (qb:OA) (bb ob cb:Nat) (ha:a.length≤1000) (hb:b.length≤1000) (W:World) (hA:Sl W qa ba oa 1 (intsW a)) (hB:Sl W qb bb ob 1 (intsW b)) :
  CC 69 #[.slice qa a.length ca,.slice qb b.length cb] W (Pure (.bool (decide (a=b))) W):=by
 refine cS func69 ?_;refine su ?_;refine cn rfl ?_ ?_
 ·intro c0'
  refine su ?_;exact Aa9 rZ (by rw [decide_eq_false (fun e=>by rw [e] at c0';exact c0' rfl)])
 intro c0';have heq:a.length=b.length:=by omega
 refine st ?_;refine Ad5 (a.length) (fun k q=>(5,.I (k:Int))::q) (fun _=>_) (fun _=>[]) (fun k=>a.take k=b.take k) (by simp) rfl (zE 5 rfl rfl (zS 0 rfl (zS 1 rfl (Sub.nil _)))) .nil ?_;intro k kN kI;refine su ?_;refine cn rfl ?_ ?_
 ·intro c1'
  have hk:k < a.length:=by omega
  have hk2:k < b.length:=by omega
  obtain ⟨x,hx⟩:∃ x,a[k]=x:=⟨_,rfl⟩;obtain ⟨y,hy⟩:∃ y,b[k]=y:=⟨_,rfl⟩;refine st ?_;refine Ab5 8 Ah0 .nil ?_;refine zv 0 rfl (Aa4 rfl) ?_;refine zv 1 rfl (Aa4 rfl) ?_;refine zv 2 rfl (Aa3 rfl rfl Ag0 (by omega) (by omega) (hA.ptrM hk)) ?_;refine zv 3 rfl (Aa5 rfl (fun w hm=>hA.loadM1 (by decide) hm (by simp) Ae2 hk (v:=.I x) (by simp [hx]))) ?_;refine zv 4 rfl (Aa4 rfl) ?_;refine zv 5 rfl (Aa4 rfl) ?_;refine zv 6 rfl (Aa3 rfl rfl Ag0 (by omega) (by omega) (hB.ptrM hk2)) ?_;refine zv 7 rfl (Aa5 rfl (fun w hm=>hB.loadM1 (by decide) hm (by simp) Ae2 hk2 (v:=.I y) (by simp [hy]))) ?_;refine zt ?_;refine zp 8 ?_;refine zd ?_;refine st ?_;refine cn rfl ?_ ?_
  ·intro c2'
   refine su ?_;exact Aa9 rZ (by rw [decide_eq_false (fun e=>by subst e;exact c2' (by rw [← hx,← hy]))])
  intro c2';refine st ?_;refine lA ?_;exact Ac1 (by omega) (Cm4 hk hk2 kI (by rw [hx,hy];exact c2')) rfl (zE 5 rfl rfl (zS 0 rfl (zS 1 rfl (Sub.nil _)))) .nil
 intro c1';obtain rfl:k=a.length:=by omega
 refine Ls ?_;refine su ?_;refine Aa6 ?_;refine su ?_;exact Aa9 rZ (by rw [decide_eq_true (CI8 heq kI)])
theorem Dt1 {y:lOZ} {a b:List Int} {w:World} {bb:Nat} {cb:Nat} (h:w.heap[y.1]? = some (.cells ((intsW a).flatten++y.2.2).toArray 3)) (h2:w.heap[bb]? = some (.cells (intsW b).flatten.toArray 3)) (ha:a.length≤1000) (hb:b.length≤1000) :
  CC 69 #[.slice (some ⟨y.1,0,none⟩) a.length y.2.1,.slice (some ⟨bb,0,none⟩) b.length cb] w (Pure (.bool (decide (a=b))) w) :=
 BV3 a b _ y.1 0 _ _ bb 0 _ ha hb w (Sl.rowsR (t:=y.2.2) h (fun x hx=>by obtain ⟨a,_,rfl⟩:=List.mem_map.1 hx;rfl)) (Sl.rows h2 (fun x hx=>by obtain ⟨a,_,rfl⟩:=List.mem_map.1 hx;rfl))
theorem BU5 (bh bl:Nat) (W:World) (hh:W.heap[bh]? = some (.cells [Value.int .i64 0,.I 1,.I 2].toArray 3))
  (hl:W.heap[bl]? = some (.cells [Value.int .i64 0,.I 0,.I 0,.I 0,.I 0,.I 1,.I 1,.I 0,.I 1,.I 0,.I 0,.I 0,.I 1,.I 1,.I 1,.I 0].toArray 73)) :
  CC 68 #[.agg #[.I 4,.slice (some ⟨bh,0,none⟩) 3 3,.I 1,.slice (some ⟨bl,0,none⟩) 4 4]] W (Pure (.tuple #[.agg #[.I 0,.I 1],.I 0]) W):=by
 have h:=Bf9 (cA bh bl) ⟨by show 3≤10000;decide,by show 4≤10000;decide⟩ ⟨by show 4≤4;decide,fun h=>absurd h (show ¬ (cA bh bl).loans.q=none from fun h=>(by cases h)),fun a h=>by (obtain rfl:=Option.some.inj h;rfl)⟩ W
  ⟨Sl.rows (xs:=[(0:Int),1,2].map Bk.intC) hh (fun x hx=>by obtain ⟨a,_,rfl⟩:=List.mem_map.1 hx;rfl),Sl.rows (xs:=(cA bh bl).loans.l.map Bk.Ln.cells) hl (fun x hx=>by obtain ⟨a,_,rfl⟩:=List.mem_map.1 hx;rfl)⟩
 rw [DS9,DR9] at h;exact h
theorem Ah6 (lo hi:Int) (W:World):CC 15 #[.I lo,.I hi] W (Pure (.agg #[.I lo,.I hi]) W):=by
 refine cS func15 ?_;refine st ?_;refine zn (Lp Ac9) (fun b4=>?_)
 refine lv (Lr (parts:=[(0,.tmp 5),(1,.tmp 6)]) rfl Ac9 Aj2 rfl) ?_;refine sQ .here ?_;refine su ?_;exact Aa9 (.r1 rfl (.agg rfl mm0 Ah1 rfl)) (by first | rfl | simp)
set_option maxRecDepth 4000 in
theorem BA7 (W:World):CC 24 #[] W (Pure (.bool true) W):=by
 refine cS func24 ?_;refine st ?_;refine Xj (zF rfl DN5) (fun w hm=>BJ2 w) (fun b6=>?_)
 refine Xj (zF rfl DN6) (fun w hm=>BJ4 b6 w (fun b o h=>hm.at (by simp only [List.mem_cons,List.not_mem_nil,or_false] at h;rcases h with h | h | h | h <;> (rw [h];first | exact mm0 | exact mm1 | exact mm2 | exact mm3)))) (fun b7=>?_)
 refine st ?_;refine zn (Lu (parts:=[(0,.const (.I 0)),(1,.const (.I 1)),(2,.const (.I 2))]) rfl Ag0 Ao7 rfl rfl rfl rfl) (fun b11=>?_)
 refine lv (Lr (parts:=[]) rfl AT1 AP3 rfl) ?_;refine lv (Lr (parts:=[(1,.const (.I 1)),(2,.const (.I 1))]) rfl AT1 AP3 rfl) ?_;refine lv (Lr (parts:=[(0,.const (.I 1))]) rfl AT1 AP3 rfl) ?_;refine lv (Lr (parts:=[(0,.const (.I 1)),(1,.const (.I 1)),(2,.const (.I 1))]) rfl AT1 AP3 rfl) ?_;refine zn (Lu (parts:=[(0,.tmp 12),(1,.tmp 13),(2,.tmp 14),(3,.tmp 15)]) rfl BD4 AT1 rfl rfl rfl rfl) (fun b16=>?_)
 refine lv (Lr (parts:=[(0,.const (.I 4)),(1,.tmp 11),(2,.const (.I 1)),(3,.tmp 16)]) rfl Do2 CD7 rfl) ?_;refine zc (zF rfl DN4) (fun w hm=>BU5 b11 b16 w (hm.at mm1) (hm.at mm0)) ?_;refine zn (Lp Ac9) (fun b3=>?_)
 refine sQ .here ?_;refine st ?_;refine Ab5 10 Ah0 (qG .nil) ?_;refine zw 0 ?_;refine zA 1 ?_;refine Xf rfl (Lu (parts:=[(0,.const (.I 1)),(1,.const (.I 3)),(2,.const (.I 4))]) rfl Ag0 Ao7 rfl rfl rfl rfl) (fun b22=>(Aa2 (qG (qC .nil)) (qD (qD (qD (qD (qD (qD (qD (qD .nil)))))))) rfl ?_))
 refine zA 2 ?_;refine Xd rfl (zF rfl DN3) (fun w hm=>Dt1 (y:=b7) (a:=[1,3,4]) (b:=[1,3,4]) (hm.at mm4) (hm.at mm0) (by decide) (by decide)) (Aa2 (qG (qC .nil)) (qG (qC .nil)) rfl ?_)
 refine zw 3 ?_;refine Ag6 (dj:=24) true rfl (by simp) ?_;refine zw 4 ?_;refine zw 5 ?_;refine zw 6 ?_;refine zw 7 ?_;refine Ag6 (dj:=28) true rfl (by simp) ?_;refine zw 8 ?_;refine zA 9 ?_;refine Xd rfl (zF rfl AH5) (fun w hm=>Ah6 _ _ w) (Aa2 (qG (qC .nil)) (qG (qC .nil)) rfl ?_)
 refine zt ?_;refine zo 10 rfl (AY6 rfl rfl Bw0) ?_;refine zp 11 ?_;refine zp 12 ?_;refine Bl3 (dj:=33) true rfl (by simp) ?_;refine zp 13 ?_;refine zp 14 ?_;refine zp 15 ?_;refine zp 16 ?_;refine zd ?_;refine su ?_;exact rP
end Go.Q
namespace Go.Dk
open Go Go.Eng Go.RowKit Go.Pw1 Go.Hp
structure BenA (W:World) (d:DkX):Prop where
 v:Sl W (ownQ d.v) (ownK d.v) 0 13 (d.vs.map VwX.cellsS)
 t:∀ x∈d.vs,Sl W (ownQ x.t) (ownK x.t) 0 9 (x.p.things.map Th.cells)
 m:MOk W d.mx
 sm:MSm d.mx
end Go.Dk
namespace Go.Q
open Go Go.Eng Go.Dk Go.RowKit Go.Pw1 Go.Hp
theorem AI3 {W0 w:World} {d:DkX} {tl:Blks} (hd:DkOk d) (hm:Mem W0 [] (dkB d++tl) w):BenA w d:=by
 have hat:∀ b o,(b,o)∈dkB d→w.heap[b]? = some o:=fun b o hb=>(hm.newd b o (List.mem_append_left _ hb)).2
 have e1:d.vs.map VwX.cells=d.vs.map VwX.cellsS:=List.map_congr_left fun x hx=>VwX.cells_eq (hd.vs x hx)
 have e2:d.bs.map BoX.cells=(d.bs.map BoX.a).map BxA.cells:=by
  rw [List.map_map];exact List.map_congr_left fun x hx=>BoX.cells_eq (hd.bs x hx)
 refine ⟨?_,fun x hx=>?_,⟨?_,fun x hx=>?_,?_⟩,⟨?_,?_,fun x hx=>?_,fun t ht=>?_⟩⟩
 · rw [← e1]
   exact An3 (f:=VwX.cells) (e:=46) (fun _=>rfl) (by decide) hd.v (fun b o h=>hat b o (DP4 h))
 · exact An3 (f:=Th.cells) (e:=145) (fun _=>rfl) (by decide) (hd.vs x hx) (fun b o h=>hat b o (DP5 hx h))
 · show Sl w (ownQ d.b) (ownK d.b) 0 2 ((d.bs.map BoX.a).map BxA.cells)
   rw [← e2];exact An3 (f:=BoX.cells) (e:=65) (fun _=>rfl) (by decide) hd.b (fun b o h=>hat b o (DP7 h))
 · obtain ⟨y,hy,rfl⟩:=List.mem_map.1 hx
   have h1:=hd.bs y hy;rw [Ap3] at h1;exact An3 (f:=strC) (e:=9) (fun _=>rfl) (by decide) h1 (fun b o h=>hat b o (Dn3 hy (by rw [boB,Ap3];exact h)))
 · exact An3 (f:=Tn.cells) (e:=165) (fun _=>rfl) (by decide) hd.c (fun b o h=>hat b o (DP6 h))
 · show (d.bs.map BoX.a).length≤1000
   rw [List.length_map]
   have:=hd.few
   omega
 · have:=hd.few
   show d.cs.length≤1000
   omega
 · obtain ⟨y,hy,rfl⟩:=List.mem_map.1 hx
   exact ⟨(hd.ti y hy).1,(hd.ti y hy).2⟩
 · exact hd.tx t ht
end Go.Q
namespace Go.Dk
open Go Go.Eng Go.RowKit Go.Pw1 Go.Hp
theorem BenA.b {W:World} {d:DkX} (h:BenA W d):Sl W (ownQ d.b) (ownK d.b) 0 2 (d.bs.map BoX.cellsS):=by
 have h:=h.m.bx;unfold DkX.mx at h;dsimp only at h;rw [List.map_map] at h;exact h
theorem BenA.c {W:World} {d:DkX} (h:BenA W d):Sl W (ownQ d.c) (ownK d.c) 0 3 (d.cs.map Tn.cells):=h.m.cd
end Go.Dk
namespace Go.Q
open Go Go.Eng Go.Dk Go.RowKit Go.Pw1 Go.Hp
end Go.Q
namespace Go.Dk
open Go Go.Eng Go.RowKit Go.Pw1 Go.Hp
def playX (c:Cd):Bn→List Str→Bn×List Str
 | b,[]=>(b,[])
 | b,s::l=>((playX c (stepX c b s).1 l).1,echoX (stepX c b s).2.1 (stepX c b s).2.2::(playX c (stepX c b s).1 l).2)
theorem BE9 (c:Cd):∀ (l:List Str) (b:Bn) (s:Str),playX c b (l++[s])=((stepX c (playX c b l).1 s).1,(playX c b l).2++[echoX (stepX c (playX c b l).1 s).2.1 (stepX c (playX c b l).1 s).2.2])
 | [],b,s=>rfl
 | t::l,b,s=>by
   have ih:=BE9 c l (stepX c b t).1 s;simp only [List.cons_append,playX,ih]
theorem Ba6 (c:Cd):∀ (l:List Str) (b:Bn),(playX c b l).2.length=l.length
 | [],_=>rfl
 | s::l,b=>by simp only [playX,List.length_cons];rw [Ba6 c l]
end Go.Dk
namespace Go.Q
open Go Go.Eng Go.Dk Go.RowKit Go.Pw1 Go.Hp
theorem Ci5:Enters π 11:=eZ func11
theorem Dn0:Enters π 25:=eZ func25
theorem Dm3:Enters π 65:=eZ func65
theorem DM8:Enters π 8:=eZ func8
theorem CE1:placesB π 26=some [(0,2),(2,2),(4,1),(5,1),(6,1),(7,1)]:=by kernel_rfl
theorem CE0:placesB π 28=some [(0,8),(8,1),(9,1),(10,1),(11,2),(13,1),(14,1),(15,1),(16,1)]:=by kernel_rfl
end Go.Q
namespace Go.Dk
open Go Go.Eng Go.RowKit Go.Pw1 Go.Hp
theorem CN1 {c:Cd} {l:List Str} (h:farL c l=true) (hl:∀ s∈l,s.length≤400):40 < c.p.things.length∨60 < l.length:=by
 rcases Lc 40 c.p.things.length with h1 | h1
 · exact .inl h1
 · rcases Lc 60 l.length with h2 | h2
   · exact .inr h2
   · rw [DK6 (by omega) hl] at h;cases h
def c3:Cd:=⟨⟨⟨9000,9000⟩,⟨65,66⟩,5,2000,100000,[⟨⟨100,101⟩,⟨0,1⟩,⟨-96,-95⟩,⟨0,2⟩,3000⟩,⟨⟨50,50⟩,⟨10,12⟩,⟨-10,-8⟩,⟨14,15⟩,0⟩]⟩,3200,50,20,⟨6000,6500⟩,300,900,100,200⟩
structure RunD (c:Cd) (l:List Str) (d:DkX):Prop where
 dk:DkOk d
 rt:Right c d.pl
 pl:(playX (bareC c) noBn l).1=d.pl
theorem Cn1 (c:Cd):RunD c [] noDk:=⟨Ds6,Cn7 c,rfl⟩
theorem CC5 {c:Cd} (hc:cardIs c=true) {l:List Str} {d:DkX} {v:Str} {z:DkX×Str×Int} (h:RunD c l d) (hd:DkOk z.1) (hs:(z.1.pl,z.2.1,z.2.2)=stepX (bareC c) d.pl v):RunD c (l++[v]) z.1 :=
 ⟨hd,by have h9:=Cn6 hc h.rt v;rw [← hs] at h9;exact h9,by rw [BE9,h.pl,← hs]⟩
end Go.Dk
namespace Go.Q
open Go Go.Eng Go.Dk Go.RowKit Go.Pw1 Go.Hp
theorem CN3 (c:Cd) (q:OA) (cap:Nat) (l:List Str) (ql:OA) (bl ol cl:Nat) (W:World) (hls:Sl W ql bl ol 1 (l.map strC)) (hll:l.length≤9223372036854775807) (h:farL c l=true) :
  CC 5 #[c.v q cap,.slice ql l.length cl] W (Pure (.bool true) W):=by
 refine cS func5 ?_;refine st ?_;refine zn (Lm rfl) (fun b2=>?_)
 refine Ad5 (l.length) (fun k q=>(9,.I (k:Int))::q) (fun _=>_) (fun _=>[]) (fun k=>∀ s∈l.take k,s.length≤400) (by simp) rfl (zE 9 rfl rfl (zS 1 rfl (zS 2 rfl (zS 7 rfl (zS 8 rfl (Sub.nil _)))))) (qC .nil) ?_;intro k kN kI;refine st ?_;refine cn rfl ?_ ?_
 ·intro c0'
  have hk:k < l.length:=by omega
  obtain ⟨v,hv⟩:∃ v,l[k]=v:=⟨_,rfl⟩;refine st ?_;refine lv (Aa3 rfl rfl Ao3 (by omega) (by omega) (hls.ptrM (i:=k) hk)) ?_;refine lv (Aa5 rfl (fun w hm=>Sl.loadM1 hls (by decide) hm (by simp) AM8 hk (v:=.string (bs v)) (by simp [strC,hv]))) ?_;refine lv (Aj8 rfl Av6) ?_;refine cn rfl ?_ ?_
  ·intro c1'
   refine su ?_;exact rP
  intro c1';refine st ?_;refine lA ?_;exact Ac1 (by omega) (fun s hs=>by rw [List.take_succ_eq_append_getElem hk,hv] at hs;rcases List.mem_append.1 hs with hs | hs;exact kI s hs;rw [List.mem_singleton] at hs;subst hs;omega) rfl (zE 9 rfl rfl (zS 1 rfl (zS 2 rfl (zS 7 rfl (zS 8 rfl (Sub.nil _)))))) (qC .nil)
 intro c0';have hk:k=l.length:=by omega
 rw [hk,List.take_length] at kI;have hmany:=CN1 h kI;refine Ls ?_;refine su ?_;refine Aa6 ?_;refine su ?_
 refine Ac2 (dj:=22) (dp:=26) 4 rfl (fun g22=>by
  refine st ?_;refine Xa (Ae0 rfl Ao3) ?_;refine sv ?_;exact zs g22
 ) (fun g22=>by
   iterate 3 refine nQ ?_
   refine sv ?_;exact zs g22
 ) ?_
 refine st ?_;refine Ai4 (dj:=27) true rfl (by simp;omega) ?_;refine su ?_;exact rP
theorem Aq1 (c:Cd) (q:OA) (b o cap:Nat) (l:List Str) (ql:OA) (bl ol cl:Nat) (W:World) (hS:Sl W q b o 9 (c.p.things.map Th.cells)) (hls:Sl W ql bl ol 1 (l.map strC)) (h:farL c l=false) :
  CC 5 #[c.v q cap,.slice ql l.length cl] W (Pure (.bool (heavyC c)) W):=by
 obtain ⟨hl3,hl4,hl5⟩:=Ay1 h;refine cS func5 ?_;refine st ?_;refine zn (Lm rfl) (fun b2=>?_)
 refine Ad5 (l.length) (fun k q=>(9,.I (k:Int))::q) (fun _=>_) (fun _=>[]) (fun _=>True) trivial rfl (zE 9 rfl rfl (zS 1 rfl (zS 2 rfl (zS 7 rfl (zS 8 rfl (Sub.nil _)))))) (qC .nil) ?_;intro k kN kI;clear kI;refine st ?_;refine cn rfl ?_ ?_
 ·intro c0'
  have hk:k < l.length:=by omega
  obtain ⟨v,hv⟩:∃ v,l[k]=v:=⟨_,rfl⟩;have hvl:=hl5 v (hv ▸ List.getElem_mem hk);refine st ?_;refine lv (Aa3 rfl rfl Ao3 (by omega) (by omega) (hls.ptrM (i:=k) hk)) ?_;refine lv (Aa5 rfl (fun w hm=>Sl.loadM1 hls (by decide) hm (by simp) AM8 hk (v:=.string (bs v)) (by simp [strC,hv]))) ?_;refine lv (Aj8 rfl Av6) ?_;refine Ly rfl (fun h=>absurd h (by simp;omega)) ?_;intro c1;clear c1;refine st ?_;refine lA ?_;exact Ac1 (by omega) trivial rfl (zE 9 rfl rfl (zS 1 rfl (zS 2 rfl (zS 7 rfl (zS 8 rfl (Sub.nil _)))))) (qC .nil)
 intro c0';refine Ls ?_;refine su ?_;refine Aa6 ?_;refine su ?_
 refine Ac2 (dj:=22) (dp:=26) 4 rfl (fun g22=>by
  refine st ?_;refine Xa (Ae0 rfl Ao3) ?_;refine sv ?_;exact zs g22
 ) (fun g22=>by
   iterate 3 refine nQ ?_
   refine sv ?_;exact zs g22
 ) ?_
 refine st ?_;refine Ai4 (dj:=27) false rfl (by simp;omega) ?_;refine su ?_
 refine Ab0 (dj:=31) (dp:=34) 3 rfl (fun g31=>by
  have g31':=g31;try simp only [nH] at g31'
  refine su ?_;refine Xe (zF rfl DM8) (fun w hm=>AX4 c q b o cap w (hS.mono (by decide) hm (by simp)) (by omega)) ?_;refine sv ?_;exact zs g31
 ) (fun g31=>by
   refine nQ ?_;refine nQ ?_;refine sv ?_;exact zs g31
 ) ?_
 refine su ?_;exact rP
theorem AO8 (a1 a2 a3 a4 a5 a6 a7 a8 a9:Int) (W:World):CC 65 #[.I a1,.I a2,.I a3,.I a4,.I a5,.I a6,.I a7,.I a8,.I a9] W (Pure (Th.v ⟨⟨a2,a3⟩,⟨a4,a5⟩,⟨a6,a7⟩,⟨a8,a9⟩,a1⟩) W):=by
 refine cS func65 ?_;refine st ?_;refine zn (Lp Al6) (fun b18=>?_)
 refine zc (zF rfl AH5) (fun w hm=>Ah6 _ _ w) ?_;refine zc (zF rfl AH5) (fun w hm=>Ah6 _ _ w) ?_;refine lv (Lr (parts:=[(0,.tmp 21),(1,.tmp 24)]) rfl Ba1 AJ9 rfl) ?_;refine zc (zF rfl AH5) (fun w hm=>Ah6 _ _ w) ?_;refine zc (zF rfl AH5) (fun w hm=>Ah6 _ _ w) ?_;refine lv (Lr (parts:=[(0,.tmp 28),(1,.tmp 31)]) rfl Ba1 AJ9 rfl) ?_;refine lv (Lr (parts:=[(0,.tmp 25),(1,.tmp 32),(2,.tmp 33)]) rfl Al6 Bo6 rfl) ?_;refine sQ .here ?_;refine su ?_;exact Aa9 (.r1 rfl (.agg rfl mm0 Az2 rfl)) (by first | rfl | simp)
theorem AI0 (W:World):CC 23 #[] W (News (fun b:Nat=>c3.v (some ⟨b,0,none⟩) 2) (fun b=>[(b,.cells (c3.p.things.map Th.cells).flatten.toArray 145)]) W):=by
 refine cS func23 ?_;refine st ?_;refine zn (Lp Bu3) (fun b0=>?_)
 refine zc (zF rfl AH5) (fun w hm=>Ah6 _ _ w) ?_;refine zc (zF rfl AH5) (fun w hm=>Ah6 _ _ w) ?_;refine lv (Lr (parts:=[(0,.tmp 3),(1,.tmp 4),(2,.const (.I 5)),(3,.const (.I 2000)),(4,.const (.I 100000))]) rfl Bu4 CE1 rfl) ?_;refine zn (Lp Bu4) (fun b2=>?_)
 refine sQ .here ?_;refine st ?_;refine Xe (Ab4 rfl rfl Dm3) (fun w hm=>AO8 _ _ _ _ _ _ _ _ _ w) ?_;refine st ?_;refine Xe (Ab4 rfl rfl Dm3) (fun w hm=>AO8 _ _ _ _ _ _ _ _ _ w) ?_;refine zn (Lu (parts:=[(0,.tmp 7),(1,.tmp 9)]) rfl As7 Al6 rfl rfl rfl rfl) (fun b10=>?_)
 refine sQ (.there .here) ?_;refine st ?_;refine Ab5 2 Ah0 (qE (qC .nil)) ?_;refine zw 0 ?_;refine zA 1 ?_;refine Xd rfl (zF rfl AH5) (fun w hm=>Ah6 _ _ w) (Aa2 (qE (qC .nil)) (qE (qC .nil)) rfl ?_)
 refine zt ?_;refine zo 2 rfl (Lr (parts:=[(0,.tmp 12),(1,.const (.I 3200)),(2,.const (.I 50)),(3,.const (.I 20)),(4,.tmp 13),(5,.const (.I 300)),(6,.const (.I 900)),(7,.const (.I 100)),(8,.const (.I 200))]) rfl Bu3 CE0 rfl) ?_;refine zB 3 ?_;refine Xr rfl (Lt rfl rfl (.there (.there .here)) Cy6 rfl rfl) (Ab1 ?_)
 refine zd ?_;refine su ?_;exact Ld (chg:=[]) (.r1 rfl (.agg rfl mm2 Cy6 rfl)) (fun _ hm=>⟨b10,rfl,hm.pick (qC .nil)⟩)
theorem BL8 (c:Cd) (q:OA) (b o cap:Nat) (hq:q=none→cap=0) (l:List Str) (ql:OA) (cl:Nat) (W:World) (hS:Sl W q b o 9 (c.p.things.map Th.cells)) (hl:c.p.things.length≤1000) (hc:cardIs c=false) :
  CC 7 #[c.v q cap,.slice ql l.length cl] W (Pure (.pointer none) W):=by
 have hund:π.underlying 32=some (.pointer 88):=by kernel_rfl
 refine cS func7 ?_;refine st ?_;refine zn (Lm rfl) (fun b2=>?_)
 refine zc (zF rfl Dn0) (fun w hm=>DR0 c q b o cap w (hS.mono (by decide) hm (by simp)) hq (by omega) hc) ?_;refine lv (Ae6 rfl hund) ?_;refine An9 rfl ?_;refine su ?_;exact rP
set_option maxHeartbeats 2000000 in
theorem CS2 (c:Cd) (q:OA) (b o cap:Nat) (hq:q=none→cap=0) (l:List Str) (ql:OA) (bl ol cl:Nat) (W:World) (hL:Lw π W) (hS:Sl W q b o 9 (c.p.things.map Th.cells)) (hl:c.p.things.length≤1000) (hls:Sl W ql bl ol 1 (l.map strC)) (hln:l.length≤10000) (hlv:∀ s∈l,s.length≤100000) (hc:cardIs c=true) :
  CC 7 #[c.v q cap,.slice ql l.length cl] W (Grow W [] (fun z:Nat×DkX=>pV z.1) (fun z=>(z.1,dkO z.2 c)::(dkB z.2++[])) (fun z=>RunD c l z.2)):=by
 have hund:π.underlying 32=some (.pointer 88):=by kernel_rfl
 refine cS func7 ?_;refine st ?_;refine zn (Lm rfl) (fun b2=>?_)
 refine Xj (zF rfl Dn0) (fun w hm=>DQ9 c q b o cap w (hS.mono (by decide) hm (by simp)) hq (by omega) hc) (fun b11=>?_)
 refine st ?_;refine lv (Ae6 rfl hund) ?_;refine Ae9 rfl ?_;refine su ?_;refine Af5 (X:=DkX) (n0:=[(b2,_)]) (l.length) (fun k y q=>(18,.I (k:Int))::q) (fun _ _=>_) (fun k y=>[(b11,dkO y c)]) (fun k y=>dkB y++[]) (fun k y=>RunD c (l.take k) y) noDk (Cn1 c) rfl (zE 18 rfl rfl (zS 1 rfl (zS 2 rfl (zS 5 rfl (zS 16 rfl (zS 17 rfl (Sub.nil _))))))) (qE (Pick.same rfl)) ?_;intro k y kN kI;refine st ?_;refine cn rfl ?_ ?_
 ·intro c1'
  have hk:k < l.length:=by omega
  obtain ⟨v,hv⟩:∃ v,l[k]=v:=⟨_,rfl⟩;have hvm:v∈l:=hv ▸ List.getElem_mem hk;refine st ?_;refine lv (Aa3 rfl rfl Ao3 (by omega) (by omega) (hls.ptrM hk)) ?_;refine lv (Aa5 rfl (fun w hm=>Sl.loadM1 hls (by decide) hm (by simp) AM8 hk (v:=.string (bs v)) (by simp [strC,hv]))) ?_;refine Xq (zF rfl Ci5) (fun w hm=>(AL1 (nw':=fun z:DkX×Str×Int=>(b11,dkO z.1 c)::(b2,.cells (cellsL (c.v q cap)).toArray 28)::(dkB z.1++[])) (AL3 v (hlv v hvm) b11 y c ((b2,.cells (cellsL (c.v q cap)).toArray 28)::[]) W w hL kI.dk (hm.pick (Pick.cnt fun x=>by simp only [nC,dkM,Value.I];omega))) (fun _=>(Pick.cnt fun x=>by simp only [nC,dkM,Value.I];omega)))) (fun z24 hz24=>?_)
  obtain ⟨hzd,hzs⟩:=hz24;refine st ?_;refine lA ?_;exact Ac3 z24.1 (by omega) (by rw [List.take_succ_eq_append_getElem hk,hv];exact CC5 hc kI hzd hzs) rfl (zE 18 rfl rfl (zS 1 rfl (zS 2 rfl (zS 5 rfl (zS 16 rfl (zS 17 rfl (Sub.nil _))))))) (qE (Pick.refl _))
 intro c1';have hk:k=l.length:=by omega
 rw [hk,List.take_length] at kI;refine Ls ?_;refine su ?_;refine Aa6 ?_;refine su ?_;exact Bk7 (b11,y) kI rZ rfl (qC (Pick.skip (Pick.refl _)))
end Go.Q
namespace Go.Eng
open Go Go.RowKit
end Go.Eng
namespace Go.Dk
open Go Go.Eng Go.RowKit Go.Pw1 Go.Hp
structure CutOk (c:Cd) (pre:List Str) (d:DkX) (ko ro:Eng.Own) (kl rl:List Str):Prop where
 dk:DkOk d
 o1:OwnOk 1 ko kl.length (kl.map strC).flatten
 o2:OwnOk 1 ro rl.length (rl.map strC).flatten
 pl:playX (bareC c) noBn kl=(d.pl,rl)
 n:kl.length≤pre.length
 s:∀ s∈kl,s∈pre
theorem CutOk.len {c:Cd} {pre:List Str} {d:DkX} {ko ro:Eng.Own} {kl rl:List Str} (h:CutOk c pre d ko ro kl rl):rl.length=kl.length:=by
 have:=Ba6 (bareC c) kl noBn
 rw [h.pl] at this;exact this
end Go.Dk
namespace Go.Q
open Go Go.Eng Go.Dk Go.RowKit Go.Pw1 Go.Hp
end Go.Q
namespace Go.Dk
open Go Go.Eng Go.RowKit Go.Pw1 Go.Hp
theorem CM9 (i:Nat):([102,97,114,32,48,32]:Str)++Lib.itoa (i:Int)=sayX wFar [0,(i:Int)]:=by
 simp [sayX,wFar,show Lib.itoa 0=[48] by decide +kernel]
theorem Br7 {n:Int} (h:Big n):In64 n:=by unfold Big at h;unfold In64;omega
end Go.Dk
namespace Go.Q
open Go Go.Eng Go.Dk Go.RowKit Go.Pw1 Go.Hp
section
variable (xb:Nat) (d:DkX) (c:Cd) (rest:Blks) (W0 w:World) (i:Nat) (p:Pr)
theorem Db4 (hL:Lw π W0) (hd:DkOk d) (hm0:Mem W0 [] (dkM xb d c (rest++[])) w) (h0:0 < d.pl.views.length) (hp:(d.pl.views.getD 0 noVw).p=p) (hi:i < p.things.length) (h12:i < 12) (hk:(distX p i).2=0) :
  CC 10 #[pV xb,.I (i:Int)] w (Grow W0 [] (fun _:DkX=>.tuple #[b2v (distX p i).1,.bool true]) (fun z=>(xb,dkO z c)::(dkB z++(rest++[]))) (fun z=>DkOk z∧z.pl=d.pl)):=by
 subst hp;obtain ⟨ms,hms⟩:=DK7;have hln:=Ch9 (c:=bareC c) h0 hi h12;rw [if_pos hk,← CM9] at hln;obtain ⟨g1,g2,g3,g4⟩:=AR7 (d.pl.views.getD 0 noVw).p i;obtain ⟨lo,hi',hlh⟩:∃ lo hi':Int,(distX (d.pl.views.getD 0 noVw).p i).1=(lo,hi'):=⟨_,_,rfl⟩;rw [hlh] at hln g1 g2 g3 g4 ⊢;dsimp only at hln g1 g2 g3 g4;have hb1:Big lo:=⟨g1,by omega⟩;have hb2:Big hi':=⟨g3,by omega⟩;obtain ⟨u0,hu0⟩:∃ u,u=wFar:=⟨_,rfl⟩;obtain ⟨u1,hu1⟩:∃ u,u=Lib.itoa lo:=⟨_,rfl⟩;obtain ⟨u2,hu2⟩:∃ u,u=Lib.itoa hi':=⟨_,rfl⟩;have hl1:u1.length≤281474976710656:=by rw [hu1];have:=Ap9 (Br7 hb1);omega
 have hl2:u2.length≤281474976710656:=by rw [hu2];have:=Ap9 (Br7 hb2);omega
 have ha1:Lib.atoiAll u1 = .ok lo:=by rw [hu1];exact BN6 hb1
 have ha2:Lib.atoiAll u2 = .ok hi':=by rw [hu2];exact BN6 hb2
 obtain ⟨ws,hws⟩:∃ ws,ws=[u0,u1,u2]:=⟨_,rfl⟩;have hwl:ws.length=3:=by rw [hws];rfl
 have hsay:splitL (sayX wFar [lo,hi'])=ws:=by
  rw [Av9 _ _ (Nat.le_refl _),AV4 _ _ (by decide) (fun n hn=>by
   simp only [List.mem_cons,List.not_mem_nil,or_false] at hn
   rcases hn with rfl | rfl
   · exact hb1
   · exact hb2),hws,hu0,hu1,hu2]
  rfl
 have hsl:(sayX wFar [lo,hi']).length < 4294967281:=by
  have h1:=Ap9 (Br7 hb1);have h2:=Ap9 (Br7 hb2);simp only [sayX,List.map_cons,List.map_nil,List.flatten_cons,List.flatten_nil,List.length_append,List.length_cons,List.length_nil]
  have:wFar.length=3:=rfl
  omega
 have hsp:∀ s,s=sayX wFar [lo,hi']→∀ w,Lw π w→CC 13 #[.string (bs s),.string (bs [32])] w (News (fun sb:Nat=>.slice (some ⟨sb,0,none⟩) ws.length ws.length) (fun sb=>[(sb,sbO ws [])]) w):=fun s hs w hw=>by
  have h:=AH7 s (by rw [hs];exact hsl) w hw;rw [hs,hsay] at h;rw [hs];exact h
 have hil:=Ap9 (Br7 (show Big (i:Int) by unfold Big;omega));refine Ag5 hm0 func10 rfl rfl ?_;refine st ?_;refine zn (Lp Ac9) (fun b4=>?_)
 refine zc (zF rfl Bi9) (fun w hm=>Ar3 (i:Int) (by omega) w (hL.mono hm)) ?_;refine lv (Bs3 rfl rfl (by simp;omega)) ?_;refine Xq (zF rfl Ci5) (fun w hm=>(AL1 (nw':=fun z:DkX×Str×Int=>(b4,.cells [.I 0,.I 0].toArray 23)::(xb,dkO z.1 c)::(dkB z.1++(rest++[]))) (AL3 ([102,97,114,32,48,32]++Lib.itoa (i:Int)) (by simp only [List.length_append,List.length_cons,List.length_nil];omega) xb d c ((b4,.cells [.I 0,.I 0].toArray 23)::rest) W0 w hL hd (hm.pick (Pick.cnt fun x=>by simp only [nC,dkM,Value.I];omega))) (fun _=>(Pick.cnt fun x=>by simp only [nC,dkM,Value.I];omega)))) (fun z18 hz18=>?_)
 obtain ⟨yd,yr,ye⟩:=z18;obtain ⟨hzd,hzs⟩:=hz18
 obtain ⟨hpl,hzr,hze⟩:yd.pl=d.pl∧yr=sayX wFar [lo,hi']∧ye=0:=by
  have h:=hzs.trans hln;simpa using h
 dsimp only at hzd ⊢;refine st ?_;refine Xj (zF rfl CQ8) (fun w hm=>hsp yr hzr w (hL.mono hm)) (fun b22=>?_)
 refine st ?_;refine Ai4 (dj:=25) false rfl (by simp [hze]) ?_;refine su ?_;refine Ai4 (dj:=30) false rfl (by simp [hze,hwl]) ?_;refine st ?_;refine lv (Aa3 rfl rfl Ao3 (by omega) (by omega) rfl) ?_;refine lv (Aa5 rfl (fun w hm=>Sl.loadM1 (Sl.rowsR (t:=[]) (xs:=ws.map strC) (hm.at mm0) (fun x hx=>by obtain ⟨a,_,rfl⟩:=List.mem_map.1 hx;rfl)) (by decide) (Mem.refl w) (by simp) AM8 (i:=0) (by omega) (v:=.string (bs u0)) (by simp [strC,hws]))) ?_;refine lv (Bs4 rfl rfl) ?_;refine Ly rfl (fun h=>absurd h (by simp [hu0,wFar])) ?_;intro c0;clear c0;refine st ?_;refine lv (Aa3 rfl rfl Ao3 (by omega) (by omega) rfl) ?_;refine lv (Aa5 rfl (fun w hm=>Sl.loadM1 (Sl.rowsR (t:=[]) (xs:=ws.map strC) (hm.at mm0) (fun x hx=>by obtain ⟨a,_,rfl⟩:=List.mem_map.1 hx;rfl)) (by decide) (Mem.refl w) (by simp) AM8 (i:=1) (by omega) (v:=.string (bs u1)) (by simp [strC,hws]))) ?_;refine zc (zF rfl Ci4) (fun w hm=>AF7 u1 hl1 lo ha1 w) ?_;refine lv (Aa3 rfl rfl Ao3 (by omega) (by omega) rfl) ?_;refine lv (Aa5 rfl (fun w hm=>Sl.loadM1 (Sl.rowsR (t:=[]) (xs:=ws.map strC) (hm.at mm0) (fun x hx=>by obtain ⟨a,_,rfl⟩:=List.mem_map.1 hx;rfl)) (by decide) (Mem.refl w) (by simp) AM8 (i:=2) (by omega) (v:=.string (bs u2)) (by simp [strC,hws]))) ?_;refine zc (zF rfl Ci4) (fun w hm=>AF7 u2 hl2 hi' ha2 w) ?_;refine Ab5 10 Ah0 (qC (qD .nil)) ?_;refine zw 0 ?_;refine zw 1 ?_;refine zw 3 ?_;refine zv 4 rfl (Am1 rfl hms) ?_;refine zA 2 ?_;refine Xd rfl (zF rfl AH5) (fun w hm=>Ah6 _ _ w) (Aa2 (qC (qD .nil)) (qE .nil) rfl ?_)
 refine zw 5 ?_;refine Ag6 (dj:=56) true rfl rfl ?_;refine zw 6 ?_;refine zv 7 rfl (Am1 rfl hms) ?_;refine zw 8 ?_;refine zA 9 ?_;refine Xr rfl (Lt rfl rfl (.there .here) Ah1 rfl rfl) (Aa2 (qC (qD .nil)) (qE .nil) rfl ?_)
 refine zt ?_;refine zp 10 ?_;refine zd ?_;refine su ?_;exact Bk7 yd ⟨hzd,hpl⟩ (.r2 rfl (.agg rfl mm1 Ah1 rfl) (.tmp rfl)) rfl (qH (Pick.skip (Pick.skip (Pick.refl _))))
theorem Dr0 (hL:Lw π W0) (hd:DkOk d) (hm0:Mem W0 [] (dkM xb d c (rest++[])) w) (h0:0 < d.pl.views.length) (hp:(d.pl.views.getD 0 noVw).p=p) (hi:i < p.things.length) (h12:i < 12) (hk:(distX p i).2 ≠ 0) :
  CC 10 #[pV xb,.I (i:Int)] w (Grow W0 [] (fun _:DkX=>.tuple #[b2v (0,0),.bool false]) (fun z=>(xb,dkO z c)::(dkB z++(rest++[]))) (fun z=>DkOk z∧z.pl=d.pl)):=by
 subst hp;have hln:=Ch9 (c:=bareC c) h0 hi h12;rw [if_neg hk,← CM9] at hln;have hil:=Ap9 (Br7 (show Big (i:Int) by unfold Big;omega));refine Ag5 hm0 func10 rfl rfl ?_;refine st ?_;refine zn (Lp Ac9) (fun b4=>?_)
 refine zc (zF rfl Bi9) (fun w hm=>Ar3 (i:Int) (by omega) w (hL.mono hm)) ?_;refine lv (Bs3 rfl rfl (by simp;omega)) ?_;refine Xq (zF rfl Ci5) (fun w hm=>(AL1 (nw':=fun z:DkX×Str×Int=>(b4,.cells [.I 0,.I 0].toArray 23)::(xb,dkO z.1 c)::(dkB z.1++(rest++[]))) (AL3 ([102,97,114,32,48,32]++Lib.itoa (i:Int)) (by simp only [List.length_append,List.length_cons,List.length_nil];omega) xb d c ((b4,.cells [.I 0,.I 0].toArray 23)::rest) W0 w hL hd (hm.pick (Pick.cnt fun x=>by simp only [nC,dkM,Value.I];omega))) (fun _=>(Pick.cnt fun x=>by simp only [nC,dkM,Value.I];omega)))) (fun z18 hz18=>?_)
 obtain ⟨yd,yr,ye⟩:=z18;obtain ⟨hzd,hzs⟩:=hz18
 obtain ⟨hpl,hzr,hze⟩:yd.pl=d.pl∧yr=[]∧ye ≠ 0:=by
  have h:=hzs.trans hln;simp only [Prod.mk.injEq] at h;exact ⟨h.1,h.2.1,fun e=>hk (h.2.2.symm.trans e)⟩
 dsimp only at hzd ⊢;refine st ?_;refine Xj (zF rfl CQ8) (fun w hm=>AH7 yr (by rw [hzr];decide) w (hL.mono hm)) (fun b22=>?_)
 refine st ?_;refine Ai4 (dj:=25) true rfl (by simp [hze]) ?_;refine su ?_;refine Ly rfl ?_ (fun h=>absurd h (by simp))
 intro c0;clear c0;refine st ?_;refine lv (Lr (parts:=[]) rfl Ac9 Aj2 rfl) ?_;refine sQ (.there .here) ?_;refine su ?_;exact Bk7 yd ⟨hzd,hpl⟩ (.r2 rfl (.agg rfl mm1 Ah1 rfl) (.tmp rfl)) rfl (qH (Pick.skip (Pick.skip (Pick.refl _))))
end
theorem AD6 (n lo hi:Int) (W:World):CC 111 #[.I n,.I lo,.I hi] W (Pure (.bool (within n lo hi)) W):=by
 refine cS func111 ?_;refine csr ?_;refine vQ ?_;refine nsr ?_
 iterate 4 refine vQ ?_
 refine Ab0 (dj:=10) (dp:=14) 4 rfl (fun g10=>by
  iterate 4 refine vQ ?_
  exact Ac0 (Kh rfl (qU (Ad3 rfl (by rw [g10]) (Ab3 _)))) (List.Sublist.refl _)
 ) (fun g10=>by
   iterate 3 refine nQ ?_
   refine vQ ?_;exact Ac0 (Kh rfl (qU (Ad3 rfl (by rw [g10]) (Ab3 _)))) (List.Sublist.refl _)
 ) ?_
 refine vQ ?_;refine nnx ?_;refine Kt ?_;exact rP
def ymisf (k:Int):Value:=.iface 183 (.agg #[.I k])
theorem Ax2 (b:Bool) (e:Int) (W:World):CC 112 #[.bool b,.I e] W (Try ymisf (needX b e) W):=by
 refine cS func112 ?_;refine csr ?_;refine vQ ?_;refine vQ ?_;refine nnx ?_;refine Ly rfl ?_ ?_
 ·intro c0
  have c0':=c0;clear c0;try simp only [nH] at c0'
  refine Kw ?_;refine vQ ?_;refine Xa (Lr (parts:=[(0,.tmp 6)]) rfl Cd1 Cq2 rfl) ?_;refine Xa (Lz rfl Cg2) ?_;refine AB4 rfl ?_;exact Ae3 (k:=e) (by simp [needX,show b=false by simpa using c0'])
 intro c0;have c0':=c0;clear c0;try simp only [nH] at c0'
 refine Kd ?_;exact Au2 (.r0 rfl) (by simp [needX,show b=true by simpa using c0'])
theorem BQ5 (a b:Int×Int) (h:(-9000000000000000000≤a.1 - b.2∧a.1 - b.2≤9000000000000000000)∧-9000000000000000000≤a.2 - b.1∧a.2 - b.1≤9000000000000000000) (W:World):CC 305 #[b2v a,b2v b] W (Pure (b2v (lessZ a b)) W):=by
 refine cS func305 ?_;refine csr ?_;refine Xg (Lm rfl) (fun b2=>?_)
 refine Xg (Lm rfl) (fun b3=>?_)
 refine Xg (Lp Az0) (fun b4=>?_)
 refine nsr ?_;refine Xa (Lo rfl AR4) ?_;refine Xa (Aa7 rfl mm2 Ae2 rfl) ?_;refine Xa (Lo rfl AR3) ?_;refine Xa (Aa7 rfl mm1 Ae2 rfl) ?_;refine Xa (Ad4 rfl rfl (Lq _ ⟨by omega,by omega⟩)) ?_;refine Xa (Lo rfl AR3) ?_;refine Xa (Aa7 rfl mm2 Ae2 rfl) ?_;refine Xa (Lo rfl AR4) ?_;refine Xa (Aa7 rfl mm1 Ae2 rfl) ?_;refine Xa (Ad4 rfl rfl (Lq _ ⟨by omega,by omega⟩)) ?_;refine Xa (Lr (parts:=[(0,.tmp 9),(1,.tmp 14)]) rfl Az0 Cq6 rfl) ?_;refine sQ .here ?_;refine nnx ?_;refine Kt ?_;exact Aa9 (.r1 rfl (.agg rfl mm0 AL7 rfl)) (by first | rfl | simp)
theorem AW4 (W:World):CC 109 #[] W (Pure (.agg #[.func (.func 154) #[] #[],.func (.func 155) #[] #[]]) W):=by
 refine cS func109 ?_;refine csr ?_;refine Xg (Lp Cd0) (fun b0=>?_)
 refine nsr ?_;refine Xa (Lr (parts:=[(0,.func 154),(1,.func 155)]) rfl Cd0 Cq0 rfl) ?_;refine sQ .here ?_;refine nnx ?_;refine Kt ?_;exact Aa9 (.r1 rfl (.agg rfl mm0 Dk3 rfl)) (by first | rfl | simp)
theorem AW5 (g:Gl) (a:Ga) (b:Nat) (W:World) (hb:W.heap[b]? = some (.cells (g.cells a).toArray 186)):CC 154 #[.pointer (some ⟨b,0,none⟩)] W (Pure (g.f.v a.q1 a.c1) W):=by
 refine cS func154 ?_;refine csr ?_;refine Xg (Lp Bu4) (fun b2=>?_)
 refine nsr ?_;refine vQ ?_;refine vQ ?_;refine Xa (Lo rfl Bh7) ?_;refine Xa (Lo rfl Bb5) ?_;refine Xa (Ag3 rfl hb (by simp) AT2 rfl) ?_;refine sQ .here ?_;refine nnx ?_;refine Kt ?_;exact Aa9 (.r1 rfl (.agg rfl mm0 AT2 rfl)) (by first | rfl | simp)
theorem AO5 (g:Gl) (a:Ga) (b:Nat) (W:World) (hb:W.heap[b]? = some (.cells (g.cells a).toArray 186)):CC 155 #[.pointer (some ⟨b,0,none⟩)] W (Pure (g.s.v a.q2 a.c2) W):=by
 refine cS func155 ?_;refine csr ?_;refine Xg (Lp Bu4) (fun b2=>?_)
 refine nsr ?_;refine vQ ?_;refine vQ ?_;refine Xa (Lo rfl Bh7) ?_;refine Xa (Lo rfl Bx6) ?_;refine Xa (Ag3 rfl hb (by simp) AT2 rfl) ?_;refine sQ .here ?_;refine nnx ?_;refine Kt ?_;exact Aa9 (.r1 rfl (.agg rfl mm0 AT2 rfl)) (by first | rfl | simp)
theorem AB5 (g:Gl) (a:Ga) (n:Int) (hl:g.f.things.length≤100000000000) (W:World):CC 42 #[g.v a,.I n] W (Pure (.bool (isThingG g n)) W):=by
 refine cS func42 ?_;refine csr ?_;refine Xg (Lm rfl) (fun b2=>?_)
 refine vQ ?_;refine nsr ?_;refine vQ ?_;refine Xa (Lo rfl Bb5) ?_;refine Xa (Lo rfl As4) ?_;refine Xa (Aa7 rfl mm0 Av7 rfl) ?_;refine Xa (Ae0 rfl As7) ?_;refine Xa (Ad4 rfl rfl (Lq _ ⟨by omega,by omega⟩)) ?_;refine Xe (Ab6 rfl BY4) (fun w hm=>AD6 _ _ _ w) ?_;refine vQ ?_;refine nnx ?_;refine Kt ?_;exact rP
theorem Dq0 {a b M:Int} (hb:0 < b) (h:-M≤a∧a≤M):-M≤a.tdiv b∧a.tdiv b≤M:=by
 rcases Int.le_total 0 a with ha | ha
 · rw [Int.tdiv_eq_ediv_of_nonneg ha]
   have h1:=Int.ediv_nonneg ha (show 0≤b by omega);have h2:=Int.ediv_le_self b ha;omega
 · obtain ⟨c,rfl⟩:∃ c,a = -c:=⟨-a,by omega⟩
   have hc:0≤c:=by omega
   rw [Int.neg_tdiv,Int.tdiv_eq_ediv_of_nonneg hc];have h1:=Int.ediv_nonneg hc (show 0≤b by omega);have h2:=Int.ediv_le_self b hc;omega
theorem Bc3 (a b:Int) (hb:0 < b) (ha:-4000000000000000000≤a∧a≤4000000000000000000) (W:World):CC 45 #[.I a,.I b] W (Pure (.I (a / b)) W):=by
 have hd:=Dq0 hb ha;refine cS func45 ?_;refine csr ?_;refine vQ ?_;refine nsr ?_;refine vQ ?_;refine vQ ?_;refine Xa (Dj4 rfl rfl hb (Lq _ ⟨by omega,by omega⟩)) ?_;refine vQ ?_;refine nnx ?_;refine Lx ?_;refine csr ?_;refine vQ ?_;refine vQ ?_;refine Xa (Dj3 rfl rfl hb) ?_;refine vQ ?_;refine nnx ?_;refine Ly rfl ?_ ?_
 ·intro c0
  have c0':=c0;clear c0;try simp only [nH] at c0'
  refine Kw ?_;refine vQ ?_;refine Xa (Ad4 rfl rfl (Lq _ ⟨by omega,by omega⟩)) ?_;refine vQ ?_;refine nsr ?_;refine vQ ?_;refine vQ ?_;refine nnx ?_;refine Kt ?_;exact Aa9 rZ (by rw [← CS0 hb,if_pos c0'])
 intro c0;have c0':=c0;clear c0;try simp only [nH] at c0'
 refine Kd ?_;refine Ke ?_;refine csr ?_;refine vQ ?_;refine vQ ?_;refine nnx ?_;refine Kt ?_;exact Aa9 rZ (by rw [← CS0 hb,if_neg (by omega)])
theorem DC7 {a b M:Int} (hb:0 < b) (h:-M≤a∧a≤M):-M≤a / b∧a / b≤M:=by
 constructor
 · rw [Int.le_ediv_iff_mul_le hb]
   have:=Int.mul_le_mul_of_nonneg_left (show 1≤b by omega) (show 0≤M by omega)
   have h2:-M * b = -(M * b):=Int.neg_mul _ _;omega
 · rcases Int.le_total 0 a with ha | ha
   · have:=Int.ediv_le_self b ha
     omega
   · have:a / b < 1:=by rw [Int.ediv_lt_iff_lt_mul hb];omega
     omega
theorem Cw8 (a b:Int) (hb:0 < b) (ha:-4000000000000000000≤a∧a≤4000000000000000000) (W:World):CC 46 #[.I a,.I b] W (Pure (.I (-(-a / b))) W):=by
 have hd:=DC7 (a:=-a) (M:=4000000000000000000) hb (by omega);refine cS func46 ?_;refine csr ?_;refine vQ ?_;refine nsr ?_;refine vQ ?_;refine Xa (Val.neg rfl (Lq _ ⟨by omega,by omega⟩)) ?_;refine vQ ?_;refine Xe (Ab6 rfl Dm7) (fun w hm=>Bc3 (-a) b hb (by omega) w) ?_;refine Xa (Val.neg rfl (Lq _ ⟨by omega,by omega⟩)) ?_;refine vQ ?_;refine nnx ?_;refine Kt ?_;exact rP
theorem Bc4 (b:Nat) (W:World):CC 40 #[.nilIface,.pointer (some ⟨b,0,none⟩)] W (Pure (.tuple #[]) W):=by
 refine cS func40 ?_;refine Lx ?_;refine csr ?_;refine vQ ?_;refine Xa (Am1 rfl AL5) ?_;refine nnx ?_;refine Ly rfl ?_ (fun h=>absurd h (by simp))
 intro c0;clear c0;refine Kt ?_;refine Ad2 ?_;exact Aa9 (.r0 rfl) (by first | rfl | simp)
theorem Bc5 (b:Nat) (k:Int) (x:Value) (W:World) (hb:W.heap[b]? = some (.cells #[x] 49 (0,0))):CC 40 #[ymisf k,.pointer (some ⟨b,0,none⟩)] W (Turns b (.cells #[.I k] 49 (0,0)) (.tuple #[]) W):=by
 refine Af8 hb func40 rfl rfl ?_;refine Lx ?_;refine csr ?_;refine vQ ?_;refine Xa (Ar5 rfl AL5) ?_;refine nnx ?_;refine Ly rfl (fun h=>absurd h (by simp)) ?_;intro c0;clear c0;refine Kd ?_;refine Ke ?_;refine csr ?_;refine vQ ?_;refine Xa (Am6 rfl Cg2) ?_
 iterate 3 refine vQ ?_
 refine Xg (Lp Cd1) (fun b4=>?_)
 refine sQ .here ?_;refine vQ ?_;refine nnx ?_;refine Lx ?_;refine csr ?_;refine vQ ?_;refine vQ ?_;refine nnx ?_;refine Ly rfl (fun h=>absurd h (by simp)) ?_;intro c1;clear c1;refine Kd ?_;refine Ke ?_;refine Kw ?_;refine vQ ?_;refine Xa (Lo rfl BK3) ?_;refine Xa (Aa7 rfl mm1 Af7 rfl) ?_;refine vQ ?_;refine Xs (Ab9 rfl rfl .here Af7 rfl rfl) ?_;refine Kf ?_;exact Ak9 (chg:=[(b,_)]) (.r0 rfl) (fun _ hm=>⟨rfl,hm.drop⟩)
theorem BQ8 (b:Nat) (w:World):CallsD π 39 #[.pointer (some ⟨b,0,none⟩)] .returning w fun e u w'=>(∃ v,e = .returned v)∧u = .returning∧Mem w [] [] w':=by
 refine callsD_of_wpS func39 rfl fun c₀ cs hu=>?_
 refine wpS_region ?_;simp [wpOpsS,go_sem,recoverD,hu,ntmps39,Exit.thenS]
 refine (Bc4 b w).mono ?_
 rintro e w' ⟨rfl,hm⟩
 exact ⟨rfl,.returning,by rw [← hu],_,results_none rfl _ _ _,⟨_,rfl⟩,rfl,hm⟩
theorem BQ7 (b:Nat) (k:Int) (x:Value) (w:World) (hb:w.heap[b]? = some (.cells #[x] 49 (0,0))):CallsD π 39 #[.pointer (some ⟨b,0,none⟩)] (.panicking [{ v:=ymisf k,recovered:=false }]) w fun e u w' =>
  (∃ v,e = .returned v)∧u = .panicking [{ v:=ymisf k,recovered:=true }]∧Mem w [(b,.cells #[.I k] 49 (0,0))] [] w':=by
 refine callsD_of_wpS func39 rfl fun c₀ cs hu=>?_
 refine wpS_region ?_;simp [wpOpsS,go_sem,recoverD,hu,ntmps39,Exit.thenS]
 refine (Bc5 b k x w hb).mono ?_
 rintro e w' ⟨rfl,hm⟩
 exact ⟨rfl,.panicking [{ v:=ymisf k,recovered:=true }],rfl,_,results_none rfl _ _ _,⟨_,rfl⟩,rfl,hm⟩
theorem AB6:Catches π 39 49 ymisf:=⟨BQ8,fun b k x w h=>BQ7 b k x w h⟩
theorem Ck7 (b:Nat) (w:World):CallsD π 44 #[.pointer (some ⟨b,0,none⟩)] .returning w fun e u w'=>(∃ v,e = .returned v)∧u = .returning∧Mem w [] [] w':=by
 refine callsD_of_wpS func44 rfl fun c₀ cs hu=>?_
 refine wpS_region ?_;simp [wpOpsS,go_sem,recoverD,hu,ntmps44,Exit.thenS]
 refine (Bc4 b w).mono ?_
 rintro e w' ⟨rfl,hm⟩
 exact ⟨rfl,.returning,by rw [← hu],_,results_none rfl _ _ _,⟨_,rfl⟩,rfl,hm⟩
theorem Ck6 (b:Nat) (k:Int) (x:Value) (w:World) (hb:w.heap[b]? = some (.cells #[x] 49 (0,0))):CallsD π 44 #[.pointer (some ⟨b,0,none⟩)] (.panicking [{ v:=ymisf k,recovered:=false }]) w fun e u w' =>
  (∃ v,e = .returned v)∧u = .panicking [{ v:=ymisf k,recovered:=true }]∧Mem w [(b,.cells #[.I k] 49 (0,0))] [] w':=by
 refine callsD_of_wpS func44 rfl fun c₀ cs hu=>?_
 refine wpS_region ?_;simp [wpOpsS,go_sem,recoverD,hu,ntmps44,Exit.thenS]
 refine (Bc5 b k x w hb).mono ?_
 rintro e w' ⟨rfl,hm⟩
 exact ⟨rfl,.panicking [{ v:=ymisf k,recovered:=true }],rfl,_,results_none rfl _ _ _,⟨_,rfl⟩,rfl,hm⟩
theorem Aj1:Catches π 44 49 ymisf:=⟨Ck7,fun b k x w h=>Ck6 b k x w h⟩
theorem AD7 (g:Gl) (a:Ga) (valid:Bool) (W:World) (hG:GIn W g a) :
  CC 41 #[g.v a,.bool valid] W (TryN ymisf (openG g valid) (fun _ b=>.pointer (some ⟨b,0,none⟩)) (fun _ b=>[(b,.cells (g.cells a).toArray 186)]) W):=by
 refine cS func41 ?_;refine csr ?_;refine Xg (Lm rfl) (fun b2=>?_)
 refine vQ ?_;refine nsr ?_;refine Xa (Ab8 rfl mm0 BR5 rfl) ?_;refine Xa (Lr (parts:=[(0,.tmp 12)]) rfl CX2 Cq1 rfl) ?_;refine Xg (Lm rfl) (fun b14=>?_)
 refine vQ ?_;refine nsr ?_;refine Xg (Lp CX1) (fun b6=>?_)
 refine nnx ?_;refine Lx ?_;refine csr ?_;refine Xe (Ab6 rfl CR3) (fun w hm=>AW4 w) ?_;refine vQ ?_;refine nnx ?_;refine Ks ?_;refine Ar8 2 ?_;refine csr ?_;refine vQ ?_;refine nnx ?_;refine Lx ?_;refine Ly rfl ?_ (fun h=>absurd h (by decide))
 intro c0;clear c0;refine Kd ?_;refine Ke ?_;refine Lx ?_;refine Ks ?_;refine csr ?_;refine vQ ?_;refine Xa (Ak2 rfl rfl Bc0 (by decide) (by decide) rfl) ?_;refine vQ ?_;refine vQ ?_;refine nnx ?_;refine Kw ?_
 iterate 3 refine vQ ?_
 refine Xe (Ab4 rfl rfl CQ2) (fun w hm=>AW5 g a _ w (hm.at mm1)) ?_;refine Xe (Ab6 rfl Bz1) (fun w hm=>AG0 g.f a.q1 a.b1 a.o1 a.c1 w (hG.mono hm).s1 hG.l1) ?_
 iterate 3 refine vQ ?_
 refine Xa (Aa8 rfl rfl BB0 (by decide) (by decide)) ?_;refine sQ .here ?_;refine Kf ?_;refine Ac8 ?_;refine Ke ?_;refine Kw ?_;refine Xa (Kb rfl rfl (Lq _ ⟨by decide,by decide⟩)) ?_;refine vQ ?_;refine Kf ?_;refine Ag4 ?_;refine csr ?_;refine vQ ?_;refine nnx ?_;refine Lx ?_;refine Ly rfl ?_ (fun h=>absurd h (by decide))
 intro c0;clear c0;refine Kd ?_;refine Ke ?_;refine Lx ?_;refine Ks ?_;refine csr ?_;refine vQ ?_;refine Xa (Ak2 rfl rfl Bc0 (by decide) (by decide) rfl) ?_;refine vQ ?_;refine vQ ?_;refine nnx ?_;refine Kw ?_
 iterate 3 refine vQ ?_
 refine Xe (Ab4 rfl rfl CQ1) (fun w hm=>AO5 g a _ w (hm.at mm1)) ?_;refine Xe (Ab6 rfl Bz1) (fun w hm=>AG0 g.s a.q2 a.b2 a.o2 a.c2 w (hG.mono hm).s2 hG.l2) ?_
 iterate 3 refine vQ ?_
 refine Xa (Aa8 rfl rfl BB0 (by decide) (by decide)) ?_;refine sQ .here ?_;refine Kf ?_;refine Ac8 ?_;refine Ke ?_;refine Kw ?_;refine Xa (Kb rfl rfl (Lq _ ⟨by decide,by decide⟩)) ?_;refine vQ ?_;refine Kf ?_;refine Ag4 ?_;refine csr ?_;refine vQ ?_;refine nnx ?_;refine Lx ?_;refine Ly rfl (fun h=>absurd h (by decide)) ?_;intro c0;clear c0;refine Ls ?_;refine Ac6 ?_;refine Ac6 ?_;refine Aa6 ?_;refine Ke ?_;refine csr ?_;refine Xa (Lo rfl Bb5) ?_;refine Xa (Lo rfl As4) ?_;refine Xa (Aa7 rfl mm2 Av7 rfl) ?_;refine Xa (Ae0 rfl As7) ?_;refine Xa (Lo rfl Bx6) ?_;refine Xa (Lo rfl As4) ?_;refine Xa (Aa7 rfl mm2 Av7 rfl) ?_;refine Xa (Ae0 rfl As7) ?_;refine vQ ?_;refine vQ ?_
 refine Ab0 (dj:=39) (dp:=43) 4 rfl (fun g39=>by
  refine Xa (Lo rfl Bb4) ?_;refine Xa (Aa7 rfl mm2 Ae2 rfl) ?_;refine Xe (Ab6 rfl BY4) (fun w hm=>AD6 _ _ _ w) ?_;refine vQ ?_;exact Ac0 (Kh rfl (qU (Ad3 rfl (by rw [g39]) (Ab3 _)))) (List.Sublist.refl _)
 ) (fun g39=>by
   iterate 3 refine nQ ?_
   refine vQ ?_;exact Ac0 (Kh rfl (qU (Ad3 rfl (by rw [g39]) (Ab3 _)))) (List.Sublist.refl _)
 ) ?_
 refine vQ ?_
 refine Ab0 (dj:=44) (dp:=48) 4 rfl (fun g44=>by
  refine Xa (Lo rfl Bb3) ?_;refine Xa (Aa7 rfl mm2 Ae2 rfl) ?_;refine Xe (Ab6 rfl BY4) (fun w hm=>AD6 _ _ _ w) ?_;refine vQ ?_;exact Ac0 (Kh rfl (qU (Ad3 rfl (by rw [g44]) (Ab3 _)))) (List.Sublist.refl _)
 ) (fun g44=>by
   iterate 3 refine nQ ?_
   refine vQ ?_;exact Ac0 (Kh rfl (qU (Ad3 rfl (by rw [g44]) (Ab3 _)))) (List.Sublist.refl _)
 ) ?_
 refine vQ ?_
 refine Ab0 (dj:=49) (dp:=55) 6 rfl (fun g49=>by
  refine Xa (Lo rfl Bb4) ?_;refine Xa (Aa7 rfl mm2 Ae2 rfl) ?_;refine Xa (Lo rfl Bb3) ?_;refine Xa (Aa7 rfl mm2 Ae2 rfl) ?_;refine vQ ?_;refine vQ ?_;exact Ac0 (Kh rfl (qU (qT (Ad3 rfl (by rw [g49]) (Ab3 _))))) (List.Sublist.refl _)
 ) (fun g49=>by
   iterate 5 refine nQ ?_
   refine vQ ?_;exact Ac0 (Kh rfl (qU (qT (Ad3 rfl (by rw [g49]) (Ab3 _))))) (List.Sublist.refl _)
 ) ?_
 refine vQ ?_;refine nsr ?_;refine vQ ?_;refine vQ ?_
 refine Ab0 (dj:=57) (dp:=61) 4 rfl (fun g57=>by
  refine Xa (Aa8 rfl rfl BB0 (by decide) (by decide)) ?_;refine Xa (Aa7 rfl mm0 Af7 rfl) ?_;refine vQ ?_;refine vQ ?_;exact Ac0 (Kh rfl (qU (Ad3 rfl (by rw [g57]) (Ab3 _)))) (List.Sublist.refl _)
 ) (fun g57=>by
   iterate 3 refine nQ ?_
   refine vQ ?_;exact Ac0 (Kh rfl (qU (Ad3 rfl (by rw [g57]) (Ab3 _)))) (List.Sublist.refl _)
 ) ?_
 refine vQ ?_
 refine Ab0 (dj:=62) (dp:=66) 4 rfl (fun g62=>by
  refine Xa (Aa8 rfl rfl BB0 (by decide) (by decide)) ?_;refine Xa (Aa7 rfl mm0 Af7 rfl) ?_;refine vQ ?_;refine vQ ?_;exact Ac0 (Kh rfl (qU (Ad3 rfl (by rw [g62]) (Ab3 _)))) (List.Sublist.refl _)
 ) (fun g62=>by
   iterate 3 refine nQ ?_
   refine vQ ?_;exact Ac0 (Kh rfl (qU (Ad3 rfl (by rw [g62]) (Ab3 _)))) (List.Sublist.refl _)
 ) ?_
 refine Xh (Ab6 rfl Bj0) (fun w hm=>Ax2 _ _ w) (fun e67 he67=>?_) (fun v67 hv67=>?_)
 ·obtain ⟨er67,rfl⟩:=Ad0 he67
  refine Aa1 ?_;exact Aj4 (by simp_all [openG,fitG])
 obtain ⟨ok67,rfl⟩:=Ad9 hv67;refine nsr ?_;refine vQ ?_;refine Xh (Ab6 rfl Bj0) (fun w hm=>Ax2 _ _ w) (fun e69 he69=>?_) (fun v69 hv69=>?_)
 ·obtain ⟨er69,rfl⟩:=Ad0 he69
  refine Aa1 ?_;exact Aj4 (by simp_all [openG,fitG])
 obtain ⟨ok69,rfl⟩:=Ad9 hv69;refine nnx ?_;refine Lx ?_;refine csr ?_;refine Xa (Ab8 rfl mm0 Dk4 rfl) ?_;refine vQ ?_;refine nnx ?_;refine Ks ?_;refine Ar8 2 ?_;refine csr ?_;refine vQ ?_;refine nnx ?_;refine Lx ?_;refine Ly rfl ?_ (fun h=>absurd h (by decide))
 intro c1;clear c1;refine Kd ?_;refine Ke ?_;refine Lx ?_;refine Ks ?_;refine csr ?_;refine Xa (Ak2 rfl rfl Cj7 (by decide) (by decide) rfl) ?_;refine vQ ?_;refine nnx ?_;refine Kw ?_
 iterate 3 refine vQ ?_
 refine Xh (Ab6 rfl Bj0) (fun w hm=>Ax2 _ _ w) (fun e77 he77=>?_) (fun v77 hv77=>?_)
 ·obtain ⟨er77,rfl⟩:=Ad0 he77
  refine Ad1 ?_;refine Aa1 ?_;refine Aa1 ?_;refine Ad1 ?_;refine Aa1 ?_;exact Aj4 (by simp_all [openG,fitG])
 obtain ⟨ok77,rfl⟩:=Ad9 hv77;refine Kf ?_;refine Ac8 ?_;refine Ke ?_;refine Kw ?_;refine Xa (Kb rfl rfl (Lq _ ⟨by decide,by decide⟩)) ?_;refine vQ ?_;refine Kf ?_;refine Ag4 ?_;refine csr ?_;refine vQ ?_;refine nnx ?_;refine Lx ?_;refine Ly rfl ?_ (fun h=>absurd h (by decide))
 intro c1;clear c1;refine Kd ?_;refine Ke ?_;refine Lx ?_;refine Ks ?_;refine csr ?_;refine Xa (Ak2 rfl rfl Cj7 (by decide) (by decide) rfl) ?_;refine vQ ?_;refine nnx ?_;refine Kw ?_
 iterate 3 refine vQ ?_
 refine Xh (Ab6 rfl Bj0) (fun w hm=>Ax2 _ _ w) (fun e77 he77=>?_) (fun v77 hv77=>?_)
 ·obtain ⟨er77,rfl⟩:=Ad0 he77
  refine Ad1 ?_;refine Aa1 ?_;refine Aa1 ?_;refine Ad1 ?_;refine Aa1 ?_;exact Aj4 (by simp_all [openG,fitG])
 obtain ⟨ok77,rfl⟩:=Ad9 hv77;refine Kf ?_;refine Ac8 ?_;refine Ke ?_;refine Kw ?_;refine Xa (Kb rfl rfl (Lq _ ⟨by decide,by decide⟩)) ?_;refine vQ ?_;refine Kf ?_;refine Ag4 ?_;refine csr ?_;refine vQ ?_;refine nnx ?_;refine Lx ?_;refine Ly rfl (fun h=>absurd h (by decide)) ?_;intro c1;clear c1;refine Ls ?_;refine Ac6 ?_;refine Ac6 ?_;refine Aa6 ?_;refine Ke ?_;refine csr ?_;refine vQ ?_;refine vQ ?_;refine nnx ?_;refine Kt ?_;exact AL2 (a:=()) b14 rZ (by simp_all [openG,fitG]) rfl (qD .nil)
theorem Ck5 (g:Gl) (a:Ga) (n:Int) (b:Nat) (W:World) (hb:W.heap[b]? = some (.cells (g.cells a).toArray 186)) (hG:GIn W g a) :
  CC 113 #[.pointer (some ⟨b,0,none⟩),.I n] W (Pure (.tuple #[z2v (farG g n),.bool (seenG g n)]) W):=by
 refine cS func113 ?_;refine csr ?_;refine Xg (Lp Cc9) (fun b4=>?_)
 refine vQ ?_;refine nsr ?_;refine vQ ?_;refine nnx ?_;refine Lx ?_;refine csr ?_;refine Xe (Ab6 rfl CR3) (fun w hm=>AW4 w) ?_;refine vQ ?_;refine nnx ?_;refine Ks ?_;refine Ar8 2 ?_;refine csr ?_;refine vQ ?_;refine nnx ?_;refine Lx ?_;refine Ly rfl ?_ (fun h=>absurd h (by decide))
 intro c0;clear c0;refine Kd ?_;refine Ke ?_;refine Lx ?_;refine Ks ?_;refine csr ?_;refine vQ ?_;refine Xa (Ak2 rfl rfl Bc0 (by decide) (by decide) rfl) ?_;refine vQ ?_;refine vQ ?_;refine nsr ?_;refine vQ ?_;refine vQ ?_;refine Xe (Ab4 rfl rfl CQ2) (fun w hm=>AW5 g a _ w (hm.old_at hb (by simp))) ?_;refine vQ ?_;refine Xe (Ab6 rfl Bz0) (fun w hm=>As5 g.f n a.q1 a.b1 a.o1 a.c1 w (hG.mono hm).s1 hG.l1) ?_
 iterate 3 refine vQ ?_
 refine Xg (Lp Ac9) (fun b8=>?_)
 refine sQ .here ?_;refine vQ ?_;refine nnx ?_;refine Kw ?_;refine vQ ?_;refine Xa (Ab8 rfl mm0 Ah1 rfl) ?_;refine vQ ?_;refine vQ ?_
 refine Ab0 (dj:=26) (dp:=29) 3 rfl (fun g26=>by
  iterate 3 refine vQ ?_
  exact Ac0 (Kh rfl (qT (qS (Ad3 rfl (by rw [g26]) (Ab3 _))))) (List.Sublist.refl _)
 ) (fun g26=>by
   refine nQ ?_;refine nQ ?_;refine vQ ?_;exact Ac0 (Kh rfl (qT (qS (Ad3 rfl (by rw [g26]) (Ab3 _))))) (List.Sublist.refl _)
 ) ?_
 refine Xa (Aa8 rfl rfl BA9 (by decide) (by decide)) ?_;refine sQ (.there .here) ?_;refine vQ ?_;refine Kf ?_;refine Ac8 ?_;refine Ke ?_;refine Kw ?_;refine Xa (Kb rfl rfl (Lq _ ⟨by decide,by decide⟩)) ?_;refine vQ ?_;refine Kf ?_;refine Al1 (Kh (t:=0) rfl (Kh (t:=1) rfl (Kh (t:=4) rfl (Kh (t:=5) rfl (Kh (t:=10) rfl (Kh (t:=11) rfl (Sub.nil _))))))) (qD .nil) ?_;refine Ag4 ?_;refine csr ?_;refine vQ ?_;refine nnx ?_;refine Lx ?_;refine Ly rfl ?_ (fun h=>absurd h (by decide))
 intro c0;clear c0;refine Kd ?_;refine Ke ?_;refine Lx ?_;refine Ks ?_;refine csr ?_;refine vQ ?_;refine Xa (Ak2 rfl rfl Bc0 (by decide) (by decide) rfl) ?_;refine vQ ?_;refine vQ ?_;refine nsr ?_;refine vQ ?_;refine vQ ?_;refine Xe (Ab4 rfl rfl CQ1) (fun w hm=>AO5 g a _ w (hm.old_at hb (by simp))) ?_;refine vQ ?_;refine Xe (Ab6 rfl Bz0) (fun w hm=>As5 g.s n a.q2 a.b2 a.o2 a.c2 w (hG.mono hm).s2 hG.l2) ?_
 iterate 3 refine vQ ?_
 refine Xg (Lp Ac9) (fun b8=>?_)
 refine sQ .here ?_;refine vQ ?_;refine nnx ?_;refine Kw ?_;refine vQ ?_;refine Xa (Ab8 rfl mm0 Ah1 rfl) ?_;refine vQ ?_;refine vQ ?_
 refine Ab0 (dj:=26) (dp:=29) 3 rfl (fun g26=>by
  iterate 3 refine vQ ?_
  exact Ac0 (Kh rfl (qT (qS (Ad3 rfl (by rw [g26]) (Ab3 _))))) (List.Sublist.refl _)
 ) (fun g26=>by
   refine nQ ?_;refine nQ ?_;refine vQ ?_;exact Ac0 (Kh rfl (qT (qS (Ad3 rfl (by rw [g26]) (Ab3 _))))) (List.Sublist.refl _)
 ) ?_
 refine Xa (Aa8 rfl rfl BA9 (by decide) (by decide)) ?_;refine sQ (.there .here) ?_;refine vQ ?_;refine Kf ?_;refine Ac8 ?_;refine Ke ?_;refine Kw ?_;refine Xa (Kb rfl rfl (Lq _ ⟨by decide,by decide⟩)) ?_;refine vQ ?_;refine Kf ?_;refine Al1 (Kh (t:=0) rfl (Kh (t:=1) rfl (Kh (t:=4) rfl (Kh (t:=5) rfl (Kh (t:=10) rfl (Kh (t:=11) rfl (Sub.nil _))))))) (qD .nil) ?_;refine Ag4 ?_;refine csr ?_;refine vQ ?_;refine nnx ?_;refine Lx ?_;refine Ly rfl (fun h=>absurd h (by decide)) ?_;intro c0;clear c0;refine Ls ?_;refine Ac6 ?_;refine Ac6 ?_;refine Aa6 ?_;refine Ke ?_;refine csr ?_;refine Xa (Ab8 rfl mm0 Ce1 rfl) ?_;refine vQ ?_;refine sQ .here ?_;refine vQ ?_;refine nnx ?_;refine Kt ?_;exact Aa9 (.r2 rfl (.agg rfl mm0 Ce1 rfl) (.tmp rfl)) (by simp [farG,seenG,z2v,z2c])
def Zok (z:Z2):Prop:=(0≤z.1.1∧z.1.1≤1100000000)∧(0≤z.1.2∧z.1.2≤1100000000)∧(0≤z.2.1∧z.2.1≤1100000000)∧(0≤z.2.2∧z.2.2≤1100000000)
theorem CN2 (g:Gl) (n:Int):Zok (farG g n):=by
 have h1:=AR7 g.f n;have h2:=AR7 g.s n;exact ⟨⟨h1.1,h1.2.1⟩,⟨h1.2.2.1,h1.2.2.2⟩,⟨h2.1,h2.2.1⟩,⟨h2.2.2.1,h2.2.2.2⟩⟩
theorem Zok.mul {z:Z2} (h:Zok z):∀ x y:Int,(-4000≤x∧x≤4000)→y∈[z.1.1,z.1.2,z.2.1,z.2.2]→-5000000000000≤x * y∧x * y≤5000000000000:=by
 intro x y hx hy;obtain ⟨h1,h2,h3,h4⟩:=h
 have hy2:0≤y∧y≤1100000000:=by
  simp only [List.mem_cons,List.not_mem_nil,or_false] at hy
  rcases hy with rfl | rfl | rfl | rfl <;> assumption
 have m1:=Int.mul_le_mul_of_nonneg_right hx.1 hy2.1;have m2:=Int.mul_le_mul_of_nonneg_right hx.2 hy2.1;omega
theorem Bl4 (n:Int) (b:Nat) (z:Z2) (hz:Zok z) (W:World):CC 304 #[.agg #[],.pointer (some ⟨b,0,none⟩),.I n,z2v z] W (Pure (b2v (movedZ z)) W):=by
 obtain ⟨h1,h2,h3,h4⟩:=hz;refine cS func304 ?_;refine csr ?_;refine Xg (Lm rfl) (fun b4=>?_)
 refine Xg (Lm rfl) (fun b7=>?_)
 refine Xg (Lp Az0) (fun b8=>?_)
 refine nsr ?_;refine Xa (Aa8 rfl rfl BA9 (by decide) (by decide)) ?_;refine Xa (Ab8 rfl mm1 AL7 rfl) ?_;refine Xa (Aa8 rfl rfl BA9 (by decide) (by decide)) ?_;refine Xa (Ab8 rfl mm1 AL7 rfl) ?_;refine Xe (Ab6 rfl Dv5) (fun w hm=>BQ5 z.2 z.1 (by omega) w) ?_;refine sQ .here ?_;refine nnx ?_;refine Kt ?_;exact Aa9 (.r1 rfl (.agg rfl mm0 AL7 rfl)) (by first | rfl | simp)
def ask1 {α:Type} (g:Gl) (n:Int) (f:Z2→α):Except Int α:=if seenG g n then .ok (f (farG g n)) else .error 11
theorem Ax3 (g:Gl) (a:Ga) (n:Int) (b:Nat) (W:World) (hb:W.heap[b]? = some (.cells (g.cells a).toArray 186)) (hG:GIn W g a) :
  CC 43 #[.pointer (some ⟨b,0,none⟩),.I n,.iface 114 (.agg #[])] W (Try ymisf (ask1 g n fun z=>b2v (movedZ z)) W):=by
 refine cS func43 ?_;refine csr ?_;refine Xg (Lp Az0) (fun b6=>?_)
 refine nsr ?_;refine vQ ?_;refine vQ ?_;refine Xe (Ab6 rfl DC4) (fun w hm=>Ck5 g a n b w (hm.old_at hb (by simp)) (hG.mono hm)) ?_
 iterate 3 refine vQ ?_
 refine Xg (Lp Cc9) (fun b7=>?_)
 refine sQ .here ?_;refine vQ ?_;refine nsr ?_;refine vQ ?_;refine Xh (Ab6 rfl Bj0) (fun w hm=>Ax2 _ _ w) (fun e16 he16=>?_) (fun v16 hv16=>?_)
 ·obtain ⟨er16,rfl⟩:=Ad0 he16
  refine Aa1 ?_;exact Ae3 (by simp [ask1,er16])
 obtain ⟨ok16,rfl⟩:=Ad9 hv16;refine nsr ?_
 iterate 3 refine vQ ?_
 refine Xa (Ab8 rfl mm0 Ce1 rfl) ?_;refine Xe (Ag2 rfl rfl (fun w=>Ar2 _ w) Dv6) (fun w hm=>Bl4 n b _ (CN2 g n) w) ?_;refine sQ (.there .here) ?_;refine nnx ?_;refine Kt ?_;exact Al0 (.r1 rfl (.agg rfl mm1 AL7 rfl)) (by simp [ask1,ok16,b2v])
theorem Bj8 {α:Type} {g:Gl} {n:Int} {f:Z2→α} {v:α} (h:ask1 g n f = .ok v):seenG g n=true∧v=f (farG g n):=by
 unfold ask1 at h;split at h
 · cases h;exact ⟨by assumption,rfl⟩
 · cases h
theorem AS2 {α:Type} {g:Gl} {n:Int} {f:Z2→α} {k:Int} (h:ask1 g n f = .error k):seenG g n=false∧k=11:=by
 unfold ask1 at h;split at h
 · cases h
 · cases h;exact ⟨by simpa using ‹¬ seenG g n=true›,rfl⟩
theorem AW6 (g:Gl) (a:Ga) (n:Int) (W:World) (hG:GIn W g a):CC 16 #[g.v a,.I n] W (Pure (.tuple #[b2v (gMoved g n).1,.I (gMoved g n).2]) W):=by
 refine Af6 func16 rfl rfl ?_;refine csr ?_;refine Xg (Lm rfl) (fun b2=>?_)
 refine Xg (Lp Ac9) (fun b4=>?_)
 refine Xg (Lp Aq8) (fun b5=>?_)
 refine nsr ?_;refine vQ ?_;refine AF9 rfl ?_;refine nnx ?_;refine Lx ?_;refine AW2 8 Ah0 (qE (qC .nil)) ?_;refine Xu (i:=0) rfl (Ab8 rfl mm2 BR5 rfl) (PanQ.back rfl) (qE (qC .nil)) ?_;refine Xu (i:=1) rfl (Ab8 rfl mm2 BR5 rfl) (PanQ.back rfl) (qE (qC .nil)) ?_;refine Xu (i:=2) rfl (Aa4 rfl) (PanQ.back rfl) (qE (qC .nil)) ?_;refine Xu (i:=5) rfl (Aa4 rfl) (PanQ.back rfl) (qE (qC .nil)) ?_;refine Xu (i:=6) rfl (Lr (parts:=[]) rfl Cd2 Bo7 rfl) (PanQ.back rfl) (qE (qC .nil)) ?_;refine Xu (i:=7) rfl (Lz rfl Cg3) (PanQ.back rfl) (qE (qC .nil)) ?_;refine Jb (i:=3) (by kernel_rfl) (by kernel_rfl) ?_;refine Xd rfl (Ab6 rfl CN6) (fun w hm=>AB5 g a n hG.l1 w) (Aa2 (qE (qC .nil)) (qE (qC .nil)) rfl ?_)
 refine Jb (i:=4) (by kernel_rfl) (by kernel_rfl) ?_;refine Xn rfl (Ab6 rfl Ci3) (fun w hm=>AD7 g a _ w (hG.mono hm)) (fun e11 he11=>?_) (fun a11 ha11 b11=>(Aa2 (qF .nil) (qD (qD (qD .nil))) rfl ?_))
 ·refine Af9 (qU (qT (qS (Ab3 _)))) (qE (qC .nil)) ?_
  refine Aa1 ?_;exact Al3 AB6 CN7 .here (.r2 rfl (.agg rfl mm1 Ah1 rfl) (.one rfl mm0 Af7 rfl)) (by simp [gMoved,askG,he11,b2v])
 refine An2 (by kernel_rfl) ?_;refine Jc (i:=8) (by kernel_rfl) ?_;refine Xi rfl (Ab6 rfl BL2) (fun w hm=>Ax3 g a n _ w (hm.at mm0) (hG.mono hm)) (fun e15 he15=>?_) (fun v15 hv15=>(Ab1 ?_))
 ·obtain ⟨hs15,rfl⟩:=AS2 he15
  refine Af9 (qU (qU (Ab3 _))) (qD (qD (qD .nil))) ?_;refine Aa1 ?_;exact Al3 AB6 CN7 .here (.r2 rfl (.agg rfl mm1 Ah1 rfl) (.one rfl mm0 Af7 rfl)) (by simp [gMoved,askG,ha11,hs15,b2v])
 obtain ⟨hs15,rfl⟩:=Bj8 hv15;refine Jc (i:=9) (by kernel_rfl) ?_;refine Xr rfl (Lt rfl rfl (.there (.there .here)) Ah1 rfl rfl) (Ab1 ?_)
 refine Jc (i:=10) (by kernel_rfl) ?_;refine Xr rfl (Lt rfl rfl (.there .here) Af7 rfl rfl) (Ab1 ?_)
 refine Jd (by kernel_rfl) ?_;refine Ai8 ?_;refine Ke ?_;refine Kt ?_;exact AW0 AB6 CN7 (.r2 rfl (.agg rfl mm2 Ah1 rfl) (.one rfl mm1 Af7 rfl)) (by simp [gMoved,askG,ha11,hs15,b2v])
theorem CG6 {z:Z2} (h:Zok z):(-1100000000≤(movedZ z).1∧(movedZ z).1≤1100000000)∧-1100000000≤(movedZ z).2∧(movedZ z).2≤1100000000:=by
 obtain ⟨h1,h2,h3,h4⟩:=h;simp only [movedZ,lessZ];omega
theorem BQ6 (g:Gl) (a:Ga) (n:Int) (W:World) (hG:GIn W g a):CC 17 #[g.v a,.I n] W (Pure (.tuple #[b2v (gRate g n).1,.I (gRate g n).2]) W):=by
 have hb:=CG6 (CN2 g n);refine Af6 func17 rfl rfl ?_;refine csr ?_;refine Xg (Lm rfl) (fun b2=>?_)
 refine Xg (Lp Ac9) (fun b4=>?_)
 refine Xg (Lp Aq8) (fun b5=>?_)
 refine nsr ?_;refine vQ ?_;refine AF9 rfl ?_;refine nnx ?_;refine Lx ?_;refine Cc2 (X:=Nat) 10 (n0:=[(b5,_),(b4,_),(b2,_)]) (fun y q=>(6,.pointer (some ⟨y,0,none⟩))::q) (fun y=>[]) (fun y=>[(y,.cells [.I (movedZ (farG g n)).1,.I (movedZ (farG g n)).2].toArray 108)]) (fun y=>[]) (fun y=>openG g (isThingG g n) = .ok ()∧seenG g n=true) Ah0 (qE (qC .nil)) (Kh (t:=0) rfl (Kh (t:=1) rfl (Kh (t:=2) rfl (Kh (t:=4) rfl (Kh (t:=5) rfl (Sub.nil _)))))) (qE (qC .nil)) ?_ ?_
 ·refine Xu (i:=0) rfl (Ab8 rfl mm2 BR5 rfl) (PanQ.back rfl) (qE (qC .nil)) ?_
  refine Xu (i:=1) rfl (Ab8 rfl mm2 BR5 rfl) (PanQ.back rfl) (qE (qC .nil)) ?_;refine Xu (i:=2) rfl (Aa4 rfl) (PanQ.back rfl) (qE (qC .nil)) ?_;refine Xu (i:=5) rfl (Aa4 rfl) (PanQ.back rfl) (qE (qC .nil)) ?_;refine Xu (i:=6) rfl (Lr (parts:=[]) rfl Cd2 Bo7 rfl) (PanQ.back rfl) (qE (qC .nil)) ?_;refine Xu (i:=7) rfl (Lz rfl Cg3) (PanQ.back rfl) (qE (qC .nil)) ?_;refine Af0 (rs:=[3,9]) (by kernel_rfl) (by simp) (by kernel_rfl) (fun m hm=>?_)
  simp only [List.mem_cons,List.not_mem_nil,or_false] at hm
  rcases hm with rfl | rfl
  ·refine Xd rfl (Ab6 rfl CN6) (fun w hm=>AB5 g a n hG.l1 w) (Aa2 (qE (qC .nil)) (qE (qC .nil)) rfl ?_)
   refine Af0 (rs:=[4,9]) (by kernel_rfl) (by simp) (by kernel_rfl) (fun m hm=>?_)
   simp only [List.mem_cons,List.not_mem_nil,or_false] at hm
   rcases hm with rfl | rfl
   ·refine Xn rfl (Ab6 rfl Ci3) (fun w hm=>AD7 g a _ w (hG.mono hm)) (fun e13 he13=>?_) (fun a13 ha13 b13=>(Aa2 (qF .nil) (qD (qD (qD .nil))) rfl ?_))
    ·refine Af9 (qU (qT (qS (Ab3 _)))) (qE (qC .nil)) ?_
     refine Aj6 ?_;refine Aa1 ?_;exact Al3 Aj1 AY2 .here (.r2 rfl (.agg rfl mm1 Ah1 rfl) (.one rfl mm0 Af7 rfl)) (by simp_all [gRate,askG,b2v])
    obtain ⟨od,-⟩:=Ba8 ha13;refine Af0 (rs:=[8,9]) (by kernel_rfl) (by simp) (by kernel_rfl) (fun m hm=>?_)
    simp only [List.mem_cons,List.not_mem_nil,or_false] at hm
    rcases hm with rfl | rfl
    ·refine Xi rfl (Ab6 rfl BL2) (fun w hm=>Ax3 g a n _ w (hm.at mm0) (hG.mono hm)) (fun e17 he17=>?_) (fun v17 hv17=>(Aa2 (qF .nil) (qF .nil) rfl ?_))
     ·obtain ⟨hs17,rfl⟩:=AS2 he17
      refine Af9 (qU (qU (Ab3 _))) (qD (qD (qD .nil))) ?_;refine Aj6 ?_;refine Aa1 ?_;exact Al3 Aj1 AY2 .here (.r2 rfl (.agg rfl mm1 Ah1 rfl) (.one rfl mm0 Af7 rfl)) (by simp_all [gRate,askG,b2v])
     obtain ⟨hs17,rfl⟩:=Bj8 hv17;refine Jb (i:=9) (by kernel_rfl) (by kernel_rfl) ?_;refine Xf rfl (Lp Az0) (fun b6=>(Aa2 (qF (qC .nil)) (qD (qD (qD (qD .nil)))) rfl ?_))
     refine An2 (by kernel_rfl) ?_;refine Jc (i:=10) (by kernel_rfl) ?_;refine Xr rfl (Lt rfl rfl .here AL7 rfl rfl) (Ab1 ?_)
     refine Jd (by kernel_rfl) ?_;refine Ai8 ?_;exact Ae5 b6 ⟨ha13,hs17⟩ rfl (Ah7 (t:=6) rfl rfl (Kh (t:=0) rfl (Kh (t:=1) rfl (Kh (t:=2) rfl (Kh (t:=4) rfl (Kh (t:=5) rfl (Sub.nil _))))))) (qC (qD (qD (qD .nil))))
    refine Xf rfl (Lp Az0) (fun b6=>(Aa2 (qF (qC .nil)) (qD (qD (qD (qD .nil)))) rfl ?_))
    refine Jb (i:=8) (by kernel_rfl) (by kernel_rfl) ?_;refine Xi rfl (Ab6 rfl BL2) (fun w hm=>Ax3 g a n _ w (hm.at mm1) (hG.mono hm)) (fun e17 he17=>?_) (fun v17 hv17=>(Aa2 (qF (qC .nil)) (qF (qC .nil)) rfl ?_))
    ·obtain ⟨hs17,rfl⟩:=AS2 he17
     refine Af9 (qU (qU (qS (Ab3 _)))) (qH (qH (qH .nil))) ?_;refine Aj6 ?_;refine Aa1 ?_;exact Al3 Aj1 AY2 .here (.r2 rfl (.agg rfl mm1 Ah1 rfl) (.one rfl mm0 Af7 rfl)) (by simp_all [gRate,askG,b2v])
    obtain ⟨hs17,rfl⟩:=Bj8 hv17;refine An2 (by kernel_rfl) ?_;refine Jc (i:=10) (by kernel_rfl) ?_;refine Xr rfl (Lt rfl rfl .here AL7 rfl rfl) (Ab1 ?_)
    refine Jd (by kernel_rfl) ?_;refine Ai8 ?_;exact Ae5 b6 ⟨ha13,hs17⟩ rfl (Ah7 (t:=6) rfl rfl (Kh (t:=0) rfl (Kh (t:=1) rfl (Kh (t:=2) rfl (Kh (t:=4) rfl (Kh (t:=5) rfl (Sub.nil _))))))) (qC (qD (qD (qD .nil))))
   refine Xf rfl (Lp Az0) (fun b6=>(Aa2 (qF .nil) (qD (qD (qD .nil))) rfl ?_))
   refine Jb (i:=4) (by kernel_rfl) (by kernel_rfl) ?_;refine Xn rfl (Ab6 rfl Ci3) (fun w hm=>AD7 g a _ w (hG.mono hm)) (fun e13 he13=>?_) (fun a13 ha13 b13=>(Aa2 (qF (qC .nil)) (qD (qD (qD (qD .nil)))) rfl ?_))
   ·refine Af9 (qU (qU (Ab3 _))) (qD (qD (qD .nil))) ?_
    refine Aj6 ?_;refine Aa1 ?_;exact Al3 Aj1 AY2 .here (.r2 rfl (.agg rfl mm1 Ah1 rfl) (.one rfl mm0 Af7 rfl)) (by simp_all [gRate,askG,b2v])
   obtain ⟨od,-⟩:=Ba8 ha13;refine Jb (i:=8) (by kernel_rfl) (by kernel_rfl) ?_;refine Xi rfl (Ab6 rfl BL2) (fun w hm=>Ax3 g a n _ w (hm.at mm0) (hG.mono hm)) (fun e17 he17=>?_) (fun v17 hv17=>(Aa2 (qF (qC .nil)) (qF (qC .nil)) rfl ?_))
   ·obtain ⟨hs17,rfl⟩:=AS2 he17
    refine Af9 (qU (qU (qS (Ab3 _)))) (qH (qH (qH .nil))) ?_;refine Aj6 ?_;refine Aa1 ?_;exact Al3 Aj1 AY2 .here (.r2 rfl (.agg rfl mm1 Ah1 rfl) (.one rfl mm0 Af7 rfl)) (by simp_all [gRate,askG,b2v])
   obtain ⟨hs17,rfl⟩:=Bj8 hv17;refine An2 (by kernel_rfl) ?_;refine Jc (i:=10) (by kernel_rfl) ?_;refine Xr rfl (Lt rfl rfl (.there .here) AL7 rfl rfl) (Ab1 ?_)
   refine Jd (by kernel_rfl) ?_;refine Ai8 ?_;exact Ae5 b6 ⟨ha13,hs17⟩ rfl (Ah7 (t:=6) rfl rfl (Kh (t:=0) rfl (Kh (t:=1) rfl (Kh (t:=2) rfl (Kh (t:=4) rfl (Kh (t:=5) rfl (Sub.nil _))))))) (qD (qD (qD (qD .nil))))
  refine Xf rfl (Lp Az0) (fun b6=>(Aa2 (qF .nil) (qD (qD (qD .nil))) rfl ?_))
  refine Jb (i:=3) (by kernel_rfl) (by kernel_rfl) ?_;refine Xd rfl (Ab6 rfl CN6) (fun w hm=>AB5 g a n hG.l1 w) (Aa2 (qF .nil) (qF .nil) rfl ?_)
  refine Jb (i:=4) (by kernel_rfl) (by kernel_rfl) ?_;refine Xn rfl (Ab6 rfl Ci3) (fun w hm=>AD7 g a _ w (hG.mono hm)) (fun e13 he13=>?_) (fun a13 ha13 b13=>(Aa2 (qF (qC .nil)) (qD (qD (qD (qD .nil)))) rfl ?_))
  ·refine Af9 (qU (qU (Ab3 _))) (qD (qD (qD .nil))) ?_
   refine Aj6 ?_;refine Aa1 ?_;exact Al3 Aj1 AY2 .here (.r2 rfl (.agg rfl mm1 Ah1 rfl) (.one rfl mm0 Af7 rfl)) (by simp_all [gRate,askG,b2v])
  obtain ⟨od,-⟩:=Ba8 ha13;refine Jb (i:=8) (by kernel_rfl) (by kernel_rfl) ?_;refine Xi rfl (Ab6 rfl BL2) (fun w hm=>Ax3 g a n _ w (hm.at mm0) (hG.mono hm)) (fun e17 he17=>?_) (fun v17 hv17=>(Aa2 (qF (qC .nil)) (qF (qC .nil)) rfl ?_))
  ·obtain ⟨hs17,rfl⟩:=AS2 he17
   refine Af9 (qU (qU (qS (Ab3 _)))) (qH (qH (qH .nil))) ?_;refine Aj6 ?_;refine Aa1 ?_;exact Al3 Aj1 AY2 .here (.r2 rfl (.agg rfl mm1 Ah1 rfl) (.one rfl mm0 Af7 rfl)) (by simp_all [gRate,askG,b2v])
  obtain ⟨hs17,rfl⟩:=Bj8 hv17;refine An2 (by kernel_rfl) ?_;refine Jc (i:=10) (by kernel_rfl) ?_;refine Xr rfl (Lt rfl rfl (.there .here) AL7 rfl rfl) (Ab1 ?_)
  refine Jd (by kernel_rfl) ?_;refine Ai8 ?_;exact Ae5 b6 ⟨ha13,hs17⟩ rfl (Ah7 (t:=6) rfl rfl (Kh (t:=0) rfl (Kh (t:=1) rfl (Kh (t:=2) rfl (Kh (t:=4) rfl (Kh (t:=5) rfl (Sub.nil _))))))) (qD (qD (qD (qD .nil))))
 intro y yI
 rename Nat=>b6
 obtain ⟨ha13,hs17⟩:=yI;obtain ⟨od,-⟩:=Ba8 ha13;refine Ke ?_;refine csr ?_;refine Xa (Lo rfl Bb3) ?_;refine Xa (Aa7 rfl mm3 Ae2 rfl) ?_;refine Xa (Lo rfl Bb4) ?_;refine Xa (Aa7 rfl mm3 Ae2 rfl) ?_;refine Xa (Ad4 rfl rfl (Lq _ ⟨by omega,by omega⟩)) ?_;refine vQ ?_;refine nnx ?_;refine Lx ?_;refine An1 9 Ah0 (qF .nil) ?_;refine zv 0 rfl (Lo rfl AR4) ?_;refine zv 1 rfl (Aa7 rfl mm0 Ae2 rfl) ?_;refine zv 2 rfl (Ka rfl rfl (Lq _ ⟨by omega,by omega⟩)) ?_;refine zv 3 rfl (Aa4 rfl) ?_;refine zv 5 rfl (Lo rfl AR3) ?_;refine zv 6 rfl (Aa7 rfl mm0 Ae2 rfl) ?_;refine zv 7 rfl (Ka rfl rfl (Lq _ ⟨by omega,by omega⟩)) ?_;refine zv 8 rfl (Aa4 rfl) ?_;refine Jb (i:=4) (by kernel_rfl) (by kernel_rfl) ?_;refine Xd rfl (Ab6 rfl Dm7) (fun w hm=>Bc3 _ _ (by omega) (by omega) w) (Aa2 (qF .nil) (qF .nil) rfl ?_)
 refine An2 (by kernel_rfl) ?_;refine Jc (i:=9) (by kernel_rfl) ?_;refine Xd rfl (Ab6 rfl DO2) (fun w hm=>Cw8 _ _ (by omega) (by omega) w) (Ab1 ?_)
 refine Jc (i:=10) (by kernel_rfl) ?_;refine Xc rfl (Lr (parts:=[(0,.tmp 27),(1,.tmp 32)]) rfl Ac9 Aj2 rfl) (Ab1 ?_)
 refine Jc (i:=11) (by kernel_rfl) ?_;refine Xr rfl (Lt rfl rfl (.there (.there .here)) Ah1 rfl rfl) (Ab1 ?_)
 refine Jc (i:=12) (by kernel_rfl) ?_;refine Xr rfl (Lt rfl rfl (.there .here) Af7 rfl rfl) (Ab1 ?_)
 refine Jd (by kernel_rfl) ?_;refine Ae4 ?_;refine Ke ?_;refine Kt ?_;exact AW0 Aj1 AY2 (.r2 rfl (.agg rfl mm2 Ah1 rfl) (.one rfl mm1 Af7 rfl)) (by simp [gRate,askG,ha13,hs17,b2v,rateZ])
theorem Dn1:Enters π 16:=eZ func16
theorem CO8:Enters π 23:=eZ func23
theorem DO8:Enters π 24:=eZ func24
theorem Bi2:Enters π 7:=eZ func7
theorem Bh8:fieldNB π 28 0=some (0,8):=by kernel_rfl
theorem BF0:placesB π 48=some [(0,8),(8,8),(16,1),(17,1)]:=by kernel_rfl
theorem BQ1:zeroB π 48=some [.I 0,.I 0,.I 0,.I 0,.I 0,.I 0,.I 0,.slice none 0 0,.I 0,.I 0,.I 0,.I 0,.I 0,.I 0,.I 0,.slice none 0 0,.I 0,.I 0]:=by kernel_rfl
end Go.Q
namespace Go.Dk
open Go Go.Eng Go.RowKit Go.Pw1 Go.Hp
def oLines:List Str:=[[118,105,101,119],[116,104,105,110,103,32,48,32,49,49,48,48,32,49,49,48,49,32,57,48,52,32,57,48,53],[109,97,114,107,32,48,32,48,32,51,48,48,48],[116,104,105,110,103,32,48,32,49,48,53,48,32,49,48,53,48,32,57,57,48,32,57,57,50]]
def oFar:Str:=[102,97,114,32,48,32,49]
def oFarR:Str:=[102,97,114,32,57,53,57,49,32,49,48,50,52,49]
theorem DJ5:(playX cE noBn oLines).1=eB4:=by
 show (playX cE eB0 oLines).1=eB4
 unfold oLines;simp only [playX,eS0,eS1,eS2,eS3]
theorem DS0:cardIs c3=true:=by kernel_rfl
theorem Di0:gMoved ⟨c3.p,c3.p,1,2⟩ 1=((-650,650),0):=by kernel_rfl
end Go.Dk
namespace Go.Q
open Go Go.Eng Go.Dk Go.RowKit Go.Pw1 Go.Hp
theorem Ak7 (c:Cd) (q:OA) (b o cap:Nat) (hq:q=none→cap=0) (l:List Str) (ql:OA) (bl ol cl:Nat) (W:World) (hL:Lw π W) (hS:Sl W q b o 9 (c.p.things.map Th.cells)) (hl:c.p.things.length≤1000) (hls:Sl W ql bl ol 1 (l.map strC)) (hln:l.length≤10000) (hlv:∀ s∈l,s.length≤100000) (hc:cardIs c=true) :
  CC 7 #[c.v q cap,.slice ql l.length cl] W (News (fun z:{z:Nat×DkX // RunD c l z.2}=>pV z.1.1) (fun z=>((z.1.1,dkO z.1.2 c)::dkB z.1.2)++[]) W):=by
 refine Ah3 (CS2 c q b o cap hq l ql bl ol cl W hL hS hl hls hln hlv hc) ?_
 rintro e w' ⟨z,hz,rfl,hm⟩
 exact ⟨⟨z,hz⟩,rfl,hm⟩
theorem BG5 (b1 b2:Nat) (w:World) (h1:w.heap[b1]? = some (.cells (c3.p.things.map Th.cells).flatten.toArray 145)) (h2:w.heap[b2]? = some (.cells (c3.p.things.map Th.cells).flatten.toArray 145)) :
  CC 16 #[Gl.v ⟨c3.p,c3.p,1,2⟩ ⟨some ⟨b1,0,none⟩,b1,0,2,some ⟨b2,0,none⟩,b2,0,2⟩,.I 1] w (Pure (.tuple #[.agg #[.I (-650),.I 650],.I 0]) w):=by
 have h:=AW6 ⟨c3.p,c3.p,1,2⟩ ⟨some ⟨b1,0,none⟩,b1,0,2,some ⟨b2,0,none⟩,b2,0,2⟩ 1 w ⟨Sl.rows h1 (fun x hx=>by obtain ⟨a,_,rfl⟩:=List.mem_map.1 hx;rfl),Sl.rows h2 (fun x hx=>by obtain ⟨a,_,rfl⟩:=List.mem_map.1 hx;rfl),by decide,by decide⟩;rw [Di0] at h;exact h
set_option maxHeartbeats 2000000 in
set_option maxRecDepth 8000 in
theorem Am5 (W:World) (hL:Lw π W):CC 6 #[] W (Pure (.bool true) W):=by
 have hund:π.underlying 32=some (.pointer 88):=by kernel_rfl
 refine cS func6 ?_;refine st ?_;refine Xj (zF rfl CO8) (fun w hm=>AI0 w) (fun b6=>?_)
 refine zn (Lu (parts:=[(0,.const (.string ⟨#[118,105,101,119]⟩)),(1,.const (.string ⟨#[116,104,105,110,103,32,48,32,49,49,48,48,32,49,49,48,49,32,57,48,52,32,57,48,53]⟩)),(2,.const (.string ⟨#[109,97,114,107,32,48,32,48,32,51,48,48,48]⟩)),(3,.const (.string ⟨#[116,104,105,110,103,32,48,32,49,48,53,48,32,49,48,53,48,32,57,57,48,32,57,57,50]⟩))]) rfl Ao3 AW3 rfl rfl rfl rfl) (fun b7=>?_)
 refine Xl (zF rfl Bi2) (fun w hm=>Ak7 c3 _ b6 0 2 (fun h=>by cases h) oLines _ b7 0 4 w (hL.mono hm) (Sl.rows (hm.at mm1) (fun x hx=>by obtain ⟨a,_,rfl⟩:=List.mem_map.1 hx;rfl)) (by decide) (Sl.rows (xs:=oLines.map strC) (hm.at mm0) (fun x hx=>by obtain ⟨a,_,rfl⟩:=List.mem_map.1 hx;rfl)) (by decide) (by decide) DS0) (fun z8=>?_)
 obtain ⟨⟨xb,xd⟩,hxk⟩:=z8;dsimp only at hxk ⊢;have hpl:xd.pl=eB4:=hxk.pl.symm.trans DJ5;refine st ?_;refine AI6 (Ab3 _) (news':=(xb,dkO xd c3)::(dkB xd++[])) (Pick.cnt fun x=>by simp only [nC,dkM,Value.I];omega) ?_;refine st ?_;refine lv (Ae6 rfl hund) ?_;refine Ae9 rfl ?_;refine st ?_;refine Xq (zF rfl Ci5) (fun w hm=>(AL1 (nw':=fun z:DkX×Str×Int=>(xb,dkO z.1 c3)::(dkB z.1++[])) (AL3 oFar (by decide) xb xd c3 [] W w hL hxk.dk (hm.pick (Pick.cnt fun x=>by simp only [nC,dkM,Value.I];omega))) (fun _=>(Pick.cnt fun x=>by simp only [nC,dkM,Value.I];omega)))) (fun z13 hz13=>?_)
 obtain ⟨yd,yr,ye⟩:=z13;obtain ⟨hzd,hzs⟩:=hz13
 obtain ⟨hyr,hye⟩:yr=oFarR∧ye=0:=by
  have h:(yd.pl,yr,ye)=_:=hzs.trans ((congrArg (fun b=>stepX (bareC c3) b oFar) hpl).trans eS4);simp only [Prod.mk.injEq] at h;exact ⟨h.2.1,h.2.2⟩
 dsimp only at hzd ⊢;refine st ?_;refine Xj (zF rfl CO8) (fun w hm=>AI0 w) (fun b17=>?_)
 refine lv (Bs6 rfl Bh8) ?_;refine Xj (zF rfl CO8) (fun w hm=>AI0 w) (fun b19=>?_)
 refine lv (Bs6 rfl Bh8) ?_;refine lv (Lr (parts:=[(0,.tmp 18),(1,.tmp 20),(2,.const (.I 1)),(3,.const (.I 2))]) rfl BQ1 BF0 rfl) ?_;refine zc (zF rfl Dn1) (fun w hm=>BG5 b17 b19 w (hm.at mm1) (hm.at mm0)) ?_;refine zn (Lp Ac9) (fun b4=>?_)
 refine sQ .here ?_;refine st ?_;refine Ab5 9 Ah0 (qF .nil) ?_;refine zw 0 ?_;refine zv 1 rfl (AV8 (a:=yr) (b:=oFarR) rfl rfl) ?_;refine zw 2 ?_;refine Ag6 (dj:=27) true rfl (by simp [hyr]) ?_;refine zw 3 ?_;refine zw 4 ?_;refine zw 5 ?_;refine zw 6 ?_;refine Ag6 (dj:=31) true rfl (by simp [hyr,hye]) ?_;refine zw 7 ?_;refine zA 8 ?_;refine Xd rfl (zF rfl AH5) (fun w hm=>Ah6 _ _ w) (Aa2 (qF .nil) (qF .nil) rfl ?_)
 refine zt ?_;refine zo 9 rfl (AY6 rfl rfl Bw0) ?_;refine zp 10 ?_;refine zp 11 ?_;refine Bl3 (dj:=36) true rfl (by simp [hyr,hye]) ?_;refine zp 12 ?_;refine zp 13 ?_;refine zp 14 ?_;refine zp 15 ?_;refine Bl3 (dj:=40) true rfl (by simp [hyr,hye]) ?_;refine zq 16 rfl (zF rfl DO8) (fun w hm=>BA7 w) ?_;refine zp 17 ?_;refine zp 18 ?_;refine zd ?_;refine su ?_;exact rP
theorem Dn2:Enters π 10:=eZ func10
theorem DP0:Enters π 17:=eZ func17
theorem AZ3:Enters π 5:=eZ func5
theorem Ct2:Enters π 6:=eZ func6
theorem BL1:Enters π 9:=eZ func9
theorem Am0:field1B π 41 0=some 0:=by kernel_rfl
end Go.Q
namespace Go.Dk
open Go Go.Eng Go.RowKit Go.Pw1 Go.Hp
def saidX (p:Pr) (i:Nat):(Int×Int)×Bool:=if (distX p i).2=0 then ((distX p i).1,true) else ((0,0),false)
theorem CC3 {p:Pr} {i:Nat} {x y:Int} {z:Bool} (h:saidX p i=((x,y),z)):0≤x∧x≤1100000000∧0≤y∧y≤1100000000:=by
 have h1:=AR7 p i;unfold saidX at h
 split at h
 · simp only [Prod.mk.injEq] at h
   obtain ⟨h3,-⟩:=h;rw [h3] at h1;exact h1
 · simp only [Prod.mk.injEq] at h
   omega
theorem Cn0 {p q:Pr} (hp:(powerX p).2=0) (hq:(powerX q).2=0) (hl:p.things.length=q.things.length) {i:Nat} (hi:i < p.things.length) {a1 a2 d1 d2 m1 m2 me:Int} {ab db:Bool}
  (ha:saidX p i=((a1,a2),ab)) (hd:saidX q i=((d1,d2),db)) (hm:gMoved ⟨p,q,3,368⟩ i=((m1,m2),me)) :
  gRate ⟨p,q,3,368⟩ i=((m1,m2),me)∧(ab=true→db=true→me=0∧m1=d1 - a2∧m2=d2 - a1)∧((ab=false∨db=false)→me=11):=by
 obtain ⟨g1,g2⟩:=DS7 hp hq hl hi;refine ⟨g2.trans hm,?_⟩
 rw [hm] at g1;unfold saidX at ha hd
 by_cases h1:(distX p i).2=0
 · rw [if_pos h1] at ha
   simp only [Prod.mk.injEq] at ha;obtain ⟨ha1,rfl⟩:=ha
   by_cases h2:(distX q i).2=0
   · rw [if_pos h2] at hd
     simp only [Prod.mk.injEq] at hd;obtain ⟨hd1,rfl⟩:=hd;rw [if_pos ⟨h1,h2⟩,ha1,hd1] at g1;simp only [Prod.mk.injEq] at g1;exact ⟨fun _ _=>⟨g1.2,g1.1.1,g1.1.2⟩,fun h=>(by simp at h)⟩
   · rw [if_neg h2] at hd
     simp only [Prod.mk.injEq] at hd;obtain ⟨-,rfl⟩:=hd;rw [if_neg (fun h=>h2 h.2)] at g1;simp only [Prod.mk.injEq] at g1;exact ⟨fun _ h=>(by cases h),fun _=>g1.2⟩
 · rw [if_neg h1] at ha
   simp only [Prod.mk.injEq] at ha;obtain ⟨-,rfl⟩:=ha;rw [if_neg (fun h=>h1 h.1)] at g1;simp only [Prod.mk.injEq] at g1;exact ⟨fun h=>(by cases h),fun _=>g1.2⟩
theorem Az7 {z d:DkX} {b:Bn} (h:z.pl=d.pl) (h2:b=d.pl):z.vs.length=b.views.length∧∀ (h0:0 < z.vs.length) {u:VwX},z.vs[0]=u→0 < d.pl.views.length∧(d.pl.views.getD 0 noVw).p=u.p∧u.pl∈d.pl.views∧(b.views.getD 0 noVw).p=u.p∧u∈z.vs:=by
 subst h2;have e:d.pl.views=z.vs.map VwX.pl:=by rw [← h];rfl
 refine ⟨by rw [e,List.length_map],fun h0 u hu=>?_⟩
 rw [e]
 have h3:((z.vs.map VwX.pl).getD 0 noVw).p=u.p:=by
  rw [List.getD_eq_getElem?_getD,List.getElem?_eq_getElem (by simpa using h0)];simp [hu,VwX.pl]
 have h4:u∈z.vs:=hu ▸ List.getElem_mem h0;exact ⟨by simpa using h0,h3,List.mem_map_of_mem h4,h3,h4⟩
end Go.Dk
namespace Go.Q
open Go Go.Eng Go.Dk Go.RowKit Go.Pw1 Go.Hp
theorem Bh9 (c:Cd) (q:OA) (b o cap:Nat) (l:List Str) (ql:OA) (bl ol cl:Nat) (W:World) (hS:Sl W q b o 9 (c.p.things.map Th.cells)) (hls:Sl W ql bl ol 1 (l.map strC)) (hll:l.length≤9223372036854775807) :
  CC 5 #[c.v q cap,.slice ql l.length cl] W (Pure (.bool (farL c l || heavyC c)) W):=by
 cases h:farL c l with
 | true=>rw [Bool.true_or];exact CN3 c q cap l ql bl ol cl W hls hll h
 | false=>rw [Bool.false_or];exact Aq1 c q b o cap l ql bl ol cl W hS hls h
theorem Bd3 (xb:Nat) (d:DkX) (c:Cd) (rest:Blks) (W0 w:World) (i:Nat) (p:Pr) (hL:Lw π W0) (hd:DkOk d) (hm0:Mem W0 [] (dkM xb d c (rest++[])) w) (h0:0 < d.pl.views.length) (hp:(d.pl.views.getD 0 noVw).p=p) (hi:i < p.things.length) (h12:i < 12) {x y:Int} {z:Bool} (hz:saidX p i=((x,y),z)) :
  CC 10 #[pV xb,.I (i:Int)] w (Grow W0 [] (fun _:DkX=>.tuple #[.agg #[.I x,.I y],.bool z]) (fun z=>(xb,dkO z c)::(dkB z++(rest++[]))) (fun z=>DkOk z∧z.pl=d.pl)):=by
 unfold saidX at hz
 by_cases hk:(distX p i).2=0
 · have h:=Db4 xb d c rest W0 w i p hL hd hm0 h0 hp hi h12 hk
   rw [if_pos hk] at hz;simp only [Prod.mk.injEq] at hz;obtain ⟨h3,rfl⟩:=hz;rw [h3] at h;exact h
 · rw [if_neg hk] at hz
   simp only [Prod.mk.injEq] at hz;obtain ⟨⟨rfl,rfl⟩,rfl⟩:=hz;exact Dr0 xb d c rest W0 w i p hL hd hm0 h0 hp hi h12 hk
theorem BG4 {g:Gl} (a:Ga) (n:Int) (w:World) (hG:GIn w g a) {m1 m2 e:Int} (h:gMoved g n=((m1,m2),e)):CC 16 #[g.v a,.I n] w (Pure (.tuple #[.agg #[.I m1,.I m2],.I e]) w):=by
 have h1:=AW6 g a n w hG;rw [h] at h1;exact h1
theorem BT4 {g:Gl} (a:Ga) (n:Int) (w:World) (hG:GIn w g a) {m1 m2 e:Int} (h:gRate g n=((m1,m2),e)):CC 17 #[g.v a,.I n] w (Pure (.tuple #[.agg #[.I m1,.I m2],.I e]) w):=by
 have h1:=BQ6 g a n w hG;rw [h] at h1;exact h1
theorem CZ7 (c:Cd) (q:OA) (b o cap:Nat) (hq:q=none→cap=0) (l1 l2:List Str) (q1:OA) (e1 o1 k1:Nat) (q2:OA) (e2 o2 k2:Nat) (W:World) (hL:Lw π W) (hS:Sl W q b o 9 (c.p.things.map Th.cells)) (hs1:Sl W q1 e1 o1 1 (l1.map strC)) (hs2:Sl W q2 e2 o2 1 (l2.map strC)) (hl1:l1.length≤9223372036854775807) (hl2:l2.length≤9223372036854775807) (hh:((farL c l1 || heavyC c) || (farL c l2 || heavyC c))=true):CC 3 #[c.v q cap,.slice q1 l1.length k1,.slice q2 l2.length k2] W (Pure (.bool true) W):=by
 refine cS func3 ?_;refine st ?_;refine zn (Lm rfl) (fun b3=>?_)
 refine zc (zF rfl AZ3) (fun w hm=>Bh9 c q b o cap l1 q1 e1 o1 k1 w (hS.mono (by decide) hm (by simp)) (hs1.mono (by decide) hm (by simp)) hl1) ?_
 refine Ac2 (dj:=25) (dp:=29) 4 rfl (fun g25=>by
  refine su ?_;refine Xe (zF rfl AZ3) (fun w hm=>Bh9 c q b o cap l2 q2 e2 o2 k2 w (hS.mono (by decide) hm (by simp)) (hs2.mono (by decide) hm (by simp)) hl2) ?_;refine sv ?_;exact zs g25
 ) (fun g25=>by
   iterate 3 refine nQ ?_
   refine sv ?_;exact zs g25
 ) ?_
 refine st ?_;refine Ly rfl ?_ (fun h=>absurd h (by revert hh;cases farL c l1 <;> cases heavyC c <;> cases farL c l2 <;> simp))
 intro c0;clear c0;refine st ?_;refine zc (zF rfl Ct2) (fun w hm=>Am5 w (hL.mono hm)) ?_;exact rP
theorem Dp5 (c:Cd) (q:OA) (b o cap:Nat) (hq:q=none→cap=0) (l1 l2:List Str) (q1:OA) (e1 o1 k1:Nat) (q2:OA) (e2 o2 k2:Nat) (W:World) (hL:Lw π W) (hS:Sl W q b o 9 (c.p.things.map Th.cells)) (hs1:Sl W q1 e1 o1 1 (l1.map strC)) (hs2:Sl W q2 e2 o2 1 (l2.map strC)) (hf1:farL c l1=false) (hf2:farL c l2=false) (h2:heavyC c=false) (hc:cardIs c=false):CC 3 #[c.v q cap,.slice q1 l1.length k1,.slice q2 l2.length k2] W (Pure (.bool true) W):=by
 have hcR:cardR c=false:=(Bb8 c).trans hc;obtain ⟨hl3,hl4,hv1⟩:=Ay1 hf1;obtain ⟨-,hl5,hv2⟩:=Ay1 hf2;have hund:π.underlying 32=some (.pointer 88):=by kernel_rfl
 refine cS func3 ?_;refine st ?_;refine zn (Lm rfl) (fun b3=>?_)
 refine zc (zF rfl AZ3) (fun w hm=>Aq1 c q b o cap l1 q1 e1 o1 k1 w (hS.mono (by decide) hm (by simp)) (hs1.mono (by decide) hm (by simp)) hf1) ?_;refine Ai4 (dj:=25) false rfl h2 ?_;refine su ?_;refine zc (zF rfl AZ3) (fun w hm=>Aq1 c q b o cap l2 q2 e2 o2 k2 w (hS.mono (by decide) hm (by simp)) (hs2.mono (by decide) hm (by simp)) hf2) ?_;refine Ly rfl (fun h=>absurd h (by simp [h2])) ?_;intro c0;clear c0;refine st ?_;refine Ab5 5 Ah0 (qC .nil) ?_;refine zw 0 ?_;refine zw 1 ?_;refine zw 3 ?_;refine zw 4 ?_;refine zA 2 ?_;refine Xd rfl (zF rfl Bi2) (fun w hm=>BL8 c q b o cap hq l1 q1 k1 w (hS.mono (by decide) hm (by simp)) (by omega) hc) (Aa2 (qC .nil) (qC .nil) rfl ?_)
 refine zt ?_;refine zq 5 rfl (zF rfl Bi2) (fun w hm=>BL8 c q b o cap hq l2 q2 k2 w (hS.mono (by decide) hm (by simp)) (by omega) hc) ?_;refine zp 6 ?_;refine zp 7 ?_;refine zd ?_;refine st ?_;refine lu (Ae6 rfl hund) ?_;refine An9 rfl ?_;refine st ?_;refine lv (Ae6 rfl hund) ?_;refine lu (Ae6 rfl hund) ?_;refine zc (zF rfl DM8) (fun w hm=>AX4 c q b o cap w (hS.mono (by decide) hm (by simp)) (by omega)) ?_;refine Ai4 (dj:=54) true rfl (by simp [hcR]) ?_;refine zc (zF rfl Ct2) (fun w hm=>Am5 w (hL.mono hm)) ?_;exact rP
set_option maxHeartbeats 4000000 in
theorem Dp8 (c:Cd) (q:OA) (b o cap:Nat) (hq:q=none→cap=0) (l1 l2:List Str) (q1:OA) (e1 o1 k1:Nat) (q2:OA) (e2 o2 k2:Nat) (W:World) (hL:Lw π W) (hS:Sl W q b o 9 (c.p.things.map Th.cells)) (hs1:Sl W q1 e1 o1 1 (l1.map strC)) (hs2:Sl W q2 e2 o2 1 (l2.map strC)) (hf1:farL c l1=false) (hf2:farL c l2=false) (h2:heavyC c=false) (hc:cardIs c=true) (h3:(playX (bareC c) noBn l1).1.views.length=0):CC 3 #[c.v q cap,.slice q1 l1.length k1,.slice q2 l2.length k2] W (Pure (.bool true) W):=by
 obtain ⟨hl3,hl4,hv1⟩:=Ay1 hf1;obtain ⟨-,hl5,hv2⟩:=Ay1 hf2;have hund:π.underlying 32=some (.pointer 88):=by kernel_rfl
 refine cS func3 ?_;refine st ?_;refine zn (Lm rfl) (fun b3=>?_)
 refine zc (zF rfl AZ3) (fun w hm=>Aq1 c q b o cap l1 q1 e1 o1 k1 w (hS.mono (by decide) hm (by simp)) (hs1.mono (by decide) hm (by simp)) hf1) ?_;refine Ai4 (dj:=25) false rfl h2 ?_;refine su ?_;refine zc (zF rfl AZ3) (fun w hm=>Aq1 c q b o cap l2 q2 e2 o2 k2 w (hS.mono (by decide) hm (by simp)) (hs2.mono (by decide) hm (by simp)) hf2) ?_;refine Ly rfl (fun h=>absurd h (by simp [h2])) ?_;intro c0;clear c0;refine st ?_;refine Ab5 5 Ah0 (qC .nil) ?_;refine zw 0 ?_;refine zw 1 ?_;refine zw 3 ?_;refine zw 4 ?_;refine zA 2 ?_;refine Xp [(b3,_)] _ rfl rfl (zF rfl Bi2) (fun w hm=>Ak7 c q b o cap hq l1 q1 e1 o1 k1 w (hL.mono hm) (hS.mono (by decide) hm (by simp)) (by omega) (hs1.mono (by decide) hm (by simp)) (by omega) (fun s hs=>by have:=hv1 s hs;omega) hc) (fun z33=>(Aa2 (qC .nil) (qC .nil) rfl ?_))
 skip
 refine zt ?_;refine zB 5 ?_;refine Xp [(b3,_)] _ rfl rfl (zF rfl Bi2) (fun w hm=>Ak7 c q b o cap hq l2 q2 e2 o2 k2 w (hL.mono hm) (hS.mono (by decide) hm (by simp)) (by omega) (hs2.mono (by decide) hm (by simp)) (by omega) (fun s hs=>by have:=hv2 s hs;omega) hc) (fun z36=>(Ab1 ?_))
 skip
 refine zp 6 ?_;refine zp 7 ?_;refine zd ?_;refine Ke ?_;refine Lx ?_;refine csr ?_;obtain ⟨⟨xb,xd⟩,hxk⟩:=z33;obtain ⟨⟨vb,vd⟩,hvk⟩:=z36;dsimp only at hxk hvk ⊢;refine AI6 (Ab3 _) (news':=(vb,dkO vd c)::(xb,dkO xd c)::(b3,.cells (cellsL (c.v q cap)).toArray 28)::(dkB vd++(dkB xd++[]))) (Pick.cnt fun x=>by simp only [nC,dkM,Value.I];omega) ?_;refine st ?_;refine lv (Ae6 rfl hund) ?_;refine lv (Ae6 rfl hund) ?_;refine Ae9 rfl ?_;refine st ?_;refine Xo [(vb,_),(xb,_),(b3,_)] _ rfl (zF rfl BL1) (fun w hm=>Am3 xb xd c hxk.dk w (Ai7 hxk.dk (hm.pick (news':=dkM xb xd c []) (Pick.cnt fun x=>by simp only [nC,dkM,Value.I];omega)))) (fun z58=>?_)
 have hp58:=Az7 z58.2.2 hxk.pl;obtain ⟨hn58,hw58⟩:=hp58;refine lv (Kg rfl Am0 rfl) ?_;refine Xo [(vb,_),(xb,_),(b3,_)] _ rfl (zF rfl BL1) (fun w hm=>Am3 vb vd c hvk.dk w (Ai7 hvk.dk (hm.pick (news':=dkM vb vd c []) (Pick.cnt fun x=>by simp only [nC,dkM,Value.I];omega)))) (fun z61=>?_)
 have hp61:=Az7 z61.2.2 hvk.pl;obtain ⟨hn61,hw61⟩:=hp61;refine lv (Kg rfl Am0 rfl) ?_;refine Ab5 21 Ah0 (qE (qC (Pick.refl _))) ?_;refine va 0 rfl (Aa4 rfl) rfl rfl rfl (qE (qC (Pick.refl _))) rfl ?_;refine va 1 rfl (Ag9 rfl Ap2 z58.2.1.v) rfl rfl rfl (qE (qC (Pick.refl _))) rfl ?_;refine va 2 rfl (Aa4 rfl) rfl rfl rfl (qE (qC (Pick.refl _))) rfl ?_;refine va 3 rfl (Aa4 rfl) rfl rfl rfl (qE (qC (Pick.refl _))) rfl ?_;refine Ag6 (dj:=66) true rfl (by rw [decide_eq_true_eq];omega) ?_;refine Xw (i:=4) rfl (fun _ _ _ h=>h) (qE (qC (Pick.refl _))) ?_;refine Xw (i:=5) rfl (fun _ _ _ h=>h) (qE (qC (Pick.refl _))) ?_;refine Xw (i:=6) rfl (fun _ _ _ h=>h) (qE (qC (Pick.refl _))) ?_;refine va 7 rfl (Aa4 rfl) rfl rfl rfl (qE (qC (Pick.refl _))) rfl ?_;refine va 8 rfl (Aa4 rfl) rfl rfl rfl (qE (qC (Pick.refl _))) rfl ?_;refine Ag6 (dj:=71) true rfl rfl ?_;refine Xw (i:=9) rfl (fun _ _ _ h=>h) (qE (qC (Pick.refl _))) ?_;refine Xw (i:=10) rfl (fun _ _ _ h=>h) (qE (qC (Pick.refl _))) ?_;refine Xw (i:=11) rfl (fun _ _ _ h=>h) (qE (qC (Pick.refl _))) ?_;refine Xw (i:=12) rfl (fun _ _ _ h=>h) (qE (qC (Pick.refl _))) ?_;refine Xw (i:=13) rfl (fun _ _ _ h=>h) (qE (qC (Pick.refl _))) ?_;refine Xw (i:=14) rfl (fun _ _ _ h=>h) (qE (qC (Pick.refl _))) ?_;refine Xw (i:=15) rfl (fun _ _ _ h=>h) (qE (qC (Pick.refl _))) ?_;refine Xw (i:=16) rfl (fun _ _ _ h=>h) (qE (qC (Pick.refl _))) ?_;refine Xw (i:=17) rfl (fun _ _ _ h=>h) (qE (qC (Pick.refl _))) ?_;refine Xw (i:=18) rfl (fun _ _ _ h=>h) (qE (qC (Pick.refl _))) ?_;refine Xw (i:=19) rfl (fun _ _ _ h=>h) (qE (qC (Pick.refl _))) ?_;refine Xw (i:=20) rfl (fun _ _ _ h=>h) (qE (qC (Pick.refl _))) ?_;refine zt ?_;refine zB 21 ?_;refine Xx rfl (Ab1 ?_)
 refine zp 22 ?_;refine zd ?_;refine st ?_;refine Ly rfl ?_ (fun h=>absurd h (by simp))
 intro c2;clear c2;refine st ?_;refine zc (zF rfl Ct2) (fun w hm=>Am5 w (hL.mono hm)) ?_;exact rP
set_option maxHeartbeats 4000000 in
theorem Dp7 (c:Cd) (q:OA) (b o cap:Nat) (hq:q=none→cap=0) (l1 l2:List Str) (q1:OA) (e1 o1 k1:Nat) (q2:OA) (e2 o2 k2:Nat) (W:World) (hL:Lw π W) (hS:Sl W q b o 9 (c.p.things.map Th.cells)) (hs1:Sl W q1 e1 o1 1 (l1.map strC)) (hs2:Sl W q2 e2 o2 1 (l2.map strC)) (hf1:farL c l1=false) (hf2:farL c l2=false) (h2:heavyC c=false) (hc:cardIs c=true) (h3:(playX (bareC c) noBn l1).1.views.length ≠ 0) (h4:(playX (bareC c) noBn l2).1.views.length=0):CC 3 #[c.v q cap,.slice q1 l1.length k1,.slice q2 l2.length k2] W (Pure (.bool true) W):=by
 obtain ⟨hl3,hl4,hv1⟩:=Ay1 hf1;obtain ⟨-,hl5,hv2⟩:=Ay1 hf2;have hund:π.underlying 32=some (.pointer 88):=by kernel_rfl
 refine cS func3 ?_;refine st ?_;refine zn (Lm rfl) (fun b3=>?_)
 refine zc (zF rfl AZ3) (fun w hm=>Aq1 c q b o cap l1 q1 e1 o1 k1 w (hS.mono (by decide) hm (by simp)) (hs1.mono (by decide) hm (by simp)) hf1) ?_;refine Ai4 (dj:=25) false rfl h2 ?_;refine su ?_;refine zc (zF rfl AZ3) (fun w hm=>Aq1 c q b o cap l2 q2 e2 o2 k2 w (hS.mono (by decide) hm (by simp)) (hs2.mono (by decide) hm (by simp)) hf2) ?_;refine Ly rfl (fun h=>absurd h (by simp [h2])) ?_;intro c0;clear c0;refine st ?_;refine Ab5 5 Ah0 (qC .nil) ?_;refine zw 0 ?_;refine zw 1 ?_;refine zw 3 ?_;refine zw 4 ?_;refine zA 2 ?_;refine Xp [(b3,_)] _ rfl rfl (zF rfl Bi2) (fun w hm=>Ak7 c q b o cap hq l1 q1 e1 o1 k1 w (hL.mono hm) (hS.mono (by decide) hm (by simp)) (by omega) (hs1.mono (by decide) hm (by simp)) (by omega) (fun s hs=>by have:=hv1 s hs;omega) hc) (fun z33=>(Aa2 (qC .nil) (qC .nil) rfl ?_))
 skip
 refine zt ?_;refine zB 5 ?_;refine Xp [(b3,_)] _ rfl rfl (zF rfl Bi2) (fun w hm=>Ak7 c q b o cap hq l2 q2 e2 o2 k2 w (hL.mono hm) (hS.mono (by decide) hm (by simp)) (by omega) (hs2.mono (by decide) hm (by simp)) (by omega) (fun s hs=>by have:=hv2 s hs;omega) hc) (fun z36=>(Ab1 ?_))
 skip
 refine zp 6 ?_;refine zp 7 ?_;refine zd ?_;refine Ke ?_;refine Lx ?_;refine csr ?_;obtain ⟨⟨xb,xd⟩,hxk⟩:=z33;obtain ⟨⟨vb,vd⟩,hvk⟩:=z36;dsimp only at hxk hvk ⊢;refine AI6 (Ab3 _) (news':=(vb,dkO vd c)::(xb,dkO xd c)::(b3,.cells (cellsL (c.v q cap)).toArray 28)::(dkB vd++(dkB xd++[]))) (Pick.cnt fun x=>by simp only [nC,dkM,Value.I];omega) ?_;refine st ?_;refine lv (Ae6 rfl hund) ?_;refine lv (Ae6 rfl hund) ?_;refine Ae9 rfl ?_;refine st ?_;refine Xo [(vb,_),(xb,_),(b3,_)] _ rfl (zF rfl BL1) (fun w hm=>Am3 xb xd c hxk.dk w (Ai7 hxk.dk (hm.pick (news':=dkM xb xd c []) (Pick.cnt fun x=>by simp only [nC,dkM,Value.I];omega)))) (fun z58=>?_)
 have hp58:=Az7 z58.2.2 hxk.pl;obtain ⟨hn58,hw58⟩:=hp58;refine lv (Kg rfl Am0 rfl) ?_;refine Xo [(vb,_),(xb,_),(b3,_)] _ rfl (zF rfl BL1) (fun w hm=>Am3 vb vd c hvk.dk w (Ai7 hvk.dk (hm.pick (news':=dkM vb vd c []) (Pick.cnt fun x=>by simp only [nC,dkM,Value.I];omega)))) (fun z61=>?_)
 have hp61:=Az7 z61.2.2 hvk.pl;obtain ⟨hn61,hw61⟩:=hp61;refine lv (Kg rfl Am0 rfl) ?_;refine Ab5 21 Ah0 (qE (qC (Pick.refl _))) ?_;refine va 0 rfl (Aa4 rfl) rfl rfl rfl (qE (qC (Pick.refl _))) rfl ?_;refine va 1 rfl (Ag9 rfl Ap2 z58.2.1.v) rfl rfl rfl (qE (qC (Pick.refl _))) rfl ?_;refine va 2 rfl (Aa4 rfl) rfl rfl rfl (qE (qC (Pick.refl _))) rfl ?_;refine va 3 rfl (Aa4 rfl) rfl rfl rfl (qE (qC (Pick.refl _))) rfl ?_;refine Ag6 (dj:=66) false rfl (by rw [decide_eq_false_iff_not];omega) ?_;refine va 4 rfl (Aa4 rfl) rfl rfl rfl (qE (qC (Pick.refl _))) rfl ?_;refine va 5 rfl (Ag9 rfl Ap2 z61.2.1.v) rfl rfl rfl (qE (qC (Pick.refl _))) rfl ?_;refine va 6 rfl (Aa4 rfl) rfl rfl rfl (qE (qC (Pick.refl _))) rfl ?_;refine va 7 rfl (Aa4 rfl) rfl rfl rfl (qE (qC (Pick.refl _))) rfl ?_;refine va 8 rfl (Aa4 rfl) rfl rfl rfl (qE (qC (Pick.refl _))) rfl ?_;refine Ag6 (dj:=71) true rfl (by rw [decide_eq_true_eq];omega) ?_;refine Xw (i:=9) rfl (fun _ _ _ h=>h) (qE (qC (Pick.refl _))) ?_;refine Xw (i:=10) rfl (fun _ _ _ h=>h) (qE (qC (Pick.refl _))) ?_;refine Xw (i:=11) rfl (fun _ _ _ h=>h) (qE (qC (Pick.refl _))) ?_;refine Xw (i:=12) rfl (fun _ _ _ h=>h) (qE (qC (Pick.refl _))) ?_;refine Xw (i:=13) rfl (fun _ _ _ h=>h) (qE (qC (Pick.refl _))) ?_;refine Xw (i:=14) rfl (fun _ _ _ h=>h) (qE (qC (Pick.refl _))) ?_;refine Xw (i:=15) rfl (fun _ _ _ h=>h) (qE (qC (Pick.refl _))) ?_;refine Xw (i:=16) rfl (fun _ _ _ h=>h) (qE (qC (Pick.refl _))) ?_;refine Xw (i:=17) rfl (fun _ _ _ h=>h) (qE (qC (Pick.refl _))) ?_;refine Xw (i:=18) rfl (fun _ _ _ h=>h) (qE (qC (Pick.refl _))) ?_;refine Xw (i:=19) rfl (fun _ _ _ h=>h) (qE (qC (Pick.refl _))) ?_;refine Xw (i:=20) rfl (fun _ _ _ h=>h) (qE (qC (Pick.refl _))) ?_;refine zt ?_;refine zB 21 ?_;refine Xx rfl (Ab1 ?_)
 refine zp 22 ?_;refine zd ?_;refine st ?_;refine Ly rfl ?_ (fun h=>absurd h (by simp))
 intro c2;clear c2;refine st ?_;refine zc (zF rfl Ct2) (fun w hm=>Am5 w (hL.mono hm)) ?_;exact rP
set_option maxHeartbeats 4000000 in
theorem Dp6 (c:Cd) (q:OA) (b o cap:Nat) (hq:q=none→cap=0) (l1 l2:List Str) (q1:OA) (e1 o1 k1:Nat) (q2:OA) (e2 o2 k2:Nat) (W:World) (hL:Lw π W) (hS:Sl W q b o 9 (c.p.things.map Th.cells)) (hs1:Sl W q1 e1 o1 1 (l1.map strC)) (hs2:Sl W q2 e2 o2 1 (l2.map strC)) (hf1:farL c l1=false) (hf2:farL c l2=false) (h2:heavyC c=false) (hc:cardIs c=true) (h3:(playX (bareC c) noBn l1).1.views.length ≠ 0) (h4:(playX (bareC c) noBn l2).1.views.length ≠ 0) (h5:((playX (bareC c) noBn l1).1.views.getD 0 noVw).p.things.length ≠ ((playX (bareC c) noBn l2).1.views.getD 0 noVw).p.things.length):CC 3 #[c.v q cap,.slice q1 l1.length k1,.slice q2 l2.length k2] W (Pure (.bool true) W):=by
 obtain ⟨hl3,hl4,hv1⟩:=Ay1 hf1;obtain ⟨-,hl5,hv2⟩:=Ay1 hf2;have hund:π.underlying 32=some (.pointer 88):=by kernel_rfl
 refine cS func3 ?_;refine st ?_;refine zn (Lm rfl) (fun b3=>?_)
 refine zc (zF rfl AZ3) (fun w hm=>Aq1 c q b o cap l1 q1 e1 o1 k1 w (hS.mono (by decide) hm (by simp)) (hs1.mono (by decide) hm (by simp)) hf1) ?_;refine Ai4 (dj:=25) false rfl h2 ?_;refine su ?_;refine zc (zF rfl AZ3) (fun w hm=>Aq1 c q b o cap l2 q2 e2 o2 k2 w (hS.mono (by decide) hm (by simp)) (hs2.mono (by decide) hm (by simp)) hf2) ?_;refine Ly rfl (fun h=>absurd h (by simp [h2])) ?_;intro c0;clear c0;refine st ?_;refine Ab5 5 Ah0 (qC .nil) ?_;refine zw 0 ?_;refine zw 1 ?_;refine zw 3 ?_;refine zw 4 ?_;refine zA 2 ?_;refine Xp [(b3,_)] _ rfl rfl (zF rfl Bi2) (fun w hm=>Ak7 c q b o cap hq l1 q1 e1 o1 k1 w (hL.mono hm) (hS.mono (by decide) hm (by simp)) (by omega) (hs1.mono (by decide) hm (by simp)) (by omega) (fun s hs=>by have:=hv1 s hs;omega) hc) (fun z33=>(Aa2 (qC .nil) (qC .nil) rfl ?_))
 skip
 refine zt ?_;refine zB 5 ?_;refine Xp [(b3,_)] _ rfl rfl (zF rfl Bi2) (fun w hm=>Ak7 c q b o cap hq l2 q2 e2 o2 k2 w (hL.mono hm) (hS.mono (by decide) hm (by simp)) (by omega) (hs2.mono (by decide) hm (by simp)) (by omega) (fun s hs=>by have:=hv2 s hs;omega) hc) (fun z36=>(Ab1 ?_))
 skip
 refine zp 6 ?_;refine zp 7 ?_;refine zd ?_;refine Ke ?_;refine Lx ?_;refine csr ?_;obtain ⟨⟨xb,xd⟩,hxk⟩:=z33;obtain ⟨⟨vb,vd⟩,hvk⟩:=z36;dsimp only at hxk hvk ⊢;refine AI6 (Ab3 _) (news':=(vb,dkO vd c)::(xb,dkO xd c)::(b3,.cells (cellsL (c.v q cap)).toArray 28)::(dkB vd++(dkB xd++[]))) (Pick.cnt fun x=>by simp only [nC,dkM,Value.I];omega) ?_;refine st ?_;refine lv (Ae6 rfl hund) ?_;refine lv (Ae6 rfl hund) ?_;refine Ae9 rfl ?_;refine st ?_;refine Xo [(vb,_),(xb,_),(b3,_)] _ rfl (zF rfl BL1) (fun w hm=>Am3 xb xd c hxk.dk w (Ai7 hxk.dk (hm.pick (news':=dkM xb xd c []) (Pick.cnt fun x=>by simp only [nC,dkM,Value.I];omega)))) (fun z58=>?_)
 have hp58:=Az7 z58.2.2 hxk.pl;obtain ⟨hn58,hw58⟩:=hp58;refine lv (Kg rfl Am0 rfl) ?_;refine Xo [(vb,_),(xb,_),(b3,_)] _ rfl (zF rfl BL1) (fun w hm=>Am3 vb vd c hvk.dk w (Ai7 hvk.dk (hm.pick (news':=dkM vb vd c []) (Pick.cnt fun x=>by simp only [nC,dkM,Value.I];omega)))) (fun z61=>?_)
 have hp61:=Az7 z61.2.2 hvk.pl;obtain ⟨hn61,hw61⟩:=hp61;obtain ⟨u,huu⟩:∃ u,z58.1.vs[0]' (by omega)=u:=⟨_,rfl⟩;obtain ⟨v,hvu⟩:∃ v,z61.1.vs[0]' (by omega)=v:=⟨_,rfl⟩;have hup:=hw58 (by omega) huu;have hvp:=hw61 (by omega) hvu;have htu:((playX (bareC c) noBn l1).1.views.getD 0 noVw).p.things.length=u.p.things.length:=congrArg (fun p:Pr=>p.things.length) hup.2.2.2.1;have htv:((playX (bareC c) noBn l2).1.views.getD 0 noVw).p.things.length=v.p.things.length:=congrArg (fun p:Pr=>p.things.length) hvp.2.2.2.1;refine lv (Kg rfl Am0 rfl) ?_;refine Ab5 21 Ah0 (qE (qC (Pick.refl _))) ?_;refine va 0 rfl (Aa4 rfl) rfl rfl rfl (qE (qC (Pick.refl _))) rfl ?_;refine va 1 rfl (Ag9 rfl Ap2 z58.2.1.v) rfl rfl rfl (qE (qC (Pick.refl _))) rfl ?_;refine va 2 rfl (Aa4 rfl) rfl rfl rfl (qE (qC (Pick.refl _))) rfl ?_;refine va 3 rfl (Aa4 rfl) rfl rfl rfl (qE (qC (Pick.refl _))) rfl ?_;refine Ag6 (dj:=66) false rfl (by rw [decide_eq_false_iff_not];omega) ?_;refine va 4 rfl (Aa4 rfl) rfl rfl rfl (qE (qC (Pick.refl _))) rfl ?_;refine va 5 rfl (Ag9 rfl Ap2 z61.2.1.v) rfl rfl rfl (qE (qC (Pick.refl _))) rfl ?_;refine va 6 rfl (Aa4 rfl) rfl rfl rfl (qE (qC (Pick.refl _))) rfl ?_;refine va 7 rfl (Aa4 rfl) rfl rfl rfl (qE (qC (Pick.refl _))) rfl ?_;refine va 8 rfl (Aa4 rfl) rfl rfl rfl (qE (qC (Pick.refl _))) rfl ?_;refine Ag6 (dj:=71) false rfl (by rw [decide_eq_false_iff_not];omega) ?_;refine va 9 rfl (Aa4 rfl) rfl rfl rfl (qE (qC (Pick.refl _))) rfl ?_;refine va 10 rfl (Aa3 (by show some (ownV z58.1.v z58.1.vs.length)=_;rw [Ac7 z58.2.1.v]) rfl Ap2 (by omega) (by omega) (As1 z58.2.1.v (by omega))) rfl rfl rfl (qE (qC (Pick.refl _))) rfl ?_;refine va 11 rfl (Lo rfl Aw2) rfl rfl rfl (qE (qC (Pick.refl _))) rfl ?_;refine va 12 rfl (Lo rfl As4) rfl rfl rfl (qE (qC (Pick.refl _))) rfl ?_;refine va 13 rfl (Aa5 rfl (fun w hm=>(AI3 z58.2.1 (hm.pick (news':=dkB z58.1++[]) (Pick.cnt fun x=>by simp only [nC,dkM,Value.I];omega))).v.cellE (Mem.refl w) (by simp) Av7 (i:=0) (by omega) huu (j:=7) (by decide) rfl (by simp))) rfl rfl rfl (qE (qC (Pick.refl _))) rfl ?_;refine va 14 rfl (Ae0 rfl As7) rfl rfl rfl (qE (qC (Pick.refl _))) rfl ?_;refine va 15 rfl (Aa4 rfl) rfl rfl rfl (qE (qC (Pick.refl _))) rfl ?_;refine va 16 rfl (Aa3 (by show some (ownV z61.1.v z61.1.vs.length)=_;rw [Ac7 z61.2.1.v]) rfl Ap2 (by omega) (by omega) (As1 z61.2.1.v (by omega))) rfl rfl rfl (qE (qC (Pick.refl _))) rfl ?_;refine va 17 rfl (Lo rfl Aw2) rfl rfl rfl (qE (qC (Pick.refl _))) rfl ?_;refine va 18 rfl (Lo rfl As4) rfl rfl rfl (qE (qC (Pick.refl _))) rfl ?_;refine va 19 rfl (Aa5 rfl (fun w hm=>(AI3 z61.2.1 (hm.pick (news':=dkB z61.1++[]) (Pick.cnt fun x=>by simp only [nC,dkM,Value.I];omega))).v.cellE (Mem.refl w) (by simp) Av7 (i:=0) (by omega) hvu (j:=7) (by decide) rfl (by simp))) rfl rfl rfl (qE (qC (Pick.refl _))) rfl ?_;refine va 20 rfl (Ae0 rfl As7) rfl rfl rfl (qE (qC (Pick.refl _))) rfl ?_;refine zt ?_;refine zp 21 ?_;refine zp 22 ?_;refine zd ?_;refine st ?_;refine Ly rfl ?_ (fun h=>absurd h (by simp;omega))
 intro c2;clear c2;refine st ?_;refine zc (zF rfl Ct2) (fun w hm=>Am5 w (hL.mono hm)) ?_;exact rP
set_option maxHeartbeats 8000000 in
theorem Dp4 (c:Cd) (q:OA) (b o cap:Nat) (hq:q=none→cap=0) (l1 l2:List Str) (q1:OA) (e1 o1 k1:Nat) (q2:OA) (e2 o2 k2:Nat) (W:World) (hL:Lw π W) (hS:Sl W q b o 9 (c.p.things.map Th.cells)) (hs1:Sl W q1 e1 o1 1 (l1.map strC)) (hs2:Sl W q2 e2 o2 1 (l2.map strC)) (hf1:farL c l1=false) (hf2:farL c l2=false) (h2:heavyC c=false) (hc:cardIs c=true) (h3:(playX (bareC c) noBn l1).1.views.length ≠ 0) (h4:(playX (bareC c) noBn l2).1.views.length ≠ 0) (h5:((playX (bareC c) noBn l1).1.views.getD 0 noVw).p.things.length=((playX (bareC c) noBn l2).1.views.getD 0 noVw).p.things.length):CC 3 #[c.v q cap,.slice q1 l1.length k1,.slice q2 l2.length k2] W (Pure (.bool true) W):=by
 obtain ⟨hl3,hl4,hv1⟩:=Ay1 hf1;obtain ⟨-,hl5,hv2⟩:=Ay1 hf2;have hund:π.underlying 32=some (.pointer 88):=by kernel_rfl
 refine cS func3 ?_;refine st ?_;refine zn (Lm rfl) (fun b3=>?_)
 refine zc (zF rfl AZ3) (fun w hm=>Aq1 c q b o cap l1 q1 e1 o1 k1 w (hS.mono (by decide) hm (by simp)) (hs1.mono (by decide) hm (by simp)) hf1) ?_;refine Ai4 (dj:=25) false rfl h2 ?_;refine su ?_;refine zc (zF rfl AZ3) (fun w hm=>Aq1 c q b o cap l2 q2 e2 o2 k2 w (hS.mono (by decide) hm (by simp)) (hs2.mono (by decide) hm (by simp)) hf2) ?_;refine Ly rfl (fun h=>absurd h (by simp [h2])) ?_;intro c0;clear c0;refine st ?_;refine Ab5 5 Ah0 (qC .nil) ?_;refine zw 0 ?_;refine zw 1 ?_;refine zw 3 ?_;refine zw 4 ?_;refine zA 2 ?_;refine Xp [(b3,_)] _ rfl rfl (zF rfl Bi2) (fun w hm=>Ak7 c q b o cap hq l1 q1 e1 o1 k1 w (hL.mono hm) (hS.mono (by decide) hm (by simp)) (by omega) (hs1.mono (by decide) hm (by simp)) (by omega) (fun s hs=>by have:=hv1 s hs;omega) hc) (fun z33=>(Aa2 (qC .nil) (qC .nil) rfl ?_))
 skip
 refine zt ?_;refine zB 5 ?_;refine Xp [(b3,_)] _ rfl rfl (zF rfl Bi2) (fun w hm=>Ak7 c q b o cap hq l2 q2 e2 o2 k2 w (hL.mono hm) (hS.mono (by decide) hm (by simp)) (by omega) (hs2.mono (by decide) hm (by simp)) (by omega) (fun s hs=>by have:=hv2 s hs;omega) hc) (fun z36=>(Ab1 ?_))
 skip
 refine zp 6 ?_;refine zp 7 ?_;refine zd ?_;refine Ke ?_;refine Lx ?_;refine csr ?_;obtain ⟨⟨xb,xd⟩,hxk⟩:=z33;obtain ⟨⟨vb,vd⟩,hvk⟩:=z36;dsimp only at hxk hvk ⊢;refine AI6 (Ab3 _) (news':=(vb,dkO vd c)::(xb,dkO xd c)::(b3,.cells (cellsL (c.v q cap)).toArray 28)::(dkB vd++(dkB xd++[]))) (Pick.cnt fun x=>by simp only [nC,dkM,Value.I];omega) ?_;refine st ?_;refine lv (Ae6 rfl hund) ?_;refine lv (Ae6 rfl hund) ?_;refine Ae9 rfl ?_;refine st ?_;refine Xo [(vb,_),(xb,_),(b3,_)] _ rfl (zF rfl BL1) (fun w hm=>Am3 xb xd c hxk.dk w (Ai7 hxk.dk (hm.pick (news':=dkM xb xd c []) (Pick.cnt fun x=>by simp only [nC,dkM,Value.I];omega)))) (fun z58=>?_)
 have hp58:=Az7 z58.2.2 hxk.pl;obtain ⟨hn58,hw58⟩:=hp58;refine lv (Kg rfl Am0 rfl) ?_;refine Xo [(vb,_),(xb,_),(b3,_)] _ rfl (zF rfl BL1) (fun w hm=>Am3 vb vd c hvk.dk w (Ai7 hvk.dk (hm.pick (news':=dkM vb vd c []) (Pick.cnt fun x=>by simp only [nC,dkM,Value.I];omega)))) (fun z61=>?_)
 have hp61:=Az7 z61.2.2 hvk.pl;obtain ⟨hn61,hw61⟩:=hp61;obtain ⟨u,huu⟩:∃ u,z58.1.vs[0]' (by omega)=u:=⟨_,rfl⟩;obtain ⟨v,hvu⟩:∃ v,z61.1.vs[0]' (by omega)=v:=⟨_,rfl⟩;have hup:=hw58 (by omega) huu;have hvp:=hw61 (by omega) hvu;have htu:((playX (bareC c) noBn l1).1.views.getD 0 noVw).p.things.length=u.p.things.length:=congrArg (fun p:Pr=>p.things.length) hup.2.2.2.1;have htv:((playX (bareC c) noBn l2).1.views.getD 0 noVw).p.things.length=v.p.things.length:=congrArg (fun p:Pr=>p.things.length) hvp.2.2.2.1;refine lv (Kg rfl Am0 rfl) ?_;refine Ab5 21 Ah0 (qE (qC (Pick.refl _))) ?_;refine va 0 rfl (Aa4 rfl) rfl rfl rfl (qE (qC (Pick.refl _))) rfl ?_;refine va 1 rfl (Ag9 rfl Ap2 z58.2.1.v) rfl rfl rfl (qE (qC (Pick.refl _))) rfl ?_;refine va 2 rfl (Aa4 rfl) rfl rfl rfl (qE (qC (Pick.refl _))) rfl ?_;refine va 3 rfl (Aa4 rfl) rfl rfl rfl (qE (qC (Pick.refl _))) rfl ?_;refine Ag6 (dj:=66) false rfl (by rw [decide_eq_false_iff_not];omega) ?_;refine va 4 rfl (Aa4 rfl) rfl rfl rfl (qE (qC (Pick.refl _))) rfl ?_;refine va 5 rfl (Ag9 rfl Ap2 z61.2.1.v) rfl rfl rfl (qE (qC (Pick.refl _))) rfl ?_;refine va 6 rfl (Aa4 rfl) rfl rfl rfl (qE (qC (Pick.refl _))) rfl ?_;refine va 7 rfl (Aa4 rfl) rfl rfl rfl (qE (qC (Pick.refl _))) rfl ?_;refine va 8 rfl (Aa4 rfl) rfl rfl rfl (qE (qC (Pick.refl _))) rfl ?_;refine Ag6 (dj:=71) false rfl (by rw [decide_eq_false_iff_not];omega) ?_;refine va 9 rfl (Aa4 rfl) rfl rfl rfl (qE (qC (Pick.refl _))) rfl ?_;refine va 10 rfl (Aa3 (by show some (ownV z58.1.v z58.1.vs.length)=_;rw [Ac7 z58.2.1.v]) rfl Ap2 (by omega) (by omega) (As1 z58.2.1.v (by omega))) rfl rfl rfl (qE (qC (Pick.refl _))) rfl ?_;refine va 11 rfl (Lo rfl Aw2) rfl rfl rfl (qE (qC (Pick.refl _))) rfl ?_;refine va 12 rfl (Lo rfl As4) rfl rfl rfl (qE (qC (Pick.refl _))) rfl ?_;refine va 13 rfl (Aa5 rfl (fun w hm=>(AI3 z58.2.1 (hm.pick (news':=dkB z58.1++[]) (Pick.cnt fun x=>by simp only [nC,dkM,Value.I];omega))).v.cellE (Mem.refl w) (by simp) Av7 (i:=0) (by omega) huu (j:=7) (by decide) rfl (by simp))) rfl rfl rfl (qE (qC (Pick.refl _))) rfl ?_;refine va 14 rfl (Ae0 rfl As7) rfl rfl rfl (qE (qC (Pick.refl _))) rfl ?_;refine va 15 rfl (Aa4 rfl) rfl rfl rfl (qE (qC (Pick.refl _))) rfl ?_;refine va 16 rfl (Aa3 (by show some (ownV z61.1.v z61.1.vs.length)=_;rw [Ac7 z61.2.1.v]) rfl Ap2 (by omega) (by omega) (As1 z61.2.1.v (by omega))) rfl rfl rfl (qE (qC (Pick.refl _))) rfl ?_;refine va 17 rfl (Lo rfl Aw2) rfl rfl rfl (qE (qC (Pick.refl _))) rfl ?_;refine va 18 rfl (Lo rfl As4) rfl rfl rfl (qE (qC (Pick.refl _))) rfl ?_;refine va 19 rfl (Aa5 rfl (fun w hm=>(AI3 z61.2.1 (hm.pick (news':=dkB z61.1++[]) (Pick.cnt fun x=>by simp only [nC,dkM,Value.I];omega))).v.cellE (Mem.refl w) (by simp) Av7 (i:=0) (by omega) hvu (j:=7) (by decide) rfl (by simp))) rfl rfl rfl (qE (qC (Pick.refl _))) rfl ?_;refine va 20 rfl (Ae0 rfl As7) rfl rfl rfl (qE (qC (Pick.refl _))) rfl ?_;refine zt ?_;refine zp 21 ?_;refine zp 22 ?_;refine zd ?_;refine st ?_;refine Ly rfl (fun h=>absurd h (by simp;omega)) ?_;intro c2;clear c2;refine st ?_;refine Ab5 10 Ah0 (qE (qC (Pick.refl _))) ?_;refine va 0 rfl (Aa4 rfl) rfl rfl rfl (qE (qC (Pick.refl _))) rfl ?_;refine va 1 rfl (Aa3 (by show some (ownV z58.1.v z58.1.vs.length)=_;rw [Ac7 z58.2.1.v]) rfl Ap2 (by omega) (by omega) (As1 z58.2.1.v (by omega))) rfl rfl rfl (qE (qC (Pick.refl _))) rfl ?_;refine va 2 rfl (Lo rfl Aw2) rfl rfl rfl (qE (qC (Pick.refl _))) rfl ?_;refine va 3 rfl (Aa5 rfl (fun w hm=>(AI3 z58.2.1 (hm.pick (news':=dkB z58.1++[]) (Pick.cnt fun x=>by simp only [nC,dkM,Value.I];omega))).v.loadPart (Mem.refl w) (by simp) AT2 (i:=0) (by omega) huu (j:=0) (m:=8) (by decide) (vs:=u.p.cells (ownQ u.t) (ownC u.t)) rfl (by decide) (by simp))) rfl rfl rfl (qE (qC (Pick.refl _))) rfl ?_;refine va 4 rfl (Aa4 rfl) rfl rfl rfl (qE (qC (Pick.refl _))) rfl ?_;refine va 5 rfl (Aa3 (by show some (ownV z61.1.v z61.1.vs.length)=_;rw [Ac7 z61.2.1.v]) rfl Ap2 (by omega) (by omega) (As1 z61.2.1.v (by omega))) rfl rfl rfl (qE (qC (Pick.refl _))) rfl ?_;refine va 6 rfl (Lo rfl Aw2) rfl rfl rfl (qE (qC (Pick.refl _))) rfl ?_;refine va 7 rfl (Aa5 rfl (fun w hm=>(AI3 z61.2.1 (hm.pick (news':=dkB z61.1++[]) (Pick.cnt fun x=>by simp only [nC,dkM,Value.I];omega))).v.loadPart (Mem.refl w) (by simp) AT2 (i:=0) (by omega) hvu (j:=0) (m:=8) (by decide) (vs:=v.p.cells (ownQ v.t) (ownC v.t)) rfl (by decide) (by simp))) rfl rfl rfl (qE (qC (Pick.refl _))) rfl ?_;refine va 8 rfl (Lr (parts:=[(0,.tmp 90),(1,.tmp 94),(2,.const (.int .i64 3)),(3,.const (.int .i64 368))]) rfl BQ1 BF0 rfl) rfl rfl rfl (qE (qC (Pick.refl _))) rfl ?_;refine zA 9 ?_;refine Xf rfl (Lp BQ1) (fun b11=>(Aa2 (qF (Pick.refl _)) (qD (qD (qD (Pick.skip (Pick.refl _))))) rfl ?_))
 refine zt ?_;refine zB 10 ?_;refine Xr rfl (Lt rfl rfl .here BR5 rfl rfl) (Ab1 ?_)
 refine zd ?_;refine Ke ?_;refine csr ?_;refine vQ ?_;refine nnx ?_;refine Lx ?_;refine csr ?_;have hmem:=hup.2.2.2.2;have hum:u∈z58.1.vs:=hmem;have hvm:v∈z61.1.vs:=hvp.2.2.2.2;have hru:=hxk.rt.v _ hup.2.2.1;have hrv:=hvk.rt.v _ hvp.2.2.1;have hun:u.p.things.length≤12:=hru.n;have hvn:v.p.things.length≤12:=hrv.n;have hpu:(powerX u.p).2=0:=hru.pw;have hpv:(powerX v.p).2=0:=hrv.pw;have hlen:u.p.things.length=v.p.things.length:=by rw [← hup.2.2.2.1,← hvp.2.2.2.1];exact h5
 refine st ?_;refine lu (Aa3 (by show some (ownV z58.1.v z58.1.vs.length)=_;rw [Ac7 z58.2.1.v]) rfl Ap2 (by omega) (by omega) (As1 z58.2.1.v (by omega))) ?_;refine lu (Aa5 rfl (fun w hm=>(AI3 z58.2.1 (hm.pick (news':=dkB z58.1++[]) (Pick.cnt fun x=>by simp only [nC,dkM,Value.I];omega))).v.cellE (Mem.refl w) (by simp) Av7 (i:=0) (by omega) huu (j:=7) (by decide) rfl (by simp))) ?_;refine Af5 (X:=DkX×DkX) (n0:=[(b11,_),(b3,_)]) (u.p.things.length) (fun k y q=>(102,.int .i64 (k:Int))::q) (fun _ _=>_) (fun k y=>[(vb,dkO y.2 c),(xb,dkO y.1 c)]) (fun k y=>dkB z61.1++(dkB z58.1++(dkB y.2++(dkB y.1++[])))) (fun k y=>DkOk y.1∧y.1.pl=xd.pl∧DkOk y.2∧y.2.pl=vd.pl) (xd,vd) ⟨hxk.dk,rfl,hvk.dk,rfl⟩ rfl (zE 102 rfl rfl (zS 7 rfl (zS 8 rfl (zS 11 rfl (zS 12 rfl (zS 101 rfl (Sub.nil _))))))) (qD (qD (qE (Pick.same rfl)))) ?_;intro k y kN kI;obtain ⟨ya,yb⟩:=y;obtain ⟨had,hap,hbd,hbp⟩:=kI;dsimp only at had hap hbd hbp ⊢;refine st ?_;refine cn rfl ?_ ?_
 ·intro c3'
  have hk:k < u.p.things.length:=by omega
  obtain ⟨a1,a2,ab,ha0⟩:∃ x y z,saidX u.p k=((x,y),z):=⟨_,_,_,rfl⟩;obtain ⟨d1,d2,db,hd0⟩:∃ x y z,saidX v.p k=((x,y),z):=⟨_,_,_,rfl⟩;obtain ⟨m1,m2,me,hmv⟩:∃ x y z,gMoved ⟨u.p,v.p,3,368⟩ k=((x,y),z):=⟨_,_,_,rfl⟩;obtain ⟨hrt,hyes,hno⟩:=Cn0 hpu hpv hlen hk ha0 hd0 hmv;obtain ⟨u1,u2,u3,u4⟩:=CC3 ha0;obtain ⟨v1,v2,v3,v4⟩:=CC3 hd0;refine st ?_;refine Xq (Ab4 rfl rfl Dn2) (fun w hm=>(AL1 (nw':=fun z:DkX=>(xb,dkO z c)::(vb,dkO yb c)::(b11,.cells [.I u.p.focal.lo,.I u.p.focal.hi,.I u.p.base.lo,.I u.p.base.hi,.I u.p.tilt,.I u.p.near,.I u.p.far,.slice (ownQ u.t) u.p.things.length (ownC u.t),.I v.p.focal.lo,.I v.p.focal.hi,.I v.p.base.lo,.I v.p.base.hi,.I v.p.tilt,.I v.p.near,.I v.p.far,.slice (ownQ v.t) v.p.things.length (ownC v.t),.I 3,.I 368].toArray 48)::(b3,.cells (cellsL (c.v q cap)).toArray 28)::(dkB z++(dkB yb++(dkB z58.1++(dkB z61.1++[]))))) (Bd3 xb ya c ((vb,dkO yb c)::(b11,.cells [.I u.p.focal.lo,.I u.p.focal.hi,.I u.p.base.lo,.I u.p.base.hi,.I u.p.tilt,.I u.p.near,.I u.p.far,.slice (ownQ u.t) u.p.things.length (ownC u.t),.I v.p.focal.lo,.I v.p.focal.hi,.I v.p.base.lo,.I v.p.base.hi,.I v.p.tilt,.I v.p.near,.I v.p.far,.slice (ownQ v.t) v.p.things.length (ownC v.t),.I 3,.I 368].toArray 48)::(b3,.cells (cellsL (c.v q cap)).toArray 28)::(dkB yb++(dkB z58.1++dkB z61.1))) W w k u.p hL had (hm.pick (Pick.cnt fun x=>by simp only [nC,dkM,Value.I];omega)) (by rw [hap];exact hup.1) (by rw [hap];exact hup.2.1) hk (by omega) ha0) (fun _=>(Pick.cnt fun x=>by simp only [nC,dkM,Value.I];omega)))) (fun z109 hz109=>?_)
  obtain ⟨hd109,hpl109⟩:=hz109;refine st ?_;refine zn (Lp Ac9) (fun b14=>?_)
  refine sQ .here ?_;refine st ?_;refine Xq (Ab4 rfl rfl Dn2) (fun w hm=>(AL1 (nw':=fun z:DkX=>(vb,dkO z c)::(b14,.cells [.I a1,.I a2].toArray 23)::(xb,dkO z109 c)::(b11,.cells [.I u.p.focal.lo,.I u.p.focal.hi,.I u.p.base.lo,.I u.p.base.hi,.I u.p.tilt,.I u.p.near,.I u.p.far,.slice (ownQ u.t) u.p.things.length (ownC u.t),.I v.p.focal.lo,.I v.p.focal.hi,.I v.p.base.lo,.I v.p.base.hi,.I v.p.tilt,.I v.p.near,.I v.p.far,.slice (ownQ v.t) v.p.things.length (ownC v.t),.I 3,.I 368].toArray 48)::(b3,.cells (cellsL (c.v q cap)).toArray 28)::(dkB z++(dkB z109++(dkB z58.1++(dkB z61.1++[]))))) (Bd3 vb yb c ((b14,.cells [.I a1,.I a2].toArray 23)::(xb,dkO z109 c)::(b11,.cells [.I u.p.focal.lo,.I u.p.focal.hi,.I u.p.base.lo,.I u.p.base.hi,.I u.p.tilt,.I u.p.near,.I u.p.far,.slice (ownQ u.t) u.p.things.length (ownC u.t),.I v.p.focal.lo,.I v.p.focal.hi,.I v.p.base.lo,.I v.p.base.hi,.I v.p.tilt,.I v.p.near,.I v.p.far,.slice (ownQ v.t) v.p.things.length (ownC v.t),.I 3,.I 368].toArray 48)::(b3,.cells (cellsL (c.v q cap)).toArray 28)::(dkB z109++(dkB z58.1++dkB z61.1))) W w k v.p hL hbd (hm.pick (Pick.cnt fun x=>by simp only [nC,dkM,Value.I];omega)) (by rw [hbp];exact hvp.1) (by rw [hbp];exact hvp.2.1) (by omega) (by omega) hd0) (fun _=>(Pick.cnt fun x=>by simp only [nC,dkM,Value.I];omega)))) (fun z116 hz116=>?_)
  obtain ⟨hd116,hpl116⟩:=hz116;refine st ?_;refine zn (Lp Ac9) (fun b16=>?_)
  refine sQ .here ?_;refine su ?_;refine zc (zF rfl Dn1) (fun w hm=>BG4 (g:=⟨u.p,v.p,3,368⟩) ⟨ownQ u.t,ownK u.t,0,ownC u.t,ownQ v.t,ownK v.t,0,ownC v.t⟩ (k:Int) w ⟨(AI3 z58.2.1 (hm.pick (news':=dkB z58.1++[]) (Pick.cnt fun x=>by simp only [nC,dkM,Value.I];omega))).t u hum,(AI3 z61.2.1 (hm.pick (news':=dkB z61.1++[]) (Pick.cnt fun x=>by simp only [nC,dkM,Value.I];omega))).t v hvm,by show u.p.things.length≤_;omega,by show v.p.things.length≤_;omega⟩ hmv) ?_;refine zn (Lp Ac9) (fun b18=>?_)
  refine sQ .here ?_;refine su ?_;refine zc (zF rfl DP0) (fun w hm=>BT4 (g:=⟨u.p,v.p,3,368⟩) ⟨ownQ u.t,ownK u.t,0,ownC u.t,ownQ v.t,ownK v.t,0,ownC v.t⟩ (k:Int) w ⟨(AI3 z58.2.1 (hm.pick (news':=dkB z58.1++[]) (Pick.cnt fun x=>by simp only [nC,dkM,Value.I];omega))).t u hum,(AI3 z61.2.1 (hm.pick (news':=dkB z61.1++[]) (Pick.cnt fun x=>by simp only [nC,dkM,Value.I];omega))).t v hvm,by show u.p.things.length≤_;omega,by show v.p.things.length≤_;omega⟩ hrt) ?_;refine zn (Lp Ac9) (fun b20=>?_)
  refine sQ .here ?_;refine st ?_
  refine Ac2 (dj:=133) (dp:=136) 3 rfl (fun g133=>by
   refine sv ?_;exact zs g133
  ) (fun g133=>by
    refine nQ ?_;refine nQ ?_;refine sv ?_;exact zs g133
  ) ?_
  refine st ?_;refine cn rfl ?_ ?_
  ·intro c4'
   have hme:me=11:=hno (by simpa using c4');refine st ?_
   refine Ac2 (dj:=139) (dp:=143) 4 rfl (fun g139=>by
    refine sv ?_;exact zs g139
   ) (fun g139=>by
     iterate 3 refine nQ ?_
     refine sv ?_;exact zs g139
   ) ?_
   refine st ?_;refine Ly rfl (fun h=>absurd h (by simp [hme])) ?_;intro c5;clear c5;refine st ?_;refine Ls ?_;refine Ac6 ?_;refine Aa6 ?_;refine st ?_;refine lA ?_;exact Ac3 (z109,z116) (by omega) ⟨hd109,hpl109.trans hap,hd116,hpl116.trans hbp⟩ rfl (zE 102 rfl rfl (zS 7 rfl (zS 8 rfl (zS 11 rfl (zS 12 rfl (zS 101 rfl (Sub.nil _))))))) (Pick.cnt fun x=>by simp only [nC,dkM,Value.I];omega)
  intro c4';obtain ⟨hab,hdb⟩:ab=true∧db=true:=by simpa using c4'
  obtain ⟨hme,hq1,hq2⟩:=hyes hab hdb;refine st ?_;refine Ab5 24 Ah0 (qG .nil) ?_;refine zw 0 ?_;refine zw 1 ?_;refine zw 2 ?_;refine Ag6 (dj:=146) false rfl (by simp [hme]) ?_;refine zw 3 ?_;refine zw 4 ?_;refine zw 5 ?_;refine zw 6 ?_;refine zw 7 ?_;refine zv 8 rfl (Ad4 rfl rfl (Lq _ ⟨by omega,by omega⟩)) ?_;refine zw 9 ?_;refine zw 10 ?_;refine zw 11 ?_;refine zw 12 ?_;refine zv 13 rfl (Ad4 rfl rfl (Lq _ ⟨by omega,by omega⟩)) ?_;refine zA 14 ?_;refine Xd rfl (zF rfl AH5) (fun w hm=>Ah6 _ _ w) (Aa2 (qG .nil) (qG .nil) rfl ?_)
  refine zv 15 rfl (AB0 rfl rfl Bw0) ?_;refine zw 16 ?_;refine zw 17 ?_;refine Ag6 (dj:=161) false rfl (by simp [hme,hq1,hq2]) ?_;refine zw 18 ?_;refine zw 19 ?_;refine zw 20 ?_;refine zw 21 ?_;refine Ag6 (dj:=165) false rfl (by simp [hme]) ?_;refine zw 22 ?_;refine zw 23 ?_;refine zt ?_;refine zo 24 rfl (AB0 rfl rfl Bw0) ?_;refine zp 25 ?_;refine zd ?_;refine st ?_;refine Ly rfl (fun h=>absurd h (by simp [hme,hq1,hq2])) ?_;intro c6;clear c6;refine st ?_;refine lA ?_;exact Ac3 (z109,z116) (by omega) ⟨hd109,hpl109.trans hap,hd116,hpl116.trans hbp⟩ rfl (zE 102 rfl rfl (zS 7 rfl (zS 8 rfl (zS 11 rfl (zS 12 rfl (zS 101 rfl (Sub.nil _))))))) (Pick.cnt fun x=>by simp only [nC,dkM,Value.I];omega)
 intro c3';refine Ls ?_;refine su ?_;refine Aa6 ?_;refine st ?_;refine zc (zF rfl Ct2) (fun w hm=>Am5 w (hL.mono hm)) ?_;exact rP
abbrev spSh:Sh:=.st [.int .i64,.int .i64]
abbrev plSh:Sh:=.st [spSh,spSh]
abbrev thSh:Sh:=.st [plSh,plSh,.int .i64]
abbrev prSh:Sh:=.st [spSh,spSh,.int .i64,.int .i64,.int .i64,.sl thSh]
theorem CD3 {w:World} {cs:LV} (h:Rd w spSh cs):∃ s:Sp,cs=[.I s.lo,.I s.hi]:=by
 cases h with
 | recS h1 h2 =>
   cases h1
   cases h2 with
   | recS h3 h4 =>
     cases h3
     cases h4
     exact ⟨⟨_,_⟩,rfl⟩
theorem DI5 {w:World} {cs:LV} (h:Rd w plSh cs):∃ s t:Sp,cs=[.I s.lo,.I s.hi,.I t.lo,.I t.hi]:=by
 cases h with
 | recS h1 h2 =>
   obtain ⟨s,rfl⟩:=CD3 h1
   cases h2 with
   | recS h3 h4 =>
     obtain ⟨t,rfl⟩:=CD3 h3
     cases h4
     exact ⟨s,t,rfl⟩
theorem DR3 {w:World} {cs:LV} (h:Rd w thSh cs):∃ t:Th,cs=t.cells:=by
 cases h with
 | recS h1 h2 =>
   obtain ⟨a,b,rfl⟩:=DI5 h1
   cases h2 with
   | recS h3 h4 =>
     obtain ⟨c,d,rfl⟩:=DI5 h3
     cases h4 with
     | recS h5 h6 =>
       cases h5
       cases h6
       exact ⟨⟨a,b,c,d,_⟩,rfl⟩
theorem BT1 {α:Type} {f:α→LV}:∀ {xs:List (LV)},(∀ x∈xs,∃ a,x=f a)→∃ l:List α,xs=l.map f
 | [],_=>⟨[],rfl⟩
 | x::xs,h=>by
   obtain ⟨a,rfl⟩:=h x (by simp);obtain ⟨l,rfl⟩:=BT1 (xs:=xs) (fun y hy=>h y (List.mem_cons_of_mem _ hy));exact ⟨a::l,rfl⟩
structure In (w:World) (p:Pr) (q:OA) (b o cap:Nat):Prop where
 s:Sl w q b o 9 (p.things.map Th.cells)
 n:q=none→p.things.length=0∧cap=0
theorem DR4 {w:World} {cs:LV} (h:Rd w prSh cs):∃ (p:Pr) (q:OA) (b o cap:Nat),cs=p.cells q cap∧In w p q b o cap:=by
 cases h with
 | recS h1 h2 =>
 obtain ⟨f,rfl⟩:=CD3 h1
 cases h2 with
 | recS h1 h2 =>
 obtain ⟨g,rfl⟩:=CD3 h1
 cases h2 with
 | recS h1 h2 =>
 cases h1
 cases h2 with
 | recS h1 h2 =>
 cases h1
 cases h2 with
 | recS h1 h2 =>
 cases h1
 cases h2 with
 | recS h1 h2 =>
 cases h2
 cases h1 with
 | slNil=>exact ⟨⟨f,g,_,_,_,[]⟩,none,0,0,0,rfl,⟨Sl.emp,fun _=>⟨rfl,rfl⟩⟩⟩
 | sl hs hl hc hx =>
   obtain ⟨ts,rfl⟩:=BT1 (f:=Th.cells) (fun x hx'=>DR3 (hx x hx'));exact ⟨⟨f,g,_,_,_,ts⟩,some _,_,_,_,by rw [List.length_map];rfl,⟨hs,fun h=>by cases h⟩⟩
abbrev cdSh:Sh:=.st [prSh,.int .i64,.int .i64,.int .i64,spSh,.int .i64,.int .i64,.int .i64,.int .i64]
theorem DR6 {w:World} {cs:LV} (h:Rd w cdSh cs):∃ (c:Cd) (q:OA) (b o cap:Nat),cs=c.cells q cap∧In w c.p q b o cap:=by
 cases h with
 | recS h1 h2 =>
 obtain ⟨p,q,b,o,cap,rfl,hp⟩:=DR4 h1
 cases h2 with
 | recS h1 h2 =>
 cases h1
 cases h2 with
 | recS h1 h2 =>
 cases h1
 cases h2 with
 | recS h1 h2 =>
 cases h1
 cases h2 with
 | recS h1 h2 =>
 obtain ⟨e,rfl⟩:=CD3 h1
 cases h2 with
 | recS h1 h2 =>
 cases h1
 cases h2 with
 | recS h1 h2 =>
 cases h1
 cases h2 with
 | recS h1 h2 =>
 cases h1
 cases h2 with
 | recS h1 h2 =>
 cases h1
 cases h2
 exact ⟨⟨p,_,_,_,e,_,_,_,_⟩,q,b,o,cap,rfl,hp⟩
end Go.Q
namespace Go.Eng
open Go Go.RowKit Go.ChangeShapes Go.WideShapes Go.ChangeAt
theorem AU8 {H:Type} {enc:TypeId×Value→H} {a:Assume} {C:Checked} {os:Os} {f:FuncId} {fn:Func} {s:ChangeSpec} {conds:List PathCond} {apart fresh handsOn again:Bool} {X:World→Array Value→Prop}
  (hX:∀ (w w':World) (args:Array Value),w.heap=w'.heap→X w args→X w' args)
  (own:ownKnob C.prog.godebug=none) (started:os.Started) (noInit:C.prog.inits.idxOf? f=none) (hfn:C.prog.funcs[f]? = some fn)
  (witness:∃ (w:World) (tape:Tape) (i:Input),w.os=os∧(w.forCall tape i).Shaped C.prog∧i.vars=[]∧Input.okWide C.prog (w.forCall tape i) .any w.heap.size f i ∧
   ((s.pre enc C.prog fn conds apart (w.forCall tape i).memory i.args∧X (w.forCall tape i).memory i.args)∧sizedMet enc C.prog fn (OpenSpec.ofChange s) apart (w.forCall tape i).memory i.args)∧a.holds C.prog (lone (Frame.enter C.prog f i.args .normal) [] (w.forCall tape i)))
  (contract:∀ (W:World) (base:Nat) (args:Array Value) (ds gs:List (DataW H)) (before:List MemPlace),
   (∀ (j:Nat) t v,fn.params[j]? = some t→args[j]? = some v→Value.okWide C.prog W .any base t v) →
   DataW.Whole enc C.prog fn.params.toList s.vars apart W args.toList ds gs before→W.ShapedOpen C.prog→X W args →
   Calls C.prog f args W fun e W'=>∃ v,e = .returned v∧s.post enc C.prog fn apart fresh handsOn again W args v W') :
  ReturnsInHanded a C os f .any (fun w args=>(s.pre enc C.prog fn conds apart w args∧X w args)∧sizedMet enc C.prog fn (OpenSpec.ofChange s) apart w args) (s.post enc C.prog fn apart fresh handsOn again):=by
 refine returnsInHanded_of_calls own started noInit witness ?_;intro w tape i _ hsh _ hok hpre hholds;obtain ⟨_,_,_,fn',hfn',_,_,_,_,hval⟩:=hok;have e:fn'=fn:=Option.some.inj (hfn'.symm.trans hfn);subst e;obtain ⟨⟨⟨ds,gs,before,hw,hc⟩,hx⟩,hz⟩:=hpre;have hw':=DataW.Whole.of_heap (w':=w.forCall tape i) (by rfl) hw;refine (contract (w.forCall tape i) w.heap.size i.args ds gs before hval hw' hsh (hX _ _ _ (by rfl) hx)).mono fun e W' ⟨v,he,hp⟩=>?_
 subst he;exact ChangeSpec.post_blind hp
theorem Bx0 {H:Type} {enc:TypeId×Value→H} {P:Program} {f:Func} {s:ChangeSpec} {n:Nat} {shs:List Sh} {tb:TypeId} {F:FuncId} (hl:laidOutB P=true) (hsh:f.params.toList.mapM (shapeB P n)=some shs)
  (hp:f.params.toList.all (fun t=>P.readableRec t && decide (t < P.types.size))=true) (hr:f.resultTypes = #[tb]) (hb:P.underlying tb=some .bool) (hvars:s.vars=[])
  (hfn:∀ ds:List (DataW H),ds.length=f.params.toList.length→s.fn H (ds++[])={ results:=[.lit (.bool true)],args:=ds })
  {W:World} (walk:∀ vs:LV,RdAll W shs vs→Calls P F vs.toArray W (Pure (.bool true) W)) {base:Nat} {args:Array Value} {ds gs:List (DataW H)} {before:List MemPlace} (hval:∀ (j:Nat) t v,f.params[j]? = some t→args[j]? = some v→Value.okWide P W .any base t v)
  (hW:DataW.Whole enc P f.params.toList s.vars false W args.toList ds gs before) :
  Calls P F args W fun e W'=>∃ v,e = .returned v∧s.post enc P f false true false false W args v W':=by
 have hW':=hW;obtain ⟨p,q,hA,hV,rfl,hfz,hnd⟩:=hW;rw [hvars] at hV;obtain ⟨rfl,rfl⟩:=trodVars_none hV;have hrd:RdAll W shs args.toList:=Cf0 hsh (fun j t v hj hv=>hval j t v (by simpa using hj) (by simpa using hv)) hA
 have hlen:ds.length=f.params.toList.length:=by
  clear hW' hval hrd hfn hp hsh hfz hnd hV
  generalize f.params.toList=ts at hA
  generalize args.toList=vs at hA
  induction ts generalizing vs ds p with
  | nil=>obtain ⟨_,rfl,_⟩:=trodAll_nil hA;rfl
  | cons t ts ih =>
    obtain ⟨v,vs',d,ds',p,q,rfl,rfl,rfl,h0,hr⟩:=trodAll_cons hA;simp [ih _ _ hr]
 refine (walk args.toList hrd).mono fun e W' ⟨he,hm⟩=>?_
 subst he;have bel:=hm.below;refine ⟨_,rfl,ds,[],p++[],[],p,[],hW',?_,?_,?_,bel.frame _,fun h=>by cases h⟩
 · rw [hfn ds hlen,hr]
   exact trodAll_mk1 (shut_bool hb _)
 · rw [hfn ds hlen]
   exact AO7 hl bel hp hA
 · rw [hvars,hfn ds hlen]
   rfl
theorem Bp6 {P:Program} {n nm:String} {d:DataW Unit} {r:List (String×DataW Unit)} {W:World} {g:Nat} {ti:TypeId} {ms:Array (String×TypeId)}
  (h:laidMet P ((n,.iface nm d)::r) W) (hg:P.globalNamed n=some g) (ht:(P.globals[g]?).map (·.type)=some ti) (hi:P.underlying ti=some (.interface ms)):∃ te pe,W.cell? ⟨g,0,none⟩=some (.iface te pe):=by
 obtain ⟨ps,⟨g0,t0,cs0,f0,p0,q0,hg0,ht0,hv0,hd0,_,e0⟩,_,hrows⟩:=h;obtain rfl:=Option.some.inj (hg.symm.trans hg0);obtain rfl:=Option.some.inj (ht.symm.trans ht0);obtain ⟨f',u,v,hcs,_,_⟩:=iface_of_trod hi hd0;have h1:=World.var?_cell hg0 hv0 0
 have e:cs0 = #[.iface u v]:=by
  obtain ⟨l⟩:=cs0;simp only at hcs
  rw [hcs]
 rw [e] at h1;exact ⟨u,v,by simpa using h1⟩
end Go.Eng
namespace Go.Q
open Go Go.Eng Go.Dk Go.RowKit Go.Pw1 Go.Hp
abbrev laidL:List (String×DataW Unit):=[("math/bits.deBruijn32tab",Rows.laid_math_bits_deBruijn32tab),("math/bits.deBruijn64tab",Rows.laid_math_bits_deBruijn64tab),("internal/strconv.uint64pow10",Rows.laid_internal_strconv_uint64pow10),("unicode/utf8.acceptRanges",Rows.laid_unicode_utf8_acceptRanges),("strconv.ErrRange",Rows.laid_strconv_ErrRange),("strconv.ErrSyntax",Rows.laid_strconv_ErrSyntax),("unicode/utf8.first",Rows.laid_unicode_utf8_first)]
theorem DS8:((begin π (fun _ _=>0) default).world.heap[3]?).bind Obj.row? = some (#[.I 0],3):=by kernel_rfl
theorem DR7 {W:World} (hsh:W.ShapedOpen π) (hL:laidMetH π laidL W):Lw π W:=by
 rw [MakeChecks.laidMetH_plain _ _ _ (by kernel_rfl)] at hL;have h3:=hL.tail.tail;have h5:=h3.tail.tail;obtain ⟨te,pe,h1⟩:=Bp6 h5 (g:=1) (by kernel_rfl) (by kernel_rfl) underlying55;obtain ⟨te2,pe2,h2⟩:=Bp6 h5.tail (g:=0) (by kernel_rfl) (by kernel_rfl) underlying55
 exact ⟨Proofs.cell_of_shapedOpen_int hsh (by decide) DS8 rfl (by kernel_rfl) (by kernel_rfl) underlying3,
  Lib.tabIs_of_head (g:=2) (t:=339) (n:=20) (e:=251) (by kernel_rfl) (by kernel_rfl) (by kernel_rfl) (by kernel_rfl) (by kernel_rfl) (by kernel_rfl) h3,
  ⟨_,h2,.inr ⟨_,_,rfl⟩⟩,⟨_,h1,.inr ⟨_,_,rfl⟩⟩⟩
theorem CI4 (os:Os):(World.holding π os ⟨#[],#[],[]⟩).layFits π laidL []=true:=by kernel_rfl
theorem BV2 (os:Os):(World.holding π os ⟨#[],#[],[]⟩).layIfaces π laidL (World.laidAll π os laidL)=true:=by kernel_rfl
theorem DI4 {w:World} {cs:LV} (h:Rd w .str cs):∃ s:Str,cs=strC s:=by
 cases h with
 | @str v=>exact ⟨v.data.toList,rfl⟩
theorem Ce9 {w:World} {cs:LV} (h:Rd w (.sl .str) cs):∃ (l:List Str) (q:OA) (b o cap:Nat),cs=[Value.slice q l.length cap]∧Sl w q b o 1 (l.map strC)∧l.length≤9223372036854775807:=by
 cases h with
 | slNil=>exact ⟨[],none,0,0,0,rfl,Sl.emp,by decide⟩
 | @sl _ ad cap2 _ hs hl hc hx =>
   obtain ⟨l,rfl⟩:=BT1 (f:=strC) (fun x hx'=>DI4 (hx x hx'));rw [List.length_map] at hl;exact ⟨l,some ad,_,_,cap2,by rw [List.length_map],hs,Ku hl (Ku hc (by decide))⟩
theorem Bv4 (W:World) (vs:LV) (hL:Lw π W) (h:RdAll W [cdSh,.sl .str,.sl .str] vs):CC 3 vs.toArray W (Pure (.bool true) W):=by
 cases h with
 | cons h1 h =>
 cases h with
 | cons h2 h =>
 cases h with
 | cons h3 h =>
 cases h
 obtain ⟨c,q,b,o,cap,rfl,hp⟩:=DR6 h1;obtain ⟨l1,q1,e1,o1,k1,rfl,hs1,hl1⟩:=Ce9 h2;obtain ⟨l2,q2,e2,o2,k2,rfl,hs2,hl2⟩:=Ce9 h3;have hq:q=none→cap=0:=fun h=>(hp.n h).2
 by_cases hf:((farL c l1 || heavyC c) || (farL c l2 || heavyC c))=true
 · exact CZ7 c q b o cap hq l1 l2 q1 e1 o1 k1 q2 e2 o2 k2 W hL hp.s hs1 hs2 hl1 hl2 hf
 · simp only [Bool.or_eq_true,not_or,Bool.not_eq_true] at hf
   obtain ⟨⟨f1,f2⟩,f3,-⟩:=hf
   cases hc:cardIs c with
   | false=>exact Dp5 c q b o cap hq l1 l2 q1 e1 o1 k1 q2 e2 o2 k2 W hL hp.s hs1 hs2 f1 f3 f2 hc
   | true =>
     by_cases g1:(playX (bareC c) noBn l1).1.views.length=0
     · exact Dp8 c q b o cap hq l1 l2 q1 e1 o1 k1 q2 e2 o2 k2 W hL hp.s hs1 hs2 f1 f3 f2 hc g1
     · by_cases g2:(playX (bareC c) noBn l2).1.views.length=0
       · exact Dp7 c q b o cap hq l1 l2 q1 e1 o1 k1 q2 e2 o2 k2 W hL hp.s hs1 hs2 f1 f3 f2 hc g1 g2
       · by_cases g3:((playX (bareC c) noBn l1).1.views.getD 0 noVw).p.things.length=((playX (bareC c) noBn l2).1.views.getD 0 noVw).p.things.length
         · exact Dp4 c q b o cap hq l1 l2 q1 e1 o1 k1 q2 e2 o2 k2 W hL hp.s hs1 hs2 f1 f3 f2 hc g1 g2 g3
         · exact Dp6 c q b o cap hq l1 l2 q1 e1 o1 k1 q2 e2 o2 k2 W hL hp.s hs1 hs2 f1 f3 f2 hc g1 g2 g3
end Go.Q
