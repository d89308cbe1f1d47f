/- Walks of package book: bytes of prints. -/
import Derived.Test.YtleamcmljcdapaaGreatDoorT02
import Derived.Lib.SplitLaws
set_option linter.unusedSimpArgs false
set_option linter.unusedVariables false
namespace Go.Bk
open Go Go.Eng Go.RowKit
def byC (c:UInt8):List Value:=[byteV c]
theorem byc_flat (l:Str):byc l=(l.map byC).flatten:=by
  unfold byc byC
  induction l with
  | nil=>rfl
  | cons a l ih=>simp only [List.map_cons,List.flatten_cons,← ih];rfl
def putS (n:Int):Str:=[UInt8.ofNat (n.toNat / 256),UInt8.ofNat (n.toNat % 256)]
def spanB (s:Sp):Str:=putS s.lo++putS (s.hi - s.lo)
def cardB (c:Pt):Str:=spanB c.size++spanB c.wide++putS c.marks
def checkN (l:Str):Nat:=l.foldl (fun n c=>(n * 31 + c.toNat) % 65521) 0
theorem checkN_lt (l:Str):checkN l < 65521:=by
  unfold checkN
  have key:∀ (l:Str) (n:Nat),n < 65521→l.foldl (fun n c=>(n * 31 + c.toNat) % 65521) n < 65521:=by
    intro l
    induction l with
    | nil=>intro n h;exact h
    | cons a l ih=>intro n _;exact ih _ (Nat.mod_lt _ (by decide))
  exact key l 0 (by decide)
def headB (p:Ps):Str:=[80,UInt8.ofNat p.cards.length]
def psB (p:Ps):Str:=headB p++(p.cards.map cardB).flatten++spanB p.less++spanB p.loss
def psS (p:Ps):Str:=psB p++putS (checkN (psB p):Int)
def In16 (n:Int):Prop:=0≤n∧n < 65536
theorem hi_byte {n:Int} (h:In16 n):IntKind.u8.wrap (n / 2 ^ (8:Int).toNat)=((UInt8.ofNat (n.toNat / 256)).toNat:Int):=by
  obtain ⟨h1,h2⟩:=h
  have e1:(8:Int).toNat=8:=rfl
  have e2:IntKind.u8.wrap (n / 2 ^ (8:Int).toNat)=(n / 2 ^ (8:Int).toNat) % 256:=rfl
  rw [e2,e1]
  simp only [UInt8.toNat_ofNat']
  omega
theorem lo_byte {n:Int} (h:In16 n):IntKind.u8.wrap n=((UInt8.ofNat (n.toNat % 256)).toNat:Int):=by
  obtain ⟨h1,h2⟩:=h
  have e2:IntKind.u8.wrap n=n % 256:=rfl
  rw [e2]
  simp only [UInt8.toNat_ofNat']
  omega
def numT (l:Str) (ns:List Int) (k:Nat):Str:=l++((ns.take k).map putS).flatten
theorem numT_s {l:Str} {ns:List Int} {k:Nat} (hk:k < ns.length) {x:Int} (hx:ns[k]=x):numT l ns (k + 1)=numT l ns k++putS x:=by
  unfold numT
  rw [List.take_succ_eq_append_getElem hk,List.map_append,List.flatten_append,hx]
  simp
theorem numT_len {l:Str} {ns:List Int}:∀ {k:Nat},k≤ns.length→(numT l ns k).length=l.length + 2 * k
  | 0,_=>by simp [numT]
  | k + 1,h=>by
    rw [numT_s (by omega) rfl,List.length_append,numT_len (by omega)]
    simp only [putS,List.length_cons,List.length_nil]
    omega
theorem check_step {l:Str} {k:Nat} (hk:k < l.length) {c:UInt8} (hc:l[k]=c):checkN (l.take (k + 1))=(checkN (l.take k) * 31 + c.toNat) % 65521:=by
  unfold checkN
  rw [List.take_succ_eq_append_getElem hk,List.foldl_append,hc]
  rfl
end Go.Bk
namespace Go.Proofs.YtleamcmljcdapaaGreatDoor
open Go Go.Eng Go.Bk Go.RowKit

abbrev fiO (y:Eng.Own) (n:Nat):Obj:=.cells [ownV y n].toArray 118 (0,0)
abbrev fiM (f:Nat) (y:Eng.Own) (l:Str) (tl:Blks):Blks:=(f,fiO y l.length)::(ownB 5 y (byc l)++tl)
theorem fnum_calls (f:Nat) (ns:List Int) (q:Option Addr) (b o c:Nat) (x:Eng.Own) (l:Str) (rest:Blks) (W0 w:World) (hm0:Mem W0 [] (fiM f x l (rest++[])) w) (hx:OwnOk 1 x l.length (byc l)) (hS:∀ w',Mem W0 [] (rest++[]) w'→Sl w' q b o 1 (ns.map intC)) (hn:ns.length≤100) (h16:∀ n∈ns,In16 n) (hb:l.length≤1000000) :
    Calls Tryz.prog 61 #[.pointer (some ⟨f,0,none⟩),.slice q ns.length c] w (Grow W0 [] (fun _:Eng.Own=>.tuple #[]) (fun y=>fiM f y (numT l ns ns.length) (rest++[])) (fun y=>OwnOk 1 y (numT l ns ns.length).length (byc (numT l ns ns.length)))):=by
  have e0:numT l ns 0=l:=by simp [numT]
  have hS0:=hS w (hm0.pick (Pick.cnt fun x=>by simp only [nC];omega))
  refine calls_from hm0 Tryz.func61 rfl rfl ?_
  refine st ?_
  refine lv (Val.len_sl rfl sl_27) ?_
  refine RunC.loopX (X:=Eng.Own) (n0:=[]) (ns.length) (fun k y q=>(8,.int .i64 (k:Int))::q) (fun _ _=>_) (fun k y=>[(f,fiO y (numT l ns k).length)]) (fun k y=>ownB 5 y (byc (numT l ns k))++(rest++[])) (fun k y=>OwnOk 1 y (numT l ns k).length (byc (numT l ns k))) x (by rw [e0];exact hx) rfl (Sub.consE (t:=8) rfl rfl (Sub.cons (t:=0) rfl (Sub.cons (t:=6) rfl (Sub.cons (t:=7) rfl (Sub.nil _))))) (.cons .here (by rw [e0]) (Pick.same (by rw [e0];rfl))) ?_
  intro k y kN kI
  refine st ?_
  refine cn rfl ?_ ?_
  ·intro c0'
   have hk:k < ns.length:=by omega
   obtain ⟨n,hy⟩:∃ n,ns[k]=n:=⟨_,rfl⟩
   have hn16:=h16 n (hy ▸ List.getElem_mem hk)
   have hlk:=numT_len (l:=l) (ns:=ns) (k:=k) (by omega)
   refine st ?_
   refine lv (Val.indexAddr_slp rfl rfl sl_27 (by omega) (by omega) (Sl.ptrM hS0 hk)) ?_
   refine lv (Val.load_gen rfl (fun w hm=>Sl.loadM1 (hS w (hm.pick (Pick.cnt fun x=>by simp only [nC];omega))) (by decide) (Mem.refl w) (by simp) ty_3 hk (v:=.int .i64 n) (by simp [intC,hy]))) ?_
   refine lv (Val.fieldAddr rfl fld_118_0) ?_
   refine lv (Val.load_one rfl (.head _) ty_58 rfl) ?_
   refine lv (Val.shr rfl rfl hn16.1 (by decide) (by decide)) ?_
   refine lv (Val.convIntW rfl und_3 und_5 (hi_byte hn16)) ?_
   refine lv (Val.convIntW rfl und_3 und_5 (lo_byte hn16)) ?_
   refine RunL.new (New.buildSlice (parts:=[(0,.tmp 19),(1,.tmp 21)]) rfl sl_58 zero_5 rfl rfl rfl rfl) rfl rfl rfl (fun b22=>?_)
   refine RunL.append (A:=[(b22,_),(f,_)]) (B:=_) (x:=y) (ys:=byc (putS n)) ap_58 rfl rfl rfl kI rfl (fun h=>by cases h) (fun w hm=>src_blk (hm.at (.head _))) (one_of rfl) (by simp only [maxLen];omega) (by omega) rfl (fun z23 hz23=>?_)
   refine st ?_
   refine lv (Val.fieldAddr rfl fld_118_0) ?_
   refine RunL.sto (Sto.storeOwn rfl rfl (.there .here) ty_58 rfl rfl) rfl rfl ?_
   refine st ?_
   refine lv (Val.add rfl rfl (IntWalk.i64_in _ ⟨by omega,by omega⟩)) ?_
   exact RunE.roundX z23 (by omega) (by rw [numT_s hk hy,List.length_append,byc_app];exact hz23) rfl (Sub.consE (t:=8) rfl rfl (Sub.cons (t:=0) rfl (Sub.cons (t:=6) rfl (Sub.cons (t:=7) rfl (Sub.nil _))))) (.cons (.there .here) (by rw [numT_s hk hy,List.length_append];rfl) (Pick.skip (Pick.same (by rw [numT_s hk hy,byc_app];rfl))))
  intro c0'
  obtain rfl:k=ns.length:=by omega
  refine RunC.exit ?_
  refine RunE.pass_exit ?_
  refine RunE.pass_exit ?_
  refine RunE.block_here ?_
  exact RunE.finG y kI (.r0 rfl) rfl (.cons .here rfl (Pick.refl _))
theorem fcheck_calls (f:Nat) (l:Str) (q:Option Addr) (b o c:Nat) (cs:List Value) (T:TypeId) (W:World) (hf:W.heap[f]? = some (.cells (.slice q l.length c::cs).toArray T (0,0))) (hS:Sl W q b o 1 (l.map byC)) (hl:l.length≤1000000) :
    Calls Tryz.prog 62 #[.pointer (some ⟨f,0,none⟩)] W (Pure (.int .i64 (checkN l:Int)) W):=by
  have hc0:∀ k,checkN (l.take k) < 65521:=fun k=>checkN_lt _
  refine calls_start Tryz.func62 rfl rfl ?_
  refine st ?_
  refine lv (Val.fieldAddr rfl fld_118_0) ?_
  refine lv (Val.oload_one rfl hf (by simp) ty_58 rfl) ?_
  refine lv (Val.len_sl rfl sl_58) ?_
  refine RunC.loopK (l.length) (fun k q=>(10,.int .i64 (k:Int))::(2,.int .i64 (checkN (l.take k):Int))::q) (fun _=>_) (fun _=>[]) (fun _=>True) trivial rfl (Sub.consE (t:=10) rfl rfl (Sub.consE (t:=2) rfl rfl (Sub.cons (t:=8) rfl (Sub.cons (t:=9) rfl (Sub.nil _))))) .nil ?_
  intro k kN kI
  clear kI
  refine st ?_
  refine cn rfl ?_ ?_
  ·intro c0'
   have hk:k < l.length:=by omega
   obtain ⟨y,hy⟩:∃ y,l[k]=y:=⟨_,rfl⟩
   have hck:=hc0 k
   have hy8:=y.toNat_lt
   refine st ?_
   refine lv (Val.indexAddr_slp rfl rfl sl_58 (by omega) (by omega) (Sl.ptrM hS hk)) ?_
   refine lv (Val.load_gen rfl (fun w hm=>Sl.loadM1 hS (by decide) hm (by simp) ty_5 hk (v:=byteV y) (by simp [byC,hy]))) ?_
   refine lv (Val.mul rfl rfl (IntWalk.i64_in _ ⟨by omega,by omega⟩)) ?_
   refine lv (Val.convInt rfl und_5 und_3 (IntWalk.i64_in _ ⟨by omega,by omega⟩)) ?_
   refine lv (Val.add rfl rfl (IntWalk.i64_in _ ⟨by omega,by omega⟩)) ?_
   refine lv (Val.rem rfl rfl (by omega) (by omega)) ?_
   refine lv (Val.add rfl rfl (IntWalk.i64_in _ ⟨by omega,by omega⟩)) ?_
   exact RunE.round (by omega) trivial rfl (Sub.consE (t:=10) rfl rfl (Sub.consE (t:=2) rfl (by rw [check_step hk hy];simp) (Sub.cons (t:=8) rfl (Sub.cons (t:=9) rfl (Sub.nil _))))) .nil
  intro c0'
  obtain rfl:k=l.length:=by omega
  rw [List.take_length]
  refine RunC.exit ?_
  refine RunE.pass_exit ?_
  refine RunE.pass_exit ?_
  refine RunE.block_here ?_
  refine st ?_
  refine RunC.ret ?_
  exact RunE.retP (.r1 rfl (.tmp rfl)) (by first | rfl | simp)
end Go.Proofs.YtleamcmljcdapaaGreatDoor
namespace Go.Proofs.YtleamcmljcdapaaGreatDoor
open Go Go.Eng
theorem ent_59:Enters Tryz.prog 59:=enters_of Tryz.func59 (by kernel_rfl) rfl
theorem ent_60:Enters Tryz.prog 60:=enters_of Tryz.func60 (by kernel_rfl) rfl
theorem ent_61:Enters Tryz.prog 61:=enters_of Tryz.func61 (by kernel_rfl) rfl
theorem ent_62:Enters Tryz.prog 62:=enters_of Tryz.func62 (by kernel_rfl) rfl
theorem places_118:placesB Tryz.prog 118=some [(0,1)]:=by kernel_rfl
theorem ty_40:tyB Tryz.prog 40=some (true,5):=by kernel_rfl
theorem zero_118:zeroB Tryz.prog 118=some [.slice none 0 0]:=by kernel_rfl
theorem zero_120:zeroB Tryz.prog 120=some [.int .i64 0,.int .i64 0,.int .i64 0,.int .i64 0,.int .i64 0]:=by kernel_rfl
end Go.Proofs.YtleamcmljcdapaaGreatDoor
namespace Go.Bk
open Go Go.Eng Go.RowKit
theorem own_bytes {x:Eng.Own} {l:Str} {e:TypeId} {w:World} (h:OwnOk 1 x l.length (byc l)) (hm:∀ b o,(b,o)∈ownB e x (byc l)→w.heap[b]? = some o):Sl w (ownQ x) (ownK x) 0 1 (l.map byC):=by
  rw [byc_flat] at h hm
  exact own_sl (f:=byC) (fun _=>rfl) (by decide) h hm
theorem numT1 (l:Str) (a:Int):numT l [a] [a].length=l++putS a:=by simp [numT]
theorem numT2 (l:Str) (a b:Int):numT l [a,b] [a,b].length=l++(putS a++putS b):=by simp [numT]
def Sp16 (s:Sp):Prop:=0≤s.lo∧s.lo≤s.hi∧s.hi≤16384
theorem sp16 {s:Sp} (h:spanX s 16384=true):Sp16 s:=by
  simp only [spanX,Bool.and_eq_true,decide_eq_true_eq] at h
  exact ⟨h.1.1,h.1.2,h.2⟩
structure PsV (p:PsA):Prop where
  cards:p.cards.l.length≤5
  each:∀ c∈p.cards.l,Sp16 c.size∧Sp16 c.wide∧0≤c.marks∧c.marks≤1023
  less:Sp16 p.less
  loss:Sp16 p.loss
theorem prints_v {p:PsA} (h:printsX p.pl=true):PsV p:=by
  simp only [printsX,Bool.and_eq_true,Bool.not_eq_true',decide_eq_true_eq] at h
  obtain ⟨⟨⟨h1,h2⟩,h3⟩,h4⟩:=h
  refine ⟨h1,fun c hc=>?_,sp16 h3,sp16 h4⟩
  have h:=any_no h2 hc
  simp only [badPt,within,Bool.or_eq_false_iff,Bool.not_eq_false',Bool.and_eq_true,decide_eq_true_eq] at h
  exact ⟨sp16 h.1.1,sp16 h.1.2,h.2.1,h.2.2⟩
def pT (p:PsA) (k:Nat):Str:=headB p.pl++((p.cards.l.take k).map cardB).flatten
theorem pT_s {p:PsA} {k:Nat} (hk:k < p.cards.l.length) {x:Pt} (hx:p.cards.l[k]=x):pT p (k + 1)=pT p k++spanB x.size++spanB x.wide++putS x.marks:=by
  unfold pT
  rw [List.take_succ_eq_append_getElem hk,List.map_append,List.flatten_append,hx]
  simp [cardB]
theorem pT_len {p:PsA}:∀ {k:Nat},k≤p.cards.l.length→(pT p k).length=2 + 10 * k
  | 0,_=>by simp [pT,headB]
  | k + 1,h=>by
    rw [pT_s (by omega) rfl]
    simp only [List.length_append,pT_len (p:=p) (k:=k) (by omega),spanB,putS,List.length_cons,List.length_nil]
    omega
theorem psB_eq (p:PsA):psB p.pl=pT p p.cards.l.length++spanB p.less++spanB p.loss:=by
  unfold psB pT
  rw [List.take_length]
  rfl
end Go.Bk
namespace Go.Proofs.YtleamcmljcdapaaGreatDoor
open Go Go.Eng Go.Bk Go.RowKit

theorem fspan_calls (f:Nat) (s:Sp) (x:Eng.Own) (l:Str) (rest:Blks) (W0 w:World) (hm0:Mem W0 [] (fiM f x l (rest++[])) w) (hx:OwnOk 1 x l.length (byc l)) (hs:Sp16 s) (hb:l.length≤1000000) :
    Calls Tryz.prog 60 #[.pointer (some ⟨f,0,none⟩),.agg s.cells.toArray] w (Grow W0 [] (fun _:Eng.Own=>.tuple #[]) (fun y=>fiM f y (l++spanB s) (rest++[])) (fun y=>OwnOk 1 y (l++spanB s).length (byc (l++spanB s)))):=by
  obtain ⟨s1,s2,s3⟩:=hs
  refine calls_from hm0 Tryz.func60 rfl rfl ?_
  refine st ?_
  refine RunL.new (New.box rfl) rfl rfl rfl (fun b3=>?_)
  refine st ?_
  refine lv (Val.fieldAddr rfl fld_38_0) ?_
  refine lv (Val.load_one rfl (.head _) ty_3 rfl) ?_
  refine lv (Val.fieldAddr rfl fld_38_1) ?_
  refine lv (Val.load_one rfl (.head _) ty_3 rfl) ?_
  refine lv (Val.fieldAddr rfl fld_38_0) ?_
  refine lv (Val.load_one rfl (.head _) ty_3 rfl) ?_
  refine lv (Val.sub' rfl rfl (IntWalk.i64_in _ ⟨by omega,by omega⟩)) ?_
  refine RunL.new (New.buildSlice (parts:=[(0,.tmp 6),(1,.tmp 11)]) rfl sl_27 zero_3 rfl rfl rfl rfl) rfl rfl rfl (fun b12=>?_)
  refine RunL.callG (isCall_func rfl ent_61) rfl rfl rfl (fun w hm=>(by have hm2:Mem W0 [] ((b12,.cells [.int .i64 s.lo,.int .i64 (s.hi - s.lo)].toArray 3 (0,0))::(b3,.cells s.cells.toArray 38 (0,0))::(fiM f x l (rest++[]))) w:=hm;have h:=fnum_calls f [s.lo,s.hi - s.lo] (some ⟨b12,0,none⟩) b12 0 2 x l ((b12,.cells [.int .i64 s.lo,.int .i64 (s.hi - s.lo)].toArray 3 (0,0))::rest) W0 w (hm2.pick (Pick.cnt fun x=>by simp only [nC];omega)) hx (fun w2 h2=>Sl.rowsR (xs:=[s.lo,s.hi - s.lo].map intC) (t:=[]) (h2.newd _ _ (.head _)).2 (by simp [intC])) (by simp) (by intro n hn;simp only [List.mem_cons,List.not_mem_nil,or_false] at hn;rcases hn with rfl | rfl <;> (unfold In16;omega)) hb;simp only [numT2] at h;exact calls_re (nw':=fun y=>fiM f y (l++spanB s) (rest++[])) h (fun y=>by simp only [spanB];exact (Pick.cnt fun x=>by simp only [nC];omega)))) (fun z13 hz13=>?_)
  
  refine st ?_
  exact RunE.finG z13 hz13 (.r0 rfl) rfl (.cons .here rfl (Pick.refl _))
abbrev psO (p:PsA):Obj:=.cells p.cells.toArray 40 (0,0)
abbrev ptO (c:Pt):Obj:=.cells c.cells.toArray 120 (0,0)
theorem fspanR_calls (A B:Blks) (f:Nat) (s:Sp) (x:Eng.Own) (l:Str) (W0 w:World) (hm0:Mem W0 [] (A++((f,fiO x l.length)::(B++(ownB 5 x (byc l)++[])))) w) (hx:OwnOk 1 x l.length (byc l)) (hs:Sp16 s) (hb:l.length≤1000000) :
    Calls Tryz.prog 60 #[.pointer (some ⟨f,0,none⟩),.agg s.cells.toArray] w (Grow W0 [] (fun _:Eng.Own=>.tuple #[]) (fun y=>A++((f,fiO y (l++spanB s).length)::(B++(ownB 5 y (byc (l++spanB s))++[])))) (fun y=>OwnOk 1 y (l++spanB s).length (byc (l++spanB s)))) :=
  calls_re (fspan_calls f s x l (A++B) W0 w (hm0.pick (Pick.cnt fun x=>by simp only [nC];omega)) hx hs hb) (fun y=>(Pick.cnt fun x=>by simp only [nC];omega))
theorem fnumR_calls (A B:Blks) (f b:Nat) (n:Int) (x:Eng.Own) (l:Str) (W0 w:World) (hm0:Mem W0 [] ((b,.cells [.int .i64 n].toArray 3 (0,0))::(A++((f,fiO x l.length)::(B++(ownB 5 x (byc l)++[]))))) w) (hx:OwnOk 1 x l.length (byc l)) (hs:In16 n) (hb:l.length≤1000000) :
    Calls Tryz.prog 61 #[.pointer (some ⟨f,0,none⟩),.slice (some ⟨b,0,none⟩) 1 1] w (Grow W0 [] (fun _:Eng.Own=>.tuple #[]) (fun y=>A++((f,fiO y (l++putS n).length)::(B++(ownB 5 y (byc (l++putS n))++[])))) (fun y=>OwnOk 1 y (l++putS n).length (byc (l++putS n)))):=by
  have h:=fnum_calls f [n] (some ⟨b,0,none⟩) b 0 1 x l ((b,.cells [.int .i64 n].toArray 3 (0,0))::(A++B)) W0 w (hm0.pick (Pick.cnt fun x=>by simp only [nC];omega)) hx
    (fun w2 h2=>Sl.rowsR (xs:=[n].map intC) (t:=[]) (h2.newd _ _ (.head _)).2 (by simp [intC])) (by simp) (by intro m hm;simp only [List.mem_cons,List.not_mem_nil,or_false] at hm;subst hm;exact hs) hb
  simp only [numT1] at h
  exact calls_re h (fun y=>(Pick.cnt fun x=>by simp only [nC];omega))
theorem writePrints_ok (p:PsA) (W:World) (hP:p.cards.ok Pt.cells 5 W) (hv0:printsX p.pl=true):Calls Tryz.prog 25 #[p.v] W (Grow W [] (fun y:Eng.Own=>.tuple #[ownV y (psS p.pl).length,.int .i64 0]) (fun y=>ownB 5 y (byc (psS p.pl))++[]) (fun y=>OwnOk 1 y (psS p.pl).length (byc (psS p.pl)))):=by
  have hv:=prints_v hv0
  have hc5:=hv.cards
  have hpl:∀ k,k≤p.cards.l.length→(pT p k).length=2 + 10 * k:=fun k hk=>pT_len hk
  have hpl5:=hpl _ (Nat.le_refl _)
  have hck:=checkN_lt (psB p.pl)
  have hB:=psB_eq p
  have hsl:∀ s,(spanB s).length=4:=fun s=>rfl
  refine calls_start Tryz.func25 rfl rfl ?_
  refine st ?_
  refine RunL.new (New.box rfl) rfl rfl rfl (fun b1=>?_)
  refine st ?_
  refine lv (Val.load_agg rfl (.head _) ty_40 rfl) ?_
  refine RunL.callP (isCall_func rfl ent_59) rfl rfl rfl (fun w hm=>isPrints_calls p (by omega) w (hP.mono0 (by decide) hm)) ?_
  refine st ?_
  refine RunC.cond rfl (fun h=>absurd h (by simp [hv0])) ?_
  intro c0
  clear c0
  refine st ?_
  refine lv (Val.fieldAddr rfl fld_40_0) ?_
  refine lv (Val.load_one rfl (.head _) ty_36 rfl) ?_
  refine lv (Val.len_sl rfl sl_36) ?_
  refine lv (Val.convIntW rfl und_3 und_5 (q:=((UInt8.ofNat p.cards.l.length).toNat:Int)) (by have e:IntKind.u8.wrap (p.cards.l.length:Int)=(p.cards.l.length:Int) % 256:=rfl;rw [e];simp)) ?_
  refine RunL.new (New.buildSlice (parts:=[(0,.const (.int .u8 80)),(1,.tmp 13)]) rfl sl_58 zero_5 rfl rfl rfl rfl) rfl rfl rfl (fun b14=>?_)
  refine lv (Val.build (parts:=[(0,.tmp 14)]) rfl zero_118 places_118 rfl) ?_
  refine RunL.new (New.box rfl) rfl rfl rfl (fun b16=>?_)
  refine st ?_
  refine lv (Val.fieldAddr rfl fld_40_0) ?_
  refine lv (Val.load_one rfl (.tail _ (.tail _ (.head _))) ty_36 rfl) ?_
  refine lv (Val.len_sl rfl sl_36) ?_
  refine RunC.loopX (X:=Eng.Own) (n0:=[(b1,_)]) (p.cards.l.length) (fun k y q=>(20,.int .i64 (k:Int))::q) (fun _ _=>_) (fun k y=>[(b16,fiO y (pT p k).length)]) (fun k y=>ownB 5 y (byc (pT p k))++[]) (fun k y=>OwnOk 1 y (pT p k).length (byc (pT p k))) (some (b14,2,[])) ⟨rfl,fun h=>(by cases h),fun b c r h=>by cases h;exact ⟨Nat.le_refl _,by decide,rfl⟩⟩ rfl (Sub.consE (t:=20) rfl rfl (Sub.cons (t:=1) rfl (Sub.cons (t:=4) rfl (Sub.cons (t:=18) rfl (Sub.cons (t:=19) rfl (Sub.nil _)))))) (.cons .here rfl (.cons (.there .here) rfl (Pick.same (by rfl)))) ?_
  intro k y kN kI
  refine st ?_
  refine cn rfl ?_ ?_
  ·intro c1'
   have hk:k < p.cards.l.length:=by omega
   obtain ⟨x,hx⟩:∃ x,p.cards.l[k]=x:=⟨_,rfl⟩
   have hxv:=hv.each x (hx ▸ List.getElem_mem hk)
   have hlk:=hpl k (by omega)
   refine st ?_
   refine lv (Val.indexAddr_slp rfl rfl sl_36 (by omega) (by omega) (Sl.ptrM hP hk)) ?_
   refine lv (Val.load_gen rfl (fun w hm=>Sl.loadX hP (by decide) hm (by simp) ty_120 hk hx)) ?_
   refine RunL.new (New.alloc zero_120) rfl rfl rfl (fun b6=>?_)
   refine RunL.sto (Sto.store rfl rfl .here ty_120 rfl rfl) rfl rfl ?_
   refine st ?_
   refine lv (Val.fieldAddr rfl fld_120_0) ?_
   refine lv (Val.load_agg rfl (.head _) ty_38 rfl) ?_
   refine RunL.callG (isCall_func rfl ent_60) rfl rfl rfl (fun w hm=>(show Calls _ _ _ w (Grow W [] _ (fun z:Eng.Own=>(b6,ptO x)::(b16,fiO z (pT p k++spanB x.size).length)::(b1,psO p)::(ownB 5 z (byc (pT p k++spanB x.size))++[])) _) from fspanR_calls [(b6,ptO x)] [(b1,psO p)] b16 x.size y (pT p k) W w hm kI hxv.1 (by omega))) (fun z27 hz27=>?_)
   
   refine st ?_
   refine lv (Val.fieldAddr rfl fld_120_1) ?_
   refine lv (Val.load_agg rfl (.head _) ty_38 rfl) ?_
   refine RunL.callG (isCall_func rfl ent_60) rfl rfl rfl (fun w hm=>(show Calls _ _ _ w (Grow W [] _ (fun z:Eng.Own=>(b6,ptO x)::(b16,fiO z (pT p k++spanB x.size++spanB x.wide).length)::(b1,psO p)::(ownB 5 z (byc (pT p k++spanB x.size++spanB x.wide))++[])) _) from fspanR_calls [(b6,ptO x)] [(b1,psO p)] b16 x.wide z27 (pT p k++spanB x.size) W w hm hz27 hxv.2.1 (by rw [List.length_append,hsl];omega))) (fun z31 hz31=>?_)
   
   refine st ?_
   refine lv (Val.fieldAddr rfl fld_120_2) ?_
   refine lv (Val.load_one rfl (.head _) ty_3 rfl) ?_
   refine RunL.new (New.buildSlice (parts:=[(0,.tmp 34)]) rfl sl_27 zero_3 rfl rfl rfl rfl) rfl rfl rfl (fun b35=>?_)
   refine RunL.callG (isCall_func rfl ent_61) rfl rfl rfl (fun w hm=>(show Calls _ _ _ w (Grow W [] _ (fun z:Eng.Own=>(b6,ptO x)::(b16,fiO z (pT p k++spanB x.size++spanB x.wide++putS x.marks).length)::(b1,psO p)::(ownB 5 z (byc (pT p k++spanB x.size++spanB x.wide++putS x.marks))++[])) _) from fnumR_calls [(b6,ptO x)] [(b1,psO p)] b16 b35 x.marks z31 (pT p k++spanB x.size++spanB x.wide) W w hm hz31 (by unfold In16;omega) (by rw [List.length_append,List.length_append,hsl,hsl];omega))) (fun z36 hz36=>?_)
   
   refine st ?_
   refine lv (Val.add rfl rfl (IntWalk.i64_in _ ⟨by omega,by omega⟩)) ?_
   exact RunE.roundX z36 (by omega) (by rw [pT_s hk hx];exact hz36) rfl (Sub.consE (t:=20) rfl rfl (Sub.cons (t:=1) rfl (Sub.cons (t:=4) rfl (Sub.cons (t:=18) rfl (Sub.cons (t:=19) rfl (Sub.nil _)))))) (.cons (.there .here) (by rw [pT_s hk hx]) (.cons (.there .here) rfl (Pick.skip (Pick.same (by rw [pT_s hk hx];rfl)))))
  intro c1'
  obtain rfl:k=p.cards.l.length:=by omega
  refine RunC.exit ?_
  refine RunE.pass_exit ?_
  refine RunE.pass_exit ?_
  refine RunE.block_here ?_
  refine st ?_
  refine lv (Val.fieldAddr rfl fld_40_1) ?_
  refine lv (Val.load_agg rfl (.tail _ (.head _)) ty_38 rfl) ?_
  refine RunL.callG (isCall_func rfl ent_60) rfl rfl rfl (fun w hm=>(show Calls _ _ _ w (Grow W [] _ (fun z:Eng.Own=>(b16,fiO z (pT p p.cards.l.length++spanB p.less).length)::(b1,psO p)::(ownB 5 z (byc (pT p p.cards.l.length++spanB p.less))++[])) _) from fspanR_calls [] [(b1,psO p)] b16 p.less y (pT p p.cards.l.length) W w hm kI hv.less (by omega))) (fun z41 hz41=>?_)
  
  refine st ?_
  refine lv (Val.fieldAddr rfl fld_40_2) ?_
  refine lv (Val.load_agg rfl (.tail _ (.head _)) ty_38 rfl) ?_
  refine RunL.callG (isCall_func rfl ent_60) rfl rfl rfl (fun w hm=>(show Calls _ _ _ w (Grow W [] _ (fun z:Eng.Own=>(b16,fiO z (psB p.pl).length)::(b1,psO p)::(ownB 5 z (byc (psB p.pl))++[])) (fun z=>OwnOk 1 z (psB p.pl).length (byc (psB p.pl)))) from hB ▸ fspanR_calls [] [(b1,psO p)] b16 p.loss z41 (pT p p.cards.l.length++spanB p.less) W w hm hz41 hv.loss (by rw [List.length_append,hsl];omega))) (fun z45 hz45=>?_)
  
  refine st ?_
  refine RunL.callP (isCall_func rfl ent_62) rfl rfl rfl (fun w hm=>(fcheck_calls b16 (psB p.pl) (ownQ z45) (ownK z45) 0 (ownC z45) [] 118 w (by rw [← ownV_slice hz45];exact hm.at (.head _)) (own_bytes hz45 (fun b o h=>hm.at (.tail _ (.tail _ ((by first | exact List.mem_append_left _ h | exact List.mem_append_right _ (List.mem_append_left _ h))))))) (by rw [hB];simp only [List.length_append,hsl];omega))) ?_
  refine RunL.new (New.buildSlice (parts:=[(0,.tmp 48)]) rfl sl_27 zero_3 rfl rfl rfl rfl) rfl rfl rfl (fun b49=>?_)
  refine RunL.callG (isCall_func rfl ent_61) rfl rfl rfl (fun w hm=>(show Calls _ _ _ w (Grow W [] _ (fun z:Eng.Own=>(b16,fiO z (psS p.pl).length)::(b1,psO p)::(ownB 5 z (byc (psS p.pl))++[])) (fun z=>OwnOk 1 z (psS p.pl).length (byc (psS p.pl)))) from fnumR_calls [] [(b1,psO p)] b16 b49 (checkN (psB p.pl):Int) z45 (psB p.pl) W w hm hz45 (by unfold In16;omega) (by rw [hB];simp only [List.length_append,hsl];omega))) (fun z50 hz50=>?_)
  
  refine st ?_
  refine lv (Val.fieldAddr rfl fld_118_0) ?_
  refine lv (Val.load_one rfl (.head _) ty_58 rfl) ?_
  refine RunC.ret ?_
  exact RunE.retG z50 hz50 (.r2 rfl (.tmp rfl) (.tmp rfl)) rfl (Pick.skip (Pick.skip (Pick.refl _)))
end Go.Proofs.YtleamcmljcdapaaGreatDoor
namespace Go.Proofs.YtleamcmljcdapaaGreatDoor
open Go Go.Eng
theorem ent_109:Enters Tryz.prog 109:=enters_of Tryz.func109 (by kernel_rfl) rfl
theorem ent_116:Enters Tryz.prog 116:=enters_of Tryz.func116 (by kernel_rfl) rfl
theorem ent_121:Enters Tryz.prog 121:=enters_of Tryz.func121 (by kernel_rfl) rfl
theorem ent_126:Enters Tryz.prog 126:=enters_of Tryz.func126 (by kernel_rfl) rfl
theorem ent_41:Enters Tryz.prog 41:=enters_of Tryz.func41 (by kernel_rfl) rfl
theorem ent_42:Enters Tryz.prog 42:=enters_of Tryz.func42 (by kernel_rfl) rfl
theorem ent_49:Enters Tryz.prog 49:=enters_of Tryz.func49 (by kernel_rfl) rfl
theorem ent_50:Enters Tryz.prog 50:=enters_of Tryz.func50 (by kernel_rfl) rfl
theorem ent_54:Enters Tryz.prog 54:=enters_of Tryz.func54 (by kernel_rfl) rfl
theorem ent_55:Enters Tryz.prog 55:=enters_of Tryz.func55 (by kernel_rfl) rfl
theorem ent_86:Enters Tryz.prog 86:=enters_of Tryz.func86 (by kernel_rfl) rfl
theorem ent_99:Enters Tryz.prog 99:=enters_of Tryz.func99 (by kernel_rfl) rfl
theorem fld_106_0:fieldB Tryz.prog 106 0=some 0:=by kernel_rfl
theorem fld_106_2:fieldB Tryz.prog 106 2=some 2:=by kernel_rfl
theorem fld_79_0:fieldB Tryz.prog 79 0=some 0:=by kernel_rfl
theorem fld_79_2:fieldB Tryz.prog 79 2=some 2:=by kernel_rfl
theorem fld_94_0:fieldB Tryz.prog 94 0=some 0:=by kernel_rfl
theorem fld_94_1:fieldB Tryz.prog 94 1=some 1:=by kernel_rfl
theorem fld_94_2:fieldB Tryz.prog 94 2=some 2:=by kernel_rfl
theorem mapSB_104:mapSB Tryz.prog 104=some 182:=by kernel_rfl
theorem mapSB_77:mapSB Tryz.prog 77=some 158:=by kernel_rfl
theorem mapSB_92:mapSB Tryz.prog 92=some 173:=by kernel_rfl
theorem places_106:placesB Tryz.prog 106=some [(0,1),(1,1),(2,1)]:=by kernel_rfl
theorem places_79:placesB Tryz.prog 79=some [(0,1),(1,1),(2,1)]:=by kernel_rfl
theorem places_94:placesB Tryz.prog 94=some [(0,1),(1,1),(2,1)]:=by kernel_rfl
theorem ty_103:tyB Tryz.prog 103=some (false,1):=by kernel_rfl
theorem ty_106:tyB Tryz.prog 106=some (true,3):=by kernel_rfl
theorem ty_25:tyB Tryz.prog 25=some (true,5):=by kernel_rfl
theorem ty_35:tyB Tryz.prog 35=some (true,5):=by kernel_rfl
theorem ty_67:tyB Tryz.prog 67=some (false,1):=by kernel_rfl
theorem ty_68:tyB Tryz.prog 68=some (false,1):=by kernel_rfl
theorem ty_69:tyB Tryz.prog 69=some (false,1):=by kernel_rfl
theorem ty_76:tyB Tryz.prog 76=some (false,1):=by kernel_rfl
theorem ty_79:tyB Tryz.prog 79=some (true,3):=by kernel_rfl
theorem ty_91:tyB Tryz.prog 91=some (false,1):=by kernel_rfl
theorem ty_92:tyB Tryz.prog 92=some (false,1):=by kernel_rfl
theorem ty_94:tyB Tryz.prog 94=some (true,3):=by kernel_rfl
theorem zero_106:zeroB Tryz.prog 106=some [.nilFunc,.map none,.nilFunc]:=by kernel_rfl
theorem zero_79:zeroB Tryz.prog 79=some [.nilFunc,.map none,.nilFunc]:=by kernel_rfl
theorem zero_94:zeroB Tryz.prog 94=some [.nilFunc,.map none,.nilFunc]:=by kernel_rfl
end Go.Proofs.YtleamcmljcdapaaGreatDoor
namespace Go.Bk
open Go Go.Eng Go.RowKit
abbrev fnV (f:FuncId):Value:=.func (.func f) #[] #[]
abbrev writeV (b:Bool) (s:Str):Value:=.tuple #[.string (bs (if b then s else [])),.int .i64 (if b then 0 else 1)]
abbrev kindV (ft fi:FuncId) (b:Nat):Value:=.agg #[fnV ft,.map (some b),fnV fi]
end Go.Bk
namespace Go.Proofs.YtleamcmljcdapaaGreatDoor
open Go Go.Eng Go.Bk Go.RowKit

def toursL:List (Str×Value):=[(wTour,fnV 91),(wFrom,fnV 93),(wWays,fnV 96),(wStay,fnV 97),(wLight,fnV 98)]
theorem tours_calls (W:World):Calls Tryz.prog 42 #[] W (News (fun b:Nat=>kindV 86 99 b) (fun b=>[(b,mapS toursL)]) W):=by
  refine calls_start Tryz.func42 rfl rfl ?_
  refine st ?_
  refine RunL.new (New.alloc zero_79) rfl rfl rfl (fun b0=>?_)
  refine st ?_
  refine RunL.new New.makeMapS rfl rfl rfl (fun b1=>?_)
  iterate 5 refine RunL.sto (Sto.insS rfl rfl rfl .here mapSB_77 (by decide)) rfl rfl ?_
  refine st ?_
  refine lv (Val.build (parts:=[(0,.func 86),(1,.tmp 2),(2,.func 99)]) rfl zero_79 places_79 rfl) ?_
  refine RunL.sto (Sto.store rfl rfl (.there .here) ty_79 rfl rfl) rfl rfl ?_
  refine st ?_
  refine RunC.ret ?_
  exact RunE.ret (chg:=[]) (.r1 rfl (.agg rfl (.tail _ (.head _)) ty_79 rfl)) (fun _ hm=>⟨b1,rfl,hm.pick (.cons .here rfl .nil)⟩)
def royaltiesL:List (Str×Value):=[(wRoyal,fnV 122),(wAgent,fnV 123),(wKind,fnV 124),(wReport,fnV 125)]
theorem royalties_calls (W:World):Calls Tryz.prog 55 #[] W (News (fun b:Nat=>kindV 121 126 b) (fun b=>[(b,mapS royaltiesL)]) W):=by
  refine calls_start Tryz.func55 rfl rfl ?_
  refine st ?_
  refine RunL.new (New.alloc zero_106) rfl rfl rfl (fun b0=>?_)
  refine st ?_
  refine RunL.new New.makeMapS rfl rfl rfl (fun b1=>?_)
  iterate 4 refine RunL.sto (Sto.insS rfl rfl rfl .here mapSB_104 (by decide)) rfl rfl ?_
  refine st ?_
  refine lv (Val.build (parts:=[(0,.func 121),(1,.tmp 2),(2,.func 126)]) rfl zero_106 places_106 rfl) ?_
  refine RunL.sto (Sto.store rfl rfl (.there .here) ty_106 rfl rfl) rfl rfl ?_
  refine st ?_
  refine RunC.ret ?_
  exact RunE.ret (chg:=[]) (.r1 rfl (.agg rfl (.tail _ (.head _)) ty_106 rfl)) (fun _ hm=>⟨b1,rfl,hm.pick (.cons .here rfl .nil)⟩)
def pV (b:Nat):Value:=.pointer (some ⟨b,0,none⟩)
def cabinetsL (n0 n1:Nat):List (Str×Value):=[(wCab,fnV 111),(wHomes,fnV 112),(wLook,fnV 114),(wTake,.func (.func 118) #[] #[pV n0]),(wBack,.func (.func 118) #[] #[pV n1])]
theorem cabinets_calls (W:World):Calls Tryz.prog 50 #[] W (News (fun z:Nat×Nat×Nat=>kindV 109 116 z.1) (fun z=>[(z.1,mapS (cabinetsL z.2.1 z.2.2)),(z.2.1,.cells [.int .i64 0].toArray 3 (0,0)),(z.2.2,.cells [.int .i64 1].toArray 3 (0,0))]) W):=by
  refine calls_start Tryz.func50 rfl rfl ?_
  refine st ?_
  refine RunL.new (New.alloc zero_94) rfl rfl rfl (fun b0=>?_)
  refine st ?_
  refine RunL.new New.makeMapS rfl rfl rfl (fun b4=>?_)
  iterate 3 refine RunL.sto (Sto.insS rfl rfl rfl .here mapSB_92 (by decide)) rfl rfl ?_
  refine st ?_
  refine lv (Val.build (parts:=[(0,.func 109),(1,.tmp 5),(2,.func 116)]) rfl zero_94 places_94 rfl) ?_
  refine RunL.new (New.alloc zero_94) rfl rfl rfl (fun b1=>?_)
  refine RunL.sto (Sto.store rfl rfl .here ty_94 rfl rfl) rfl rfl ?_
  refine st ?_
  refine RunL.callP (isCall_func rfl ent_117) rfl rfl rfl (fun w hm=>loans_calls w) ?_
  refine st ?_
  refine RunC.unroll 3 ?_
  refine st ?_
  refine RunC.cond rfl ?_ (fun h=>absurd h (by decide))
  intro c0
  clear c0
  refine st ?_
  refine lv (Val.index1 rfl rfl arr1_176 (by decide) (by decide) rfl) ?_
  refine RunL.new (New.alloc zero_3) rfl rfl rfl (fun b2u0=>?_)
  refine RunL.sto (Sto.store rfl rfl .here ty_3 rfl rfl) rfl rfl ?_
  refine st ?_
  refine lv (Val.load_one rfl (.head _) ty_3 rfl) ?_
  refine RunC.cond rfl ?_ (fun h=>absurd h (by decide))
  intro c1
  clear c1
  refine st ?_
  refine lv (Val.fieldAddr rfl fld_94_1) ?_
  refine lv (Val.load_one rfl (.tail _ (.head _)) ty_92 rfl) ?_
  refine RunL.sto (Sto.mapNewS rfl rfl rfl (.there (.there .here)) mapSB_92 (by rfl)) rfl rfl ?_
  refine st ?_
  refine RunL.val (Val.add rfl rfl (IntWalk.i64_in _ ⟨by decide,by decide⟩)) rfl rfl rfl ?_
  refine vp rfl rfl rfl rfl ?_
  refine RunL.nil ?_
  refine RunE.rounds ?_
  refine st ?_
  refine RunC.cond rfl ?_ (fun h=>absurd h (by decide))
  intro c0
  clear c0
  refine st ?_
  refine lv (Val.index1 rfl rfl arr1_176 (by decide) (by decide) rfl) ?_
  refine RunL.new (New.alloc zero_3) rfl rfl rfl (fun b2u1=>?_)
  refine RunL.sto (Sto.store rfl rfl .here ty_3 rfl rfl) rfl rfl ?_
  refine st ?_
  refine lv (Val.load_one rfl (.head _) ty_3 rfl) ?_
  refine RunC.cond rfl ?_ (fun h=>absurd h (by decide))
  intro c1
  clear c1
  refine st ?_
  refine lv (Val.fieldAddr rfl fld_94_1) ?_
  refine lv (Val.load_one rfl (.tail _ (.tail _ (.head _))) ty_92 rfl) ?_
  refine RunL.sto (Sto.mapNewS rfl rfl rfl (.there (.there (.there .here))) mapSB_92 (by rfl)) rfl rfl ?_
  refine st ?_
  refine RunL.val (Val.add rfl rfl (IntWalk.i64_in _ ⟨by decide,by decide⟩)) rfl rfl rfl ?_
  refine vp rfl rfl rfl rfl ?_
  refine RunL.nil ?_
  refine RunE.rounds ?_
  refine st ?_
  refine RunC.cond rfl ?_ (fun h=>absurd h (by decide))
  intro c0
  clear c0
  refine st ?_
  refine lv (Val.index1 rfl rfl arr1_176 (by decide) (by decide) rfl) ?_
  refine RunL.new (New.alloc zero_3) rfl rfl rfl (fun b2u2=>?_)
  refine RunL.sto (Sto.store rfl rfl .here ty_3 rfl rfl) rfl rfl ?_
  refine st ?_
  refine lv (Val.load_one rfl (.head _) ty_3 rfl) ?_
  refine RunC.cond rfl (fun h=>absurd h (by decide)) ?_
  intro c1
  clear c1
  refine st ?_
  refine RunL.val (Val.add rfl rfl (IntWalk.i64_in _ ⟨by decide,by decide⟩)) rfl rfl rfl ?_
  refine vp rfl rfl rfl rfl ?_
  refine RunL.nil ?_
  refine RunE.rounds ?_
  refine st ?_
  refine RunC.cond rfl (fun h=>absurd h (by decide)) ?_
  intro c0
  clear c0
  refine RunC.exit ?_
  refine RunE.pass_exit ?_
  refine RunE.pass_exit ?_
  refine RunE.block_here ?_
  refine st ?_
  refine lv (Val.load_agg rfl (.tail _ (.tail _ (.tail _ (.head _)))) ty_94 rfl) ?_
  refine RunL.sto (Sto.store rfl rfl (.there (.there (.there (.there (.there .here))))) ty_94 rfl rfl) rfl rfl ?_
  refine st ?_
  refine RunC.ret ?_
  exact RunE.ret (chg:=[]) (.r1 rfl (.agg rfl (.tail _ (.tail _ (.tail _ (.tail _ (.tail _ (.head _)))))) ty_94 rfl)) (fun _ hm=>⟨(b4,b2u0,b2u1),rfl,hm.pick (.cons (.there (.there (.there (.there .here)))) rfl (.cons (.there (.there .here)) rfl (.cons (.there .here) rfl .nil)))⟩)
theorem grow_pure {P:Program} {f:FuncId} {args:Array Value} {W:World} {v:Value} (h:Calls P f args W (Grow W [] (fun _:Unit=>v) (fun _=>[]) (fun _=>True))):Calls P f args W (Pure v W) :=
  calls_mono h (by rintro e w' ⟨_,_,h1,h2⟩;exact ⟨h1,h2⟩)
theorem writeT_calls (t:TrA) (hs:TrSm t) (m:Nat) (W:World) (hL:Lw Tryz.prog W) (hT:TrOk W t):Calls Tryz.prog 41 #[t.v,kindV 86 99 m] W (Pure (writeV (tourX t.pl) (tourS t.pl)) W):=by
  refine calls_start Tryz.func41 rfl rfl ?_
  refine st ?_
  refine RunL.new (New.box rfl) rfl rfl rfl (fun b2=>?_)
  refine RunL.new (New.box rfl) rfl rfl rfl (fun b3=>?_)
  refine st ?_
  refine lv (Val.fieldAddr rfl fld_79_2) ?_
  refine lv (Val.load_one rfl (.head _) ty_67 rfl) ?_
  refine lv (Val.load_agg rfl (.tail _ (.head _)) ty_25 rfl) ?_
  refine RunL.callP (isCall_value rfl rfl ent_99) rfl rfl rfl (fun w hm=>isTour_calls t hs w (hT.mono0 hm)) ?_
  refine st ?_
  refine cn rfl ?_ ?_
  ·intro c0'
   have hx:tourX t.pl=false:=by simpa using c0'
   refine st ?_
   refine RunC.ret ?_
   refine RunE.pass_ret ?_
   exact RunE.retP (.r2 rfl (.tmp rfl) (.tmp rfl)) (by rw [hx];rfl)
  intro c0'
  have hx:tourX t.pl=true:=by simpa using c0'
  refine st ?_
  refine lv (Val.fieldAddr rfl fld_79_0) ?_
  refine lv (Val.load_one rfl (.head _) ty_76 rfl) ?_
  refine lv (Val.load_agg rfl (.tail _ (.head _)) ty_25 rfl) ?_
  refine RunL.callP (isCall_value rfl rfl ent_86) rfl rfl rfl (fun w hm=>(grow_pure (tourT_calls t w (hL.mono hm) (hT.mono0 hm) (tour_v hx)))) ?_
  refine st ?_
  refine RunC.ret ?_
  exact RunE.retP (.r2 rfl (.tmp rfl) (.tmp rfl)) (by rw [hx];rfl)
theorem writeC_calls (c:CbA) (hs:CbS c) (m:Nat) (W:World) (hL:Lw Tryz.prog W) (hT:CbOk W c):Calls Tryz.prog 49 #[c.v,kindV 109 116 m] W (Pure (writeV (cabX c.pl) (cabS c.pl)) W):=by
  refine calls_start Tryz.func49 rfl rfl ?_
  refine st ?_
  refine RunL.new (New.box rfl) rfl rfl rfl (fun b2=>?_)
  refine RunL.new (New.box rfl) rfl rfl rfl (fun b3=>?_)
  refine st ?_
  refine lv (Val.fieldAddr rfl fld_94_2) ?_
  refine lv (Val.load_one rfl (.head _) ty_68 rfl) ?_
  refine lv (Val.load_agg rfl (.tail _ (.head _)) ty_30 rfl) ?_
  refine RunL.callP (isCall_value rfl rfl ent_116) rfl rfl rfl (fun w hm=>isCabinet_calls c hs w (hT.mono0 hm)) ?_
  refine st ?_
  refine cn rfl ?_ ?_
  ·intro c0'
   have hx:cabX c.pl=false:=by simpa using c0'
   refine st ?_
   refine RunC.ret ?_
   refine RunE.pass_ret ?_
   exact RunE.retP (.r2 rfl (.tmp rfl) (.tmp rfl)) (by rw [hx];rfl)
  intro c0'
  have hx:cabX c.pl=true:=by simpa using c0'
  refine st ?_
  refine lv (Val.fieldAddr rfl fld_94_0) ?_
  refine lv (Val.load_one rfl (.head _) ty_91 rfl) ?_
  refine lv (Val.load_agg rfl (.tail _ (.head _)) ty_30 rfl) ?_
  refine RunL.callP (isCall_value rfl rfl ent_109) rfl rfl rfl (fun w hm=>(cabT_calls c w (hL.mono hm) (hT.mono0 hm) (cab_v hx))) ?_
  refine st ?_
  refine RunC.ret ?_
  exact RunE.retP (.r2 rfl (.tmp rfl) (.tmp rfl)) (by rw [hx];rfl)
theorem writeR_calls (r:RyA) (hs:RySm r) (m:Nat) (W:World) (hL:Lw Tryz.prog W) (hT:RyOk W r):Calls Tryz.prog 54 #[r.v,kindV 121 126 m] W (Pure (writeV (royalX r.pl) (royalS r.pl)) W):=by
  refine calls_start Tryz.func54 rfl rfl ?_
  refine st ?_
  refine RunL.new (New.box rfl) rfl rfl rfl (fun b2=>?_)
  refine RunL.new (New.box rfl) rfl rfl rfl (fun b3=>?_)
  refine st ?_
  refine lv (Val.fieldAddr rfl fld_106_2) ?_
  refine lv (Val.load_one rfl (.head _) ty_69 rfl) ?_
  refine lv (Val.load_agg rfl (.tail _ (.head _)) ty_35 rfl) ?_
  refine RunL.callP (isCall_value rfl rfl ent_126) rfl rfl rfl (fun w hm=>isRoyal_calls r hs w (hT.mono0 hm)) ?_
  refine st ?_
  refine cn rfl ?_ ?_
  ·intro c0'
   have hx:royalX r.pl=false:=by simpa using c0'
   refine st ?_
   refine RunC.ret ?_
   refine RunE.pass_ret ?_
   exact RunE.retP (.r2 rfl (.tmp rfl) (.tmp rfl)) (by rw [hx];rfl)
  intro c0'
  have hx:royalX r.pl=true:=by simpa using c0'
  refine st ?_
  refine lv (Val.fieldAddr rfl fld_106_0) ?_
  refine lv (Val.load_one rfl (.head _) ty_103 rfl) ?_
  refine lv (Val.load_agg rfl (.tail _ (.head _)) ty_35 rfl) ?_
  refine RunL.callP (isCall_value rfl rfl ent_121) rfl rfl rfl (fun w hm=>(royT_calls r w (hL.mono hm) (hT.mono0 hm) (roy_v hx))) ?_
  refine st ?_
  refine RunC.ret ?_
  exact RunE.retP (.r2 rfl (.tmp rfl) (.tmp rfl)) (by rw [hx];rfl)
theorem WriteTour_calls (t:TrA) (hs:TrSm t) (W:World) (hL:Lw Tryz.prog W) (hT:TrOk W t):Calls Tryz.prog 10 #[t.v] W (Pure (writeV (tourX t.pl) (tourS t.pl)) W):=by
  refine calls_start Tryz.func10 rfl rfl ?_
  refine st ?_
  refine RunL.new (New.box rfl) rfl rfl rfl (fun b1=>?_)
  refine st ?_
  refine RunC.draw 5 fol_ (.cons .here rfl .nil) ?_
  refine va 0 rfl (Val.load_agg rfl (.head _) ty_25 rfl) rfl rfl rfl (.cons .here rfl .nil) rfl ?_
  refine RunA.one (i:=1) (by kernel_rfl) (by kernel_rfl) ?_
  refine RunI.callN rfl (isCall_func rfl ent_42) rfl rfl rfl (fun w hm=>tours_calls w) (fun b5=>(RunK.toA (.cons .here rfl (.cons .here rfl .nil)) (.cons (.there .here) rfl .nil) rfl ?_))
  refine RunA.one (i:=2) (by kernel_rfl) (by kernel_rfl) ?_
  refine RunI.callP rfl (isCall_func rfl ent_41) rfl rfl rfl (fun w hm=>writeT_calls t hs b5 w (hL.mono hm) (hT.mono0 hm)) (RunK.toA (.cons .here rfl (.cons .here rfl .nil)) (.cons .here rfl (.cons .here rfl .nil)) rfl ?_)
  refine va 3 rfl (Val.pure rfl) rfl rfl rfl (.cons .here rfl (.cons .here rfl .nil)) rfl ?_
  refine va 4 rfl (Val.pure rfl) rfl rfl rfl (.cons .here rfl (.cons .here rfl .nil)) rfl ?_
  refine RunA.toB (by kernel_rfl) ?_
  refine RunB.one (i:=5) (by kernel_rfl) ?_
  refine RunI.val rfl (Val.pure rfl) rfl rfl rfl (RunK.toB ?_)
  refine RunB.one (i:=6) (by kernel_rfl) ?_
  refine RunI.val rfl (Val.pure rfl) rfl rfl rfl (RunK.toB ?_)
  refine RunB.done (by kernel_rfl) ?_
  refine st ?_
  refine RunC.ret ?_
  exact RunE.retP (.r2 rfl (.tmp rfl) (.tmp rfl)) (by first | rfl | simp)
theorem WriteCabinet_calls (c:CbA) (hs:CbS c) (W:World) (hL:Lw Tryz.prog W) (hT:CbOk W c):Calls Tryz.prog 15 #[c.v] W (Pure (writeV (cabX c.pl) (cabS c.pl)) W):=by
  refine calls_start Tryz.func15 rfl rfl ?_
  refine st ?_
  refine RunL.new (New.box rfl) rfl rfl rfl (fun b1=>?_)
  refine st ?_
  refine RunC.draw 5 fol_ (.cons .here rfl .nil) ?_
  refine va 0 rfl (Val.load_agg rfl (.head _) ty_30 rfl) rfl rfl rfl (.cons .here rfl .nil) rfl ?_
  refine RunA.one (i:=1) (by kernel_rfl) (by kernel_rfl) ?_
  refine RunI.callN rfl (isCall_func rfl ent_50) rfl rfl rfl (fun w hm=>cabinets_calls w) (fun b5=>(RunK.toA (.cons .here rfl (.cons .here rfl (.cons .here rfl (.cons .here rfl .nil)))) (.cons (.there (.there (.there .here))) rfl .nil) rfl ?_))
  refine RunA.one (i:=2) (by kernel_rfl) (by kernel_rfl) ?_
  refine RunI.callP rfl (isCall_func rfl ent_49) rfl rfl rfl (fun w hm=>writeC_calls c hs b5.1 w (hL.mono hm) (hT.mono0 hm)) (RunK.toA (.cons .here rfl (.cons .here rfl (.cons .here rfl (.cons .here rfl .nil)))) (.cons .here rfl (.cons .here rfl (.cons .here rfl (.cons .here rfl .nil)))) rfl ?_)
  refine va 3 rfl (Val.pure rfl) rfl rfl rfl (.cons .here rfl (.cons .here rfl (.cons .here rfl (.cons .here rfl .nil)))) rfl ?_
  refine va 4 rfl (Val.pure rfl) rfl rfl rfl (.cons .here rfl (.cons .here rfl (.cons .here rfl (.cons .here rfl .nil)))) rfl ?_
  refine RunA.toB (by kernel_rfl) ?_
  refine RunB.one (i:=5) (by kernel_rfl) ?_
  refine RunI.val rfl (Val.pure rfl) rfl rfl rfl (RunK.toB ?_)
  refine RunB.one (i:=6) (by kernel_rfl) ?_
  refine RunI.val rfl (Val.pure rfl) rfl rfl rfl (RunK.toB ?_)
  refine RunB.done (by kernel_rfl) ?_
  refine st ?_
  refine RunC.ret ?_
  exact RunE.retP (.r2 rfl (.tmp rfl) (.tmp rfl)) (by first | rfl | simp)
theorem WriteRoyal_calls (r:RyA) (hs:RySm r) (W:World) (hL:Lw Tryz.prog W) (hT:RyOk W r):Calls Tryz.prog 19 #[r.v] W (Pure (writeV (royalX r.pl) (royalS r.pl)) W):=by
  refine calls_start Tryz.func19 rfl rfl ?_
  refine st ?_
  refine RunL.new (New.box rfl) rfl rfl rfl (fun b1=>?_)
  refine st ?_
  refine RunC.draw 5 fol_ (.cons .here rfl .nil) ?_
  refine va 0 rfl (Val.load_agg rfl (.head _) ty_35 rfl) rfl rfl rfl (.cons .here rfl .nil) rfl ?_
  refine RunA.one (i:=1) (by kernel_rfl) (by kernel_rfl) ?_
  refine RunI.callN rfl (isCall_func rfl ent_55) rfl rfl rfl (fun w hm=>royalties_calls w) (fun b5=>(RunK.toA (.cons .here rfl (.cons .here rfl .nil)) (.cons (.there .here) rfl .nil) rfl ?_))
  refine RunA.one (i:=2) (by kernel_rfl) (by kernel_rfl) ?_
  refine RunI.callP rfl (isCall_func rfl ent_54) rfl rfl rfl (fun w hm=>writeR_calls r hs b5 w (hL.mono hm) (hT.mono0 hm)) (RunK.toA (.cons .here rfl (.cons .here rfl .nil)) (.cons .here rfl (.cons .here rfl .nil)) rfl ?_)
  refine va 3 rfl (Val.pure rfl) rfl rfl rfl (.cons .here rfl (.cons .here rfl .nil)) rfl ?_
  refine va 4 rfl (Val.pure rfl) rfl rfl rfl (.cons .here rfl (.cons .here rfl .nil)) rfl ?_
  refine RunA.toB (by kernel_rfl) ?_
  refine RunB.one (i:=5) (by kernel_rfl) ?_
  refine RunI.val rfl (Val.pure rfl) rfl rfl rfl (RunK.toB ?_)
  refine RunB.one (i:=6) (by kernel_rfl) ?_
  refine RunI.val rfl (Val.pure rfl) rfl rfl rfl (RunK.toB ?_)
  refine RunB.done (by kernel_rfl) ?_
  refine st ?_
  refine RunC.ret ?_
  exact RunE.retP (.r2 rfl (.tmp rfl) (.tmp rfl)) (by first | rfl | simp)
end Go.Proofs.YtleamcmljcdapaaGreatDoor
namespace Go.Proofs.YtleamcmljcdapaaGreatDoor
open Go Go.Eng
theorem ent_104:Enters Tryz.prog 104:=enters_of Tryz.func104 (by kernel_rfl) rfl
theorem ent_138:Enters Tryz.prog 138:=enters_of Tryz.func138 (by kernel_rfl) rfl
theorem ent_139:Enters Tryz.prog 139:=enters_of Tryz.func139 (by kernel_rfl) rfl
theorem fld_197_0:fieldB Tryz.prog 197 0=some 0:=by kernel_rfl
theorem places_38:placesB Tryz.prog 38=some [(0,1),(1,1)]:=by kernel_rfl
theorem ty_166:tyB Tryz.prog 166=some (false,1):=by kernel_rfl
theorem ty_9:tyB Tryz.prog 9=some (false,1):=by kernel_rfl
end Go.Proofs.YtleamcmljcdapaaGreatDoor
namespace Go.Bk
open Go Go.Eng Go.RowKit
def numP (s:Str):Option Int:=match Lib.atoiAll s with
  | .ok v=>some v
  | _=>none
def spanP (s:Str):Option Sp:=if (Lib.cut s [46,46]).2.2 then
    match numP (Lib.cut s [46,46]).1,numP (Lib.cut s [46,46]).2.1 with
    | some a,some b=>some ⟨a,b⟩
    | _,_=>none
  else none
def wdV (sb n j:Nat):Value:=.slice (some ⟨sb,min j (n - 1),none⟩) (n - j) (n - j)
theorem wdV_s {sb n j:Nat} (h:j < n):Value.slice (some ⟨sb,if n - j=1 then min j (n - 1) else min j (n - 1) + 1,none⟩) (n - j - 1) (n - j - 1)=wdV sb n (j + 1):=by
  unfold wdV
  have e1:n - j - 1=n - (j + 1):=by omega
  have e2:(if n - j=1 then min j (n - 1) else min j (n - 1) + 1)=min (j + 1) (n - 1):=by
    split <;> omega
  rw [e1,e2]
structure WdOk (all:List Str) (j:Nat):Prop where
  le:j≤all.length
  few:all.length≤10000
  short:∀ s∈all,s.length≤100000
theorem WdOk.next {all:List Str} {j:Nat} (h:WdOk all j) (hj:j < all.length):WdOk all (j + 1):=⟨hj,h.few,h.short⟩
theorem WdOk.get {all:List Str} {j:Nat} (h:WdOk all j):(all.getD j []).length≤100000:=by
  rw [List.getD_eq_getElem?_getD]
  rcases Nat.lt_or_ge j all.length with hj | hj
  · rw [List.getElem?_eq_getElem hj];exact h.short _ (List.getElem_mem hj)
  · rw [List.getElem?_eq_none hj];exact Nat.zero_le _
end Go.Bk
namespace Go.Proofs.YtleamcmljcdapaaGreatDoor
open Go Go.Eng Go.Bk Go.RowKit

theorem figX_ok {s:Str} {v:Value} (h:figX s = .ok v):∃ n,numP s=some n∧v = .int .i64 n:=by
  unfold figX at h
  unfold numP
  cases hr:Lib.atoiAll s with
  | ok n=>rw [hr] at h;cases h;exact ⟨n,rfl,rfl⟩
  | _=>rw [hr] at h;cases h
theorem figX_err {s:Str} {k:Int} (h:figX s = .error k):numP s=none∧k=8:=by
  unfold figX at h
  unfold numP
  cases hr:Lib.atoiAll s with
  | ok n=>rw [hr] at h;cases h
  | _=>rw [hr] at h;cases h;exact ⟨rfl,rfl⟩
abbrev wdO (sb n j:Nat):Obj:=.cells [wdV sb n j].toArray 197 (0,0)
abbrev stO (all:List Str):Obj:=.cells (all.map fun s=>.string (bs s)).toArray 9 (0,0)
abbrev wdM (wb sb:Nat) (all:List Str) (j:Nat) (rest:Blks):Blks:=(wb,wdO sb all.length j)::(sb,stO all)::(rest++[])
theorem calls_reG {β γ:Type} {P:Program} {f:FuncId} {args:Array Value} {W0 w:World} {chg:Blks} {v:β→Value} {nw nw':β→Blks} {I:β→Prop} {mis:Int→Value} {kk:γ→Int} {np np':γ→Blks} {J:γ→Prop} (h:Calls P f args w (GrowT W0 chg v nw I mis kk np J)) (hp:∀ b,Pick (nw' b) (nw b)) (hq:∀ b,Pick (np' b) (np b)):Calls P f args w (GrowT W0 chg v nw' I mis kk np' J) :=
  calls_mono h (by
    rintro e w' (⟨b,h1,h2,h3⟩ | ⟨b,h1,h2,h3⟩)
    · exact .inl ⟨b,h1,h2,h3.pick (hp b)⟩
    · exact .inr ⟨b,h1,h2,h3.pick (hq b)⟩)
theorem calls_reT {β γ:Type} {P:Program} {f:FuncId} {args:Array Value} {W0 w:World} {v:β→Value} {I:β→Prop} {mis:Int→Value} {kk:γ→Int} {J:γ→Prop} {wb sb:Nat} {all:List Str} {jj:β→Nat} {pj:γ→Nat} {A rest:Blks}
    (h:Calls P f args w (GrowT W0 [] v (fun b=>wdM wb sb all (jj b) (A++rest)) I mis kk (fun b=>wdM wb sb all (pj b) (A++rest)) J)) :
    Calls P f args w (GrowT W0 [] v (fun b=>A++wdM wb sb all (jj b) rest) I mis kk (fun b=>A++wdM wb sb all (pj b) rest) J) :=
  calls_reG h (fun b=>Pick.cnt fun x=>by simp only [nC];omega) (fun b=>Pick.cnt fun x=>by simp only [nC];omega)
theorem word_calls (wb sb:Nat) (all:List Str) (j:Nat) (rest:Blks) (W0 w:World) (hm0:Mem W0 [] (wdM wb sb all j rest) w) (hj:WdOk all j) :
    Calls Tryz.prog 104 #[.pointer (some ⟨wb,0,none⟩)] w (GrowT W0 [] (fun _:Unit=>.string (bs (all.getD j []))) (fun _=>wdM wb sb all (j + 1) rest) (fun _=>j < all.length) misf (fun _:Unit=>8) (fun _=>wdM wb sb all j rest) (fun _=>all.length≤j)):=by
  obtain ⟨h1,h2,h3⟩:=hj
  refine calls_from hm0 Tryz.func104 rfl rfl ?_
  refine st ?_
  refine lv (Val.fieldAddr rfl fld_197_0) ?_
  refine lv (Val.load_one rfl (.head _) ty_166 rfl) ?_
  refine lv (Val.len_sl rfl sl_166) ?_
  refine RunL.callT (isCall_func rfl ent_67) rfl rfl rfl (fun w hm=>need_calls _ _ w) (fun e10 he10=>?_) (fun v10 hv10=>?_)
  ·obtain ⟨er10,rfl⟩:=need_err he10
   have hge:all.length≤j:=by have:=of_decide_eq_false er10;omega
   refine RunE.pass_panic ?_
   exact RunE.panGT () hge rfl (.cons .here rfl (.cons .here rfl (Pick.refl _)))
  obtain ⟨ok10,rfl⟩:=need_ok hv10
  have hlt:j < all.length:=by have:=of_decide_eq_true ok10;omega
  refine st ?_
  refine lv (Val.fieldAddr rfl fld_197_0) ?_
  refine lv (Val.load_one rfl (.head _) ty_166 rfl) ?_
  refine lv (Val.indexAddr_sl rfl rfl sl_166 (by omega) (by omega)) ?_
  refine lv (Val.load_gen rfl (fun w hm=>(run_loadVar_one ty_9 (by rw [cell_of_cells (hm.at (.tail _ (.head _)))];have e:min j (all.length - 1) + (0:Int).toNat * 1=j:=(by simp;omega);rw [e,List.getElem?_map,List.getElem?_eq_getElem hlt];simp [List.getD_eq_getElem?_getD,List.getElem?_eq_getElem hlt]):(loadVar 9 ⟨sb,min j (all.length - 1) + (0:Int).toNat * 1,none⟩).run Tryz.prog w = .ok (.string (bs (all.getD j []))) w))) ?_
  refine lv (Val.fieldAddr rfl fld_197_0) ?_
  refine lv (Val.load_one rfl (.head _) ty_166 rfl) ?_
  refine lv (Val.sliceOne (n:=all.length - j) rfl sl_166 (by omega) (v:=wdV sb all.length (j + 1)) (wdV_s hlt)) ?_
  refine lv (Val.fieldAddr rfl fld_197_0) ?_
  refine RunL.sto (Sto.store rfl rfl .here ty_166 rfl rfl) rfl rfl ?_
  refine st ?_
  refine RunC.ret ?_
  exact RunE.retGT () hlt (.r1 rfl (.tmp rfl)) rfl (.cons .here rfl (.cons .here rfl (Pick.refl _)))
theorem number_calls (wb sb:Nat) (all:List Str) (j:Nat) (rest:Blks) (W0 w:World) (hL:Lw Tryz.prog W0) (hm0:Mem W0 [] (wdM wb sb all j rest) w) (hj:WdOk all j) :
    Calls Tryz.prog 92 #[.pointer (some ⟨wb,0,none⟩)] w (GrowT W0 [] (fun n:Int=>.int .i64 n) (fun _=>wdM wb sb all (j + 1) rest) (fun n=>j < all.length∧numP (all.getD j [])=some n) misf (fun _:Nat=>8) (fun j'=>wdM wb sb all j' rest) (fun _=>all.length≤j∨numP (all.getD j [])=none)):=by
  have hg:=hj.get
  refine calls_from hm0 Tryz.func92 rfl rfl ?_
  refine st ?_
  refine RunL.callGT (isCall_func rfl ent_104) rfl rfl rfl (fun w hm=>(word_calls wb sb all j rest W0 w hm hj)) (fun p4 hp4=>?_) (fun z4 hz4=>?_)
  ·refine RunE.pass_panic ?_
   exact RunE.panGT j (.inl hp4) rfl (.cons .here rfl (.cons .here rfl (Pick.refl _)))
  refine RunL.callT (isCall_func rfl ent_138) rfl rfl rfl (fun w hm=>(figure_calls (all.getD j []) (by omega) w (hL.mono hm))) (fun e5 he5=>?_) (fun v5 hv5=>?_)
  ·obtain ⟨hn,rfl⟩:=figX_err he5
   refine RunE.pass_panic ?_
   exact RunE.panGT (j + 1) (.inr hn) rfl (.cons .here rfl (.cons .here rfl (Pick.refl _)))
  obtain ⟨n,hn,rfl⟩:=figX_ok hv5
  refine st ?_
  refine RunC.ret ?_
  exact RunE.retGT n ⟨hz4,hn⟩ (.r1 rfl (.tmp rfl)) rfl (.cons .here rfl (.cons .here rfl (Pick.refl _)))
theorem span_calls (wb sb:Nat) (all:List Str) (j:Nat) (rest:Blks) (W0 w:World) (hL:Lw Tryz.prog W0) (hm0:Mem W0 [] (wdM wb sb all j rest) w) (hj:WdOk all j) :
    Calls Tryz.prog 95 #[.pointer (some ⟨wb,0,none⟩)] w (GrowT W0 [] (fun n:Sp=>.agg n.cells.toArray) (fun _=>wdM wb sb all (j + 1) rest) (fun n=>j < all.length∧spanP (all.getD j [])=some n) misf (fun _:Nat=>8) (fun j'=>wdM wb sb all j' rest) (fun _=>all.length≤j∨spanP (all.getD j [])=none)):=by
  have hg:=hj.get
  have hcl:(Lib.cut (all.getD j []) [46,46]).1.length≤(all.getD j []).length∧(Lib.cut (all.getD j []) [46,46]).2.1.length≤(all.getD j []).length:=by
    unfold Lib.cut
    split
    · simp only [List.length_take,List.length_drop];omega
    · simp
  refine calls_from hm0 Tryz.func95 rfl rfl ?_
  refine st ?_
  refine RunL.new (New.alloc zero_38) rfl rfl rfl (fun b2=>?_)
  refine st ?_
  refine RunL.callGT (isCall_func rfl ent_104) rfl rfl rfl (fun w hm=>(calls_reT (A:=[(b2,.cells [.int .i64 0,.int .i64 0].toArray 38 (0,0))]) (word_calls wb sb all j ((b2,.cells [.int .i64 0,.int .i64 0].toArray 38 (0,0))::rest) W0 w (hm.pick (Pick.cnt fun x=>by simp only [nC];omega)) hj))) (fun p8 hp8=>?_) (fun z8 hz8=>?_)
  ·refine RunE.pass_panic ?_
   exact RunE.panGT j (.inl hp8) rfl (.cons (.there .here) rfl (.cons (.there .here) rfl (Pick.skip (Pick.refl _))))
  refine RunL.callP (isCall_func rfl ent_139) rfl rfl rfl (fun w hm=>(cut_calls (all.getD j []) [46,46] (by omega) w (hL.mono hm))) ?_
  refine st ?_
  refine RunL.callT (isCall_func rfl ent_67) rfl rfl rfl (fun w hm=>need_calls _ _ w) (fun e14 he14=>?_) (fun v14 hv14=>?_)
  ·obtain ⟨er14,rfl⟩:=need_err he14
   refine RunE.pass_panic ?_
   exact RunE.panGT (j + 1) (.inr (by unfold spanP;rw [er14];rfl)) rfl (.cons (.there .here) rfl (.cons (.there .here) rfl (Pick.skip (Pick.refl _))))
  obtain ⟨ok14,rfl⟩:=need_ok hv14
  refine st ?_
  refine RunL.callT (isCall_func rfl ent_138) rfl rfl rfl (fun w hm=>(figure_calls (Lib.cut (all.getD j []) [46,46]).1 (by omega) w (hL.mono hm))) (fun e16 he16=>?_) (fun v16 hv16=>?_)
  ·obtain ⟨hn,rfl⟩:=figX_err he16
   refine RunE.pass_panic ?_
   exact RunE.panGT (j + 1) (.inr (by unfold spanP;rw [ok14,hn];rfl)) rfl (.cons (.there .here) rfl (.cons (.there .here) rfl (Pick.skip (Pick.refl _))))
  obtain ⟨n,hn,rfl⟩:=figX_ok hv16
  refine st ?_
  refine RunL.callT (isCall_func rfl ent_138) rfl rfl rfl (fun w hm=>(figure_calls (Lib.cut (all.getD j []) [46,46]).2.1 (by omega) w (hL.mono hm))) (fun e18 he18=>?_) (fun v18 hv18=>?_)
  ·obtain ⟨hn2,rfl⟩:=figX_err he18
   refine RunE.pass_panic ?_
   exact RunE.panGT (j + 1) (.inr (by unfold spanP;rw [ok14,hn,hn2];rfl)) rfl (.cons (.there .here) rfl (.cons (.there .here) rfl (Pick.skip (Pick.refl _))))
  obtain ⟨n2,hn2,rfl⟩:=figX_ok hv18
  refine lv (Val.build (parts:=[(0,.tmp 16),(1,.tmp 18)]) rfl zero_38 places_38 rfl) ?_
  refine RunL.sto (Sto.store rfl rfl .here ty_38 rfl rfl) rfl rfl ?_
  refine st ?_
  refine RunC.ret ?_
  exact RunE.retGT ⟨n,n2⟩ ⟨hz8,by unfold spanP;rw [ok14,hn,hn2];rfl⟩ (.r1 rfl (.agg rfl (.head _) ty_38 rfl)) rfl (.cons (.there .here) rfl (.cons (.there .here) rfl (Pick.skip (Pick.refl _))))
end Go.Proofs.YtleamcmljcdapaaGreatDoor
namespace Go.Proofs.YtleamcmljcdapaaGreatDoor
open Go Go.Eng
theorem ap_22:apB Tryz.prog 22=some (38,2,16):=by kernel_rfl
theorem ap_27:apB Tryz.prog 27=some (3,1,8):=by kernel_rfl
theorem ent_92:Enters Tryz.prog 92:=enters_of Tryz.func92 (by kernel_rfl) rfl
theorem ent_95:Enters Tryz.prog 95:=enters_of Tryz.func95 (by kernel_rfl) rfl
end Go.Proofs.YtleamcmljcdapaaGreatDoor
namespace Go.Bk
open Go Go.Eng Go.RowKit
def allP {α:Type} (f:Str→Option α):List Str→Option (List α)
  | []=>some []
  | w::ws=>match f w,allP f ws with
    | some a,some l=>some (a::l)
    | _,_=>none
theorem allP_app {α:Type} {f:Str→Option α}:∀ {a b:List Str},allP f (a++b)=match allP f a,allP f b with
    | some x,some y=>some (x++y)
    | _,_=>none
  | [],b=>by
    simp only [List.nil_append,allP]
    cases allP f b <;> rfl
  | w::a,b=>by
    simp only [List.cons_append,allP,allP_app (a:=a) (b:=b)]
    cases f w <;> cases allP f a <;> cases allP f b <;> rfl
theorem allP_s {α:Type} {f:Str→Option α} {l:List Str} {k:Nat} (hk:k < l.length) {r:List α} (h:allP f (l.take k)=some r) {y:α} (hy:f (l.getD k [])=some y):allP f (l.take (k + 1))=some (r++[y]):=by
  rw [List.getD_eq_getElem?_getD,List.getElem?_eq_getElem hk,Option.getD_some] at hy
  rw [List.take_succ_eq_append_getElem hk,allP_app,h]
  simp only [allP,hy]
theorem allP_no {α:Type} {f:Str→Option α} {l:List Str} {k:Nat} (hk:k < l.length) (hy:f (l.getD k [])=none):allP f l=none:=by
  rw [List.getD_eq_getElem?_getD,List.getElem?_eq_getElem hk,Option.getD_some] at hy
  have e:l=l.take k++(l[k]::l.drop (k + 1)):=by rw [← List.drop_eq_getElem_cons hk,List.take_append_drop]
  rw [e,allP_app]
  simp only [allP,hy]
  cases allP f (l.take k) <;> rfl
theorem drop_getD {l:List Str} {j k:Nat}:(l.drop j).getD k []=l.getD (j + k) []:=by
  simp [List.getD_eq_getElem?_getD,List.getElem?_drop]
theorem allP_len {α:Type} {f:Str→Option α}:∀ {l:List Str} {r:List α},allP f l=some r→r.length=l.length
  | [],r,h=>by cases h;rfl
  | w::ws,r,h=>by
    simp only [allP] at h
    split at h
    · rename_i a l h1 h2
      cases h
      simp [allP_len h2]
    · cases h
end Go.Bk
namespace Go.Proofs.YtleamcmljcdapaaGreatDoor
open Go Go.Eng Go.Bk Go.RowKit

theorem allSp_calls (wb sb:Nat) (all:List Str) (j:Nat) (rest:Blks) (W0 w:World) (hL:Lw Tryz.prog W0) (hm0:Mem W0 [] (wdM wb sb all j rest) w) (hj:WdOk all j) :
    Calls Tryz.prog 94 #[.pointer (some ⟨wb,0,none⟩),.func (.func 95) #[.pointer (some ⟨wb,0,none⟩)] #[]] w (GrowT W0 [] (fun z:Eng.Own×List (Sp)=>ownV z.1 z.2.length) (fun z=>ownB 38 z.1 (z.2.map Sp.cells).flatten++(rest++[])) (fun z=>OwnOk 2 z.1 z.2.length (z.2.map Sp.cells).flatten∧allP spanP (all.drop j)=some z.2) misf (fun _:Unit=>8) (fun _=>rest++[]) (fun _=>allP spanP (all.drop j)=none)):=by
  have h1:=hj.le
  have h2:=hj.few
  have hdl:(all.drop j).length=all.length - j:=List.length_drop
  refine calls_from hm0 Tryz.func94 rfl rfl ?_
  refine st ?_
  refine RunC.scope ?_
  refine st ?_
  refine RunC.label ?_
  refine st ?_
  refine RunC.loopX (X:=Eng.Own×List (Sp)) (n0:=[(sb,_)]) (all.length - j) (fun k x q=>(4,ownV x.1 x.2.length)::q) (fun _ _=>_) (fun k x=>[(wb,wdO sb all.length (j + k))]) (fun k x=>ownB 38 x.1 (x.2.map Sp.cells).flatten++(rest++[])) (fun k x=>OwnOk 2 x.1 x.2.length (x.2.map Sp.cells).flatten∧x.2.length=k∧allP spanP ((all.drop j).take k)=some x.2) (none,[]) ⟨OwnOk.start,rfl,rfl⟩ rfl (Sub.consE (t:=4) rfl rfl (Sub.cons (t:=0) rfl (Sub.cons (t:=1) rfl (Sub.nil _)))) (.cons .here rfl (.cons .here rfl (Pick.same (by rfl)))) ?_
  intro k x kN kI
  obtain ⟨x1,xl⟩:=x
  obtain ⟨kI1,kI2,kI3⟩:=kI
  dsimp only at kI1 kI2 kI3 ⊢
  have hjk:WdOk all (j + k):=⟨by omega,hj.few,hj.short⟩
  refine st ?_
  refine lv (Val.fieldAddr rfl fld_197_0) ?_
  refine lv (Val.load_one rfl (.head _) ty_166 rfl) ?_
  refine lv (Val.len_sl rfl sl_166) ?_
  refine cn rfl ?_ ?_
  ·intro c0'
   have hk:k=all.length - j:=by omega
   refine RunC.exit ?_
   refine RunE.pass_exit ?_
   refine RunE.block_other rfl ?_
   refine RunE.pass_exit ?_
   refine RunE.block_here ?_
   refine st ?_
   refine RunC.ret ?_
   refine RunE.scope_ret ?_
   exact RunE.retGT (x1,xl) ⟨kI1,by rw [← kI3,hk,← hdl,List.take_length]⟩ (.r1 rfl (.tmp rfl)) rfl (Pick.skip (Pick.skip (Pick.refl _)))
  intro c0'
  have hk:j + k < all.length:=by omega
  refine st ?_
  refine RunL.callGT (isCall_value rfl rfl ent_95) rfl rfl rfl (fun w hm=>(calls_reG (nw':=fun _=>(wb,wdO sb all.length (j + k + 1))::(sb,stO all)::(ownB 38 x1 (xl.map Sp.cells).flatten++(rest++[]))) (np':=fun j2=>(wb,wdO sb all.length j2)::(sb,stO all)::(rest++[])) (span_calls wb sb all (j + k) (ownB 38 x1 (xl.map Sp.cells).flatten++rest) W0 w hL (hm.pick (Pick.cnt fun x=>by simp only [nC];omega)) hjk) (fun _=>(Pick.cnt fun x=>by simp only [nC];omega)) (fun _=>(Pick.cnt fun x=>by simp only [nC];omega)))) (fun p13 hp13=>?_) (fun z13 hz13=>?_)
  ·have hbad:allP spanP (all.drop j)=none:=allP_no (k:=k) (by omega) (by rw [drop_getD];rcases hp13 with h | h;exact absurd h (by omega);exact h)
   refine RunE.block_panic ?_
   refine RunE.pass_panic ?_
   refine RunE.block_panic ?_
   refine RunE.pass_panic ?_
   refine RunE.scope_panic ?_
   exact RunE.panGT () hbad rfl (Pick.skip (Pick.skip (Pick.refl _)))
  refine RunL.new (New.buildSlice (parts:=[(0,.tmp 13)]) rfl sl_22 zero_38 rfl rfl rfl rfl) rfl rfl rfl (fun b14=>?_)
  refine RunL.append (A:=[(b14,_),(wb,_),(sb,_)]) (B:=_) (x:=x1) (ys:=Sp.cells z13) ap_22 rfl rfl rfl kI1 rfl (fun h=>by cases h) (fun w hm=>src_blk (hm.at (.head _))) (one_of rfl) (by simp only [maxLen];omega) (by omega) rfl (fun z15 hz15=>?_)
  refine st ?_
  exact RunE.roundX (z15,xl++[z13]) (by omega) ⟨by have h:=hz15;simp only [List.map_append,List.flatten_append,List.length_append,List.length_singleton];simpa using h,by simp [kI2],allP_s (by omega) kI3 (by rw [drop_getD];exact hz13.2)⟩ rfl (Sub.consE (t:=4) rfl (by simp) (Sub.cons (t:=0) rfl (Sub.cons (t:=1) rfl (Sub.nil _)))) (.cons (.there .here) rfl (.cons (.there .here) rfl (Pick.skip (Pick.same (by simp [List.map_append])))))
theorem allI_calls (wb sb:Nat) (all:List Str) (j:Nat) (rest:Blks) (W0 w:World) (hL:Lw Tryz.prog W0) (hm0:Mem W0 [] (wdM wb sb all j rest) w) (hj:WdOk all j) :
    Calls Tryz.prog 113 #[.pointer (some ⟨wb,0,none⟩),.func (.func 92) #[.pointer (some ⟨wb,0,none⟩)] #[]] w (GrowT W0 [] (fun z:Eng.Own×List (Int)=>ownV z.1 z.2.length) (fun z=>ownB 3 z.1 (z.2.map intC).flatten++(rest++[])) (fun z=>OwnOk 1 z.1 z.2.length (z.2.map intC).flatten∧allP numP (all.drop j)=some z.2) misf (fun _:Unit=>8) (fun _=>rest++[]) (fun _=>allP numP (all.drop j)=none)):=by
  have h1:=hj.le
  have h2:=hj.few
  have hdl:(all.drop j).length=all.length - j:=List.length_drop
  refine calls_from hm0 Tryz.func113 rfl rfl ?_
  refine st ?_
  refine RunC.scope ?_
  refine st ?_
  refine RunC.label ?_
  refine st ?_
  refine RunC.loopX (X:=Eng.Own×List (Int)) (n0:=[(sb,_)]) (all.length - j) (fun k x q=>(4,ownV x.1 x.2.length)::q) (fun _ _=>_) (fun k x=>[(wb,wdO sb all.length (j + k))]) (fun k x=>ownB 3 x.1 (x.2.map intC).flatten++(rest++[])) (fun k x=>OwnOk 1 x.1 x.2.length (x.2.map intC).flatten∧x.2.length=k∧allP numP ((all.drop j).take k)=some x.2) (none,[]) ⟨OwnOk.start,rfl,rfl⟩ rfl (Sub.consE (t:=4) rfl rfl (Sub.cons (t:=0) rfl (Sub.cons (t:=1) rfl (Sub.nil _)))) (.cons .here rfl (.cons .here rfl (Pick.same (by rfl)))) ?_
  intro k x kN kI
  obtain ⟨x1,xl⟩:=x
  obtain ⟨kI1,kI2,kI3⟩:=kI
  dsimp only at kI1 kI2 kI3 ⊢
  have hjk:WdOk all (j + k):=⟨by omega,hj.few,hj.short⟩
  refine st ?_
  refine lv (Val.fieldAddr rfl fld_197_0) ?_
  refine lv (Val.load_one rfl (.head _) ty_166 rfl) ?_
  refine lv (Val.len_sl rfl sl_166) ?_
  refine cn rfl ?_ ?_
  ·intro c0'
   have hk:k=all.length - j:=by omega
   refine RunC.exit ?_
   refine RunE.pass_exit ?_
   refine RunE.block_other rfl ?_
   refine RunE.pass_exit ?_
   refine RunE.block_here ?_
   refine st ?_
   refine RunC.ret ?_
   refine RunE.scope_ret ?_
   exact RunE.retGT (x1,xl) ⟨kI1,by rw [← kI3,hk,← hdl,List.take_length]⟩ (.r1 rfl (.tmp rfl)) rfl (Pick.skip (Pick.skip (Pick.refl _)))
  intro c0'
  have hk:j + k < all.length:=by omega
  refine st ?_
  refine RunL.callGT (isCall_value rfl rfl ent_92) rfl rfl rfl (fun w hm=>(calls_reG (nw':=fun _=>(wb,wdO sb all.length (j + k + 1))::(sb,stO all)::(ownB 3 x1 (xl.map intC).flatten++(rest++[]))) (np':=fun j2=>(wb,wdO sb all.length j2)::(sb,stO all)::(rest++[])) (number_calls wb sb all (j + k) (ownB 3 x1 (xl.map intC).flatten++rest) W0 w hL (hm.pick (Pick.cnt fun x=>by simp only [nC];omega)) hjk) (fun _=>(Pick.cnt fun x=>by simp only [nC];omega)) (fun _=>(Pick.cnt fun x=>by simp only [nC];omega)))) (fun p13 hp13=>?_) (fun z13 hz13=>?_)
  ·have hbad:allP numP (all.drop j)=none:=allP_no (k:=k) (by omega) (by rw [drop_getD];rcases hp13 with h | h;exact absurd h (by omega);exact h)
   refine RunE.block_panic ?_
   refine RunE.pass_panic ?_
   refine RunE.block_panic ?_
   refine RunE.pass_panic ?_
   refine RunE.scope_panic ?_
   exact RunE.panGT () hbad rfl (Pick.skip (Pick.skip (Pick.refl _)))
  refine RunL.new (New.buildSlice (parts:=[(0,.tmp 13)]) rfl sl_27 zero_3 rfl rfl rfl rfl) rfl rfl rfl (fun b14=>?_)
  refine RunL.append (A:=[(b14,_),(wb,_),(sb,_)]) (B:=_) (x:=x1) (ys:=intC z13) ap_27 rfl rfl rfl kI1 rfl (fun h=>by cases h) (fun w hm=>src_blk (hm.at (.head _))) (one_of rfl) (by simp only [maxLen];omega) (by omega) rfl (fun z15 hz15=>?_)
  refine st ?_
  exact RunE.roundX (z15,xl++[z13]) (by omega) ⟨by have h:=hz15;simp only [List.map_append,List.flatten_append,List.length_append,List.length_singleton];simpa using h,by simp [kI2],allP_s (by omega) kI3 (by rw [drop_getD];exact hz13.2)⟩ rfl (Sub.consE (t:=4) rfl (by simp) (Sub.cons (t:=0) rfl (Sub.cons (t:=1) rfl (Sub.nil _)))) (.cons (.there .here) rfl (.cons (.there .here) rfl (Pick.skip (Pick.same (by simp [List.map_append])))))
end Go.Proofs.YtleamcmljcdapaaGreatDoor
namespace Go.Proofs.YtleamcmljcdapaaGreatDoor
open Go Go.Eng
theorem ent_94:Enters Tryz.prog 94:=enters_of Tryz.func94 (by kernel_rfl) rfl
end Go.Proofs.YtleamcmljcdapaaGreatDoor
namespace Go.Bk
open Go Go.Eng Go.RowKit
def numAt (all:List Str) (j:Nat):Option Int:=if j < all.length then numP (all.getD j []) else none
theorem numAt_ok {all:List Str} {j:Nat} {n:Int} (h:j < all.length∧numP (all.getD j [])=some n):numAt all j=some n:=by unfold numAt;rw [if_pos h.1,h.2]
theorem numAt_no {all:List Str} {j:Nat} (h:all.length≤j∨numP (all.getD j [])=none):numAt all j=none:=by
  unfold numAt
  split
  · rename_i hlt
    rcases h with h | h
    · omega
    · exact h
  · rfl
abbrev OL (α:Type):=Eng.Own×List α
abbrev OL.v {α:Type} (z:OL α):Value:=ownV z.1 z.2.length
abbrev OL.ok {α:Type} (z:OL α) (f:α→List Value) (sz:Nat):Prop:=OwnOk sz z.1 z.2.length (z.2.map f).flatten
def rowC {α:Type} (r:OL α):List Value:=[ownV r.1 r.2.length]
theorem own_one' (z:Eng.Own) (k:Nat):(ownV z k).oneCell'=true:=by cases z <;> rfl
theorem ol_snoc {α:Type} {f:α→List Value} {sz:Nat} {z z':Eng.Own} {l:List α} {a:α} (h:OwnOk sz z' (l.length + 1) ((l.map f).flatten++f a)):OL.ok (z',l++[a]) f sz:=by
  show OwnOk sz z' (l++[a]).length (((l++[a]).map f).flatten)
  simp only [List.map_append,List.flatten_append,List.length_append,List.length_singleton]
  simpa using h
theorem ol_nil {α:Type} {f:α→List Value} {sz:Nat}:OL.ok (α:=α) (none,[]) f sz:=OwnOk.start
structure TrX where
  dawn:Int
  fr:OL Sp
  ways:OL (OL Sp)
  stay:OL Sp
  light:OL Sp
def TrX.cells (x:TrX):List Value:=[.int .i64 x.dawn,ownV x.fr.1 x.fr.2.length,ownV x.ways.1 x.ways.2.length,ownV x.stay.1 x.stay.2.length,ownV x.light.1 x.light.2.length]
def TrX.pl (x:TrX):Tr:=⟨x.dawn,x.fr.2,x.ways.2.map (·.2),x.stay.2,x.light.2⟩
structure TrXOk (n:Nat) (x:TrX):Prop where
  fr:x.fr.ok Sp.cells 2
  ways:x.ways.ok rowC 1
  rows:∀ r∈x.ways.2,OL.ok r Sp.cells 2
  stay:x.stay.ok Sp.cells 2
  light:x.light.ok Sp.cells 2
  few:x.ways.2.length≤n
  s1:x.fr.2.length≤10000
  s2:x.stay.2.length≤10000
  s3:x.light.2.length≤10000
  s4:∀ r∈x.ways.2,r.2.length≤10000
theorem TrXOk.more {n:Nat} {x:TrX} (h:TrXOk n x):TrXOk (n + 1) x:=⟨h.fr,h.ways,h.rows,h.stay,h.light,Nat.le_succ_of_le h.few,h.s1,h.s2,h.s3,h.s4⟩
def tourStep (x:Tr) (all:List Str):Option Tr :=
  if all.getD 0 []=wTour then (numAt all 1).map fun n=>{ x with dawn:=n }
  else if all.getD 0 []=wFrom then (allP spanP (all.drop 1)).map fun l=>{ x with fr:=l }
  else if all.getD 0 []=wWays then (allP spanP (all.drop 1)).map fun l=>{ x with ways:=x.ways++[l] }
  else if all.getD 0 []=wStay then (allP spanP (all.drop 1)).map fun l=>{ x with stay:=l }
  else if all.getD 0 []=wLight then (allP spanP (all.drop 1)).map fun l=>{ x with light:=l }
  else none
end Go.Bk
namespace Go.Proofs.YtleamcmljcdapaaGreatDoor
open Go Go.Eng Go.Bk Go.RowKit

abbrev spB (z:OL Sp):Blks:=ownB 38 z.1 (z.2.map Sp.cells).flatten
def spRows (l:List (OL Sp)):Blks:=(l.map fun r=>spB r).flatten
theorem spRows_snoc (l:List (OL Sp)) (r:OL Sp):spRows (l++[r])=spRows l++spB r:=by simp [spRows]
abbrev waB (z:OL (OL Sp)):Blks:=ownB 22 z.1 (z.2.map rowC).flatten
abbrev trXO (x:TrX):Obj:=.cells x.cells.toArray 25 (0,0)
abbrev trM (xb:Nat) (x:TrX) (tl:Blks):Blks:=(xb,trXO x)::(spB x.fr++(waB x.ways++(spRows x.ways.2++(spB x.stay++(spB x.light++tl)))))
abbrev LineT (W0:World) (xb:Nat) (n:Nat) (p:Option Tr) (rest:Blks):Ending→World→Prop :=
  GrowT W0 [] (fun _:TrX=>.tuple #[]) (fun z=>trM xb z (rest++[])) (fun z=>TrXOk (n + 1) z∧p=some z.pl) misf (fun _:TrX=>8) (fun z=>trM xb z (rest++[])) (fun z=>TrXOk (n + 1) z∧p=none)
section
variable (wb sb:Nat) (all:List Str) (xb:Nat) (x:TrX) (n:Nat) (rest:Blks) (W0 w:World) (hL:Lw Tryz.prog W0) (hm0:Mem W0 [] ((wb,wdO sb all.length 1)::(sb,stO all)::trM xb x (rest++[])) w) (hj:WdOk all 1) (hx:TrXOk n x) (hn:n≤10000)
include hL hm0 hj hx hn
theorem hTour_calls:Calls Tryz.prog 91 #[pV xb,pV wb] w (LineT W0 xb n ((numAt all 1).map fun n=>{ x.pl with dawn:=n }) rest):=by
  have _hn:=hn
  refine calls_from hm0 Tryz.func91 rfl rfl ?_
  refine st ?_
  refine RunL.callGT (isCall_func rfl ent_92) rfl rfl rfl (fun w hm=>(calls_reG (nw':=fun _=>trM xb x (rest++[])) (np':=fun _=>trM xb x (rest++[])) (number_calls wb sb all 1 (trM xb x rest) W0 w hL (hm.pick (Pick.cnt fun x=>by simp only [nC,spB,waB];omega)) hj) (fun _=>(Pick.cnt fun x=>by simp only [nC,spB,waB];omega)) (fun _=>(Pick.cnt fun x=>by simp only [nC,spB,waB];omega)))) (fun p6 hp6=>?_) (fun z6 hz6=>?_)
  ·exact RunE.panGT x ⟨hx.more,by rw [numAt_no hp6];rfl⟩ rfl (.cons .here rfl (Pick.refl _))
  refine st ?_
  refine lv (Val.fieldAddr rfl fld_25_0) ?_
  refine RunL.sto (Sto.store rfl rfl .here ty_3 rfl rfl) rfl rfl ?_
  refine st ?_
  exact RunE.finGT { x with dawn:=z6 } ⟨⟨hx.fr,hx.ways,hx.rows,hx.stay,hx.light,Nat.le_succ_of_le hx.few,hx.s1,hx.s2,hx.s3,hx.s4⟩,by rw [numAt_ok hz6];rfl⟩ (.r0 rfl) rfl (.cons .here rfl (Pick.refl _))
theorem hFrom_calls:Calls Tryz.prog 93 #[pV xb,pV wb] w (LineT W0 xb n ((allP spanP (all.drop 1)).map fun l=>{ x.pl with fr:=l }) rest):=by
  have _hn:=hn
  have hdl:(all.drop 1).length≤10000:=by rw [List.length_drop];have:=hj.few;omega
  refine calls_from hm0 Tryz.func93 rfl rfl ?_
  refine st ?_
  refine RunL.callGT (isCall_func rfl ent_94) rfl rfl rfl (fun w hm=>(calls_reG (nw':=fun z=>(xb,trXO x)::(spB z++(waB x.ways++(spRows x.ways.2++(spB x.stay++(spB x.light++(rest++[]))))))) (np':=fun _=>trM xb x (rest++[])) (allSp_calls wb sb all 1 (trM xb x rest) W0 w hL (hm.pick (Pick.cnt fun x=>by simp only [nC,spB,waB];omega)) hj) (fun _=>(Pick.cnt fun x=>by simp only [nC,spB,waB];omega)) (fun _=>(Pick.cnt fun x=>by simp only [nC,spB,waB];omega)))) (fun p8 hp8=>?_) (fun z8 hz8=>?_)
  ·exact RunE.panGT x ⟨hx.more,by rw [hp8];rfl⟩ rfl (.cons .here rfl (Pick.refl _))
  refine st ?_
  refine lv (Val.fieldAddr rfl fld_25_1) ?_
  refine RunL.sto (Sto.storeOwn rfl rfl .here ty_22 rfl rfl) rfl rfl ?_
  refine st ?_
  exact RunE.finGT { x with fr:=z8 } ⟨⟨hz8.1,hx.ways,hx.rows,hx.stay,hx.light,Nat.le_succ_of_le hx.few,by rw [allP_len hz8.2];exact hdl,hx.s2,hx.s3,hx.s4⟩,by rw [hz8.2];rfl⟩ (.r0 rfl) rfl (.cons .here rfl (Pick.refl _))
theorem hStay_calls:Calls Tryz.prog 97 #[pV xb,pV wb] w (LineT W0 xb n ((allP spanP (all.drop 1)).map fun l=>{ x.pl with stay:=l }) rest):=by
  have _hn:=hn
  have hdl:(all.drop 1).length≤10000:=by rw [List.length_drop];have:=hj.few;omega
  refine calls_from hm0 Tryz.func97 rfl rfl ?_
  refine st ?_
  refine RunL.callGT (isCall_func rfl ent_94) rfl rfl rfl (fun w hm=>(calls_reG (nw':=fun z=>(xb,trXO x)::(spB z++(spB x.fr++(waB x.ways++(spRows x.ways.2++(spB x.light++(rest++[]))))))) (np':=fun _=>trM xb x (rest++[])) (allSp_calls wb sb all 1 (trM xb x rest) W0 w hL (hm.pick (Pick.cnt fun x=>by simp only [nC,spB,waB];omega)) hj) (fun _=>(Pick.cnt fun x=>by simp only [nC,spB,waB];omega)) (fun _=>(Pick.cnt fun x=>by simp only [nC,spB,waB];omega)))) (fun p8 hp8=>?_) (fun z8 hz8=>?_)
  ·exact RunE.panGT x ⟨hx.more,by rw [hp8];rfl⟩ rfl (.cons .here rfl (Pick.refl _))
  refine st ?_
  refine lv (Val.fieldAddr rfl fld_25_3) ?_
  refine RunL.sto (Sto.storeOwn rfl rfl .here ty_22 rfl rfl) rfl rfl ?_
  refine st ?_
  exact RunE.finGT { x with stay:=z8 } ⟨⟨hx.fr,hx.ways,hx.rows,hz8.1,hx.light,Nat.le_succ_of_le hx.few,hx.s1,by rw [allP_len hz8.2];exact hdl,hx.s3,hx.s4⟩,by rw [hz8.2];rfl⟩ (.r0 rfl) rfl (.cons .here rfl (Pick.cnt fun x=>by simp only [nC,spB,waB];omega))
theorem hLight_calls:Calls Tryz.prog 98 #[pV xb,pV wb] w (LineT W0 xb n ((allP spanP (all.drop 1)).map fun l=>{ x.pl with light:=l }) rest):=by
  have _hn:=hn
  have hdl:(all.drop 1).length≤10000:=by rw [List.length_drop];have:=hj.few;omega
  refine calls_from hm0 Tryz.func98 rfl rfl ?_
  refine st ?_
  refine RunL.callGT (isCall_func rfl ent_94) rfl rfl rfl (fun w hm=>(calls_reG (nw':=fun z=>(xb,trXO x)::(spB z++(spB x.fr++(waB x.ways++(spRows x.ways.2++(spB x.stay++(rest++[]))))))) (np':=fun _=>trM xb x (rest++[])) (allSp_calls wb sb all 1 (trM xb x rest) W0 w hL (hm.pick (Pick.cnt fun x=>by simp only [nC,spB,waB];omega)) hj) (fun _=>(Pick.cnt fun x=>by simp only [nC,spB,waB];omega)) (fun _=>(Pick.cnt fun x=>by simp only [nC,spB,waB];omega)))) (fun p8 hp8=>?_) (fun z8 hz8=>?_)
  ·exact RunE.panGT x ⟨hx.more,by rw [hp8];rfl⟩ rfl (.cons .here rfl (Pick.refl _))
  refine st ?_
  refine lv (Val.fieldAddr rfl fld_25_4) ?_
  refine RunL.sto (Sto.storeOwn rfl rfl .here ty_22 rfl rfl) rfl rfl ?_
  refine st ?_
  exact RunE.finGT { x with light:=z8 } ⟨⟨hx.fr,hx.ways,hx.rows,hx.stay,hz8.1,Nat.le_succ_of_le hx.few,hx.s1,hx.s2,by rw [allP_len hz8.2];exact hdl,hx.s4⟩,by rw [hz8.2];rfl⟩ (.r0 rfl) rfl (.cons .here rfl (Pick.cnt fun x=>by simp only [nC,spB,waB];omega))
theorem hWays_calls:Calls Tryz.prog 96 #[pV xb,pV wb] w (LineT W0 xb n ((allP spanP (all.drop 1)).map fun l=>{ x.pl with ways:=x.pl.ways++[l] }) rest):=by
  have hdl:(all.drop 1).length≤10000:=by rw [List.length_drop];have:=hj.few;omega
  have hw:=hx.ways
  have hfew:=hx.few
  refine calls_from hm0 Tryz.func96 rfl rfl ?_
  refine RunC.draw 11 fol_ (.cons (.there (.there .here)) rfl .nil) ?_
  refine va 0 rfl (Val.pure rfl) rfl rfl rfl (.cons (.there (.there .here)) rfl .nil) rfl ?_
  refine va 1 rfl (Val.pure rfl) rfl rfl rfl (.cons (.there (.there .here)) rfl .nil) rfl ?_
  refine va 2 rfl (Val.pure rfl) rfl rfl rfl (.cons (.there (.there .here)) rfl .nil) rfl ?_
  refine va 3 rfl (Val.fieldAddr rfl fld_25_2) rfl rfl rfl (.cons (.there (.there .here)) rfl .nil) rfl ?_
  refine va 4 rfl (Val.load_one rfl (.head _) ty_23 rfl) rfl rfl rfl (.cons (.there (.there .here)) rfl .nil) rfl ?_
  refine va 5 rfl (Val.pure rfl) rfl rfl rfl (.cons (.there (.there .here)) rfl .nil) rfl ?_
  refine va 6 rfl (Val.pure rfl) rfl rfl rfl (.cons (.there (.there .here)) rfl .nil) rfl ?_
  refine va 7 rfl (Val.pure rfl) rfl rfl rfl (.cons (.there (.there .here)) rfl .nil) rfl ?_
  refine RunA.one (i:=8) (by kernel_rfl) (by kernel_rfl) ?_
  refine RunI.callGT rfl (isCall_func rfl ent_94) rfl rfl rfl (fun w hm=>(calls_reG (nw':=fun z=>(xb,trXO x)::(waB x.ways++(spB z++(spB x.fr++(spRows x.ways.2++(spB x.stay++(spB x.light++(rest++[])))))))) (np':=fun _=>trM xb x (rest++[])) (allSp_calls wb sb all 1 (trM xb x rest) W0 w hL (hm.pick (Pick.cnt fun x=>by simp only [nC,spB,waB];omega)) hj) (fun _=>(Pick.cnt fun x=>by simp only [nC,spB,waB];omega)) (fun _=>(Pick.cnt fun x=>by simp only [nC,spB,waB];omega)))) (fun p12 hp12=>?_) (fun z12 hz12=>(RunK.toA (.cons .here rfl .nil) (.cons .here rfl .nil) rfl ?_))
  ·exact RunE.panGT x ⟨hx.more,by rw [hp12];rfl⟩ rfl (.cons .here rfl (Pick.refl _))
  refine RunA.one (i:=9) (by kernel_rfl) (by kernel_rfl) ?_
  refine RunI.new rfl (New.buildSliceOwn (x:=.tmp 12) rfl sl_23 zero_22) rfl rfl rfl (fun b13=>(RunK.toA (.cons .here rfl (.cons .here rfl .nil)) (.cons (.there .here) rfl .nil) rfl ?_))
  refine RunA.one (i:=10) (by kernel_rfl) (by kernel_rfl) ?_
  refine RunI.append (A:=[(b13,_),(xb,_)]) (B:=_) (x:=x.ways.1) (ys:=rowC z12) rfl ap_23 rfl rfl rfl hw rfl (fun h=>by cases h) (fun w hm=>src_blk (hm.at (.head _))) (fun u hu=>by simp only [rowC,List.mem_singleton] at hu;subst hu;exact own_one' _ _) (by simp only [maxLen];omega) (by omega) rfl (fun z14 hz14=>(RunK.toA (.cons .here rfl (.cons .here rfl .nil)) (.cons .here rfl (.cons .here rfl .nil)) rfl ?_))
  refine RunA.toB (by kernel_rfl) ?_
  refine RunB.one (i:=11) (by kernel_rfl) ?_
  refine RunI.val rfl (Val.pure rfl) rfl rfl rfl (RunK.toB ?_)
  refine RunB.one (i:=12) (by kernel_rfl) ?_
  refine RunI.val rfl (Val.fieldAddr rfl fld_25_2) rfl rfl rfl (RunK.toB ?_)
  refine RunB.one (i:=13) (by kernel_rfl) ?_
  refine RunI.sto rfl (Sto.storeOwn rfl rfl (.there .here) ty_23 rfl rfl) rfl rfl (RunK.toB ?_)
  refine RunB.done (by kernel_rfl) ?_
  exact RunE.finGT { x with ways:=(z14,x.ways.2++[z12]) } ⟨⟨hx.fr,ol_snoc (z:=x.ways.1) hz14,fun r hr=>(by rcases List.mem_append.1 hr with h | h;exact hx.rows r h;simp only [List.mem_singleton] at h;subst h;exact hz12.1),hx.stay,hx.light,by simp;omega,hx.s1,hx.s2,hx.s3,fun r hr=>(by rcases List.mem_append.1 hr with h | h;exact hx.s4 r h;simp only [List.mem_singleton] at h;subst h;rw [allP_len hz12.2];exact hdl)⟩,by rw [hz12.2];simp [TrX.pl]⟩ (.r0 rfl) rfl (by simp only [trM,trXO,waB,spB,spRows_snoc,TrX.cells,List.length_append,List.length_singleton,List.map_append,List.flatten_append,List.map_cons,List.map_nil,List.flatten_cons,List.flatten_nil,List.append_nil];exact (.cons (.there .here) rfl (Pick.cnt fun x=>by simp only [nC,spB,waB];omega)))
end
end Go.Proofs.YtleamcmljcdapaaGreatDoor
namespace Go.Proofs.YtleamcmljcdapaaGreatDoor
open Go Go.Eng
theorem ent_175:Enters Tryz.prog 175:=enters_of Tryz.func175 (by kernel_rfl) rfl
end Go.Proofs.YtleamcmljcdapaaGreatDoor
namespace Go.Bk
open Go Go.Eng Go.RowKit
def linesL:Str→List Str
  | []=>[]
  | c::s=>if c=10 then [10]::linesL s else
    match linesL s with
    | []=>[[c]]
    | l::ls=>(c::l)::ls
theorem linesL_cons (c:UInt8) (s:Str):linesL (c::s)=if c=10 then [10]::linesL s else match linesL s with
    | []=>[[c]]
    | l::ls=>(c::l)::ls:=by rw [linesL]
theorem linesL_cut:∀ {s:Str} {i:Nat},Lib.indexByte s 10=(i:Int)→i < s.length∧linesL s=s.take (i + 1)::linesL (s.drop (i + 1))
  | [],i,h=>by unfold Lib.indexByte at h;omega
  | c::s,i,h=>by
    unfold Lib.indexByte at h
    rw [linesL_cons]
    by_cases hc:c=10
    · subst hc
      simp at h
      have:i=0:=by omega
      subst this
      rw [if_pos rfl]
      exact ⟨by simp,rfl⟩
    · have hb:(c == 10)=false:=by simpa using hc
      rw [hb] at h
      simp only [Bool.false_eq_true,if_false] at h
      split at h
      · omega
      · rename_i h1
        have hge:=Lib.indexByte_ge s 10
        have h2:Lib.indexByte s 10 ≠ -1:=by simpa using h1
        obtain ⟨j,hj⟩:∃ j:Nat,Lib.indexByte s 10=j:=⟨(Lib.indexByte s 10).toNat,by omega⟩
        obtain ⟨h3,h4⟩:=linesL_cut hj
        have:i=j + 1:=by omega
        subst this
        rw [if_neg hc,h4]
        simp only [List.length_cons,List.take_succ_cons,List.drop_succ_cons]
        exact ⟨by omega,by first | trivial | rfl⟩
theorem linesL_last:∀ {s:Str},Lib.indexByte s 10 < 0→s ≠ []→linesL s=[s]
  | [],_,h=>absurd rfl h
  | c::s,h,_=>by
    unfold Lib.indexByte at h
    rw [linesL_cons]
    by_cases hc:c=10
    · subst hc
      simp at h
    · have hb:(c == 10)=false:=by simpa using hc
      rw [hb] at h
      simp only [Bool.false_eq_true,if_false] at h
      rw [if_neg hc]
      split at h
      · rename_i h1
        cases s with
        | nil=>rfl
        | cons d s => rw [linesL_last (s := d :: s) (by have : Lib.indexByte (d :: s) 10 = -1 := by simpa using h1
                                                        omega) (by simp)]
      · have hge:=Lib.indexByte_ge s 10
        rename_i h1
        have h2:Lib.indexByte s 10 ≠ -1:=by simpa using h1
        omega
end Go.Bk
namespace Go.Proofs.YtleamcmljcdapaaGreatDoor
open Go Go.Eng Go.Bk Go.RowKit

abbrev strO (s:Str):Obj:=.cells [.string (bs s)].toArray 9 (0,0)
theorem linesIt (s:Str) (hs:s.length≤100000) (lb:Nat) (W0:World):SeqQ Tryz.prog 174 #[pV lb] (fun x:Str=>[.string (bs x)]) (fun _=>[]) [(lb,strO s)] misf (fun xs=>xs=linesL s) (fun xs=>xs <+: linesL s) (fun _ _=>False) (s.length + 1) W0:=by
  intro X l U I Ix Ip rest w0 x0 hy i0 hm0
  refine callsIn_from (vs:=[.func (.yield l) #[] #[],pV lb]) (W:=W0) (chg:=[]) (news:=(lb,strO s)::(U x0++(rest++[]))) (hm0.pick (Pick.cnt fun x=>by simp only [List.nil_append,List.cons_append,List.count_append,List.count_cons,List.count_nil];omega)) Tryz.func174 rfl rfl ?_ 8
  refine RunCR.block ?_
  refine RunCR.loopX (X:=X×List Str×Str) (n0:=[]) (s.length) (fun k y q=>q) (fun _ _=>_) (fun k y=>[(lb,strO y.2.2)]) (fun k y=>U y.1++(rest++[])) (fun k y=>I y.2.1 y.1∧y.2.1++linesL y.2.2=linesL s∧y.2.1.length=k∧k + y.2.2.length≤s.length) (x0,[],s) ⟨i0,rfl,rfl,by simp⟩ rfl (Sub.cons (t:=0) rfl (Sub.cons (t:=1) rfl (Sub.nil _))) (.cons .here rfl (Pick.same (by rfl))) ?_
  intro k y kN kI
  obtain ⟨xu,pre,r⟩:=y
  obtain ⟨hI,hpre,hlen,hrl⟩:=kI
  dsimp only at hI hpre hlen hrl ⊢
  refine RunCR.seq ?_
  refine RunCR.seq ?_
  refine RunCR.region ?_
  refine RunLR.val (Val.load_one rfl (.head _) ty_9 rfl) rfl rfl rfl ?_
  refine RunLR.val (Val.lenS rfl und_9) rfl rfl rfl ?_
  refine RunLR.val (Val.pure rfl) rfl rfl rfl ?_
  refine RunLR.nil ?_
  refine RunER.next ?_
  refine RunCR.cond rfl ?_ ?_
  ·intro c0
   have c0':=c0;clear c0
   try simp only [nH] at c0'
   have hk:0 < r.length:=by omega
   refine RunCR.skip ?_
   refine RunER.next ?_
   refine RunCR.block ?_
   refine RunCR.seq ?_
   refine RunCR.region ?_
   refine RunLR.val (Val.pure rfl) rfl rfl rfl ?_
   refine RunLR.nil ?_
   refine RunER.next ?_
   refine RunCR.seq ?_
   refine RunCR.seq ?_
   refine RunCR.region ?_
   refine RunLR.val (Val.load_one rfl (.head _) ty_9 rfl) rfl rfl rfl ?_
   refine RunLR.callP (isCall_func rfl ent_175) rfl rfl rfl (fun w hm=>(indexByte_calls r 10 w)) ?_
   refine RunLR.val (Val.pure rfl) rfl rfl rfl ?_
   refine RunLR.nil ?_
   refine RunER.next ?_
   refine RunCR.seq ?_
   refine RunCR.region ?_
   refine RunLR.val (Val.pure rfl) rfl rfl rfl ?_
   refine RunLR.val (Val.pure rfl) rfl rfl rfl ?_
   refine RunLR.nil ?_
   refine RunER.next ?_
   refine RunCR.cond rfl ?_ ?_
   ·intro c1
    have c1':=c1;clear c1
    try simp only [nH] at c1'
    obtain ⟨i,hi⟩:∃ i:Nat,Lib.indexByte r 10=i:=⟨(Lib.indexByte r 10).toNat,(Int.toNat_of_nonneg c1').symm⟩
    have hil:=(linesL_cut hi).1
    rw [show Lib.indexByte r (10:Int).toNat.toUInt8=(i:Int) from hi]
    refine RunCR.of ?_
    refine RunC.draw 9 fol_ (.cons .here rfl .nil) ?_
    refine va 0 rfl (Val.load_one rfl (.head _) ty_9 rfl) rfl rfl rfl (.cons .here rfl .nil) rfl ?_
    refine va 1 rfl (Val.pure rfl) rfl rfl rfl (.cons .here rfl .nil) rfl ?_
    refine va 2 rfl (Val.add rfl rfl (IntWalk.i64_in _ ⟨by omega,by omega⟩)) rfl rfl rfl (.cons .here rfl .nil) rfl ?_
    refine va 3 rfl (Val.strTo rfl rfl und_9 (b:=i + 1) (by omega)) rfl rfl rfl (.cons .here rfl .nil) rfl ?_
    refine va 4 rfl (Val.load_one rfl (.head _) ty_9 rfl) rfl rfl rfl (.cons .here rfl .nil) rfl ?_
    refine va 5 rfl (Val.pure rfl) rfl rfl rfl (.cons .here rfl .nil) rfl ?_
    refine va 6 rfl (Val.add rfl rfl (IntWalk.i64_in _ ⟨by omega,by omega⟩)) rfl rfl rfl (.cons .here rfl .nil) rfl ?_
    refine va 7 rfl (Val.strFrom rfl rfl und_9 (a:=i + 1) (by omega)) rfl rfl rfl (.cons .here rfl .nil) rfl ?_
    refine va 8 rfl (Val.pure rfl) rfl rfl rfl (.cons .here rfl .nil) rfl ?_
    refine RunA.toB (by kernel_rfl) ?_
    refine RunB.one (i:=9) (by kernel_rfl) ?_
    refine RunI.sto rfl (Sto.store rfl rfl .here ty_9 rfl rfl) rfl rfl (RunK.toB ?_)
    refine RunB.done (by kernel_rfl) ?_
    refine RunER.next ?_
    refine RunCR.seq ?_
    refine RunCR.region ?_
    refine RunLR.val (Val.pure rfl) rfl rfl rfl ?_
    refine RunLR.val (Val.pure rfl) rfl rfl rfl ?_
    refine RunLR.yieldQ (isYield_value rfl rfl) rfl rfl rfl (fun w hm=>(yield_of (α:=Str) (encs:=fun x=>[.string (bs x)]) (eb:=fun _=>[]) (U:=U) (I:=I) (Ix:=Ix) (Ip:=Ip) (pre:=pre) (v:=(r.take (i + 1))) (N':=fun x=>(lb,strO (r.drop (i + 1)))::(U x++(rest++[]))) (tl:=(lb,strO (r.drop (i + 1)))::rest) (fun x=>(Pick.cnt fun x=>by simp only [nC];omega)) (hy pre (r.take (i + 1)) xu ((lb,strO (r.drop (i + 1)))::rest) w hI ⟨linesL (r.drop (i + 1)),by rw [← hpre,(linesL_cut hi).2,List.append_assoc];rfl⟩ (by omega) ((show Mem W0 [] ((lb,strO (r.drop (i + 1)))::(U xu++(rest++[]))) w from hm).pick (Pick.cnt fun x=>by simp only [nC];omega))))) (fun p23 hp23=>?_) (fun z23 hz23=>?_)
    ·refine RunE.pass_panic ?_
     refine RunE.block_panic ?_
     refine RunE.pass_panic ?_
     refine RunE.block_panic ?_
     exact fun _ w s=>⟨s.defers,p23.2,s.mem.pick (Pick.cnt fun x=>by simp only [nC];omega),.inr (.inl ⟨p23.1,rfl,hp23⟩)⟩
    refine RunLR.val (Val.pure rfl) rfl rfl rfl ?_
    refine RunLR.nil ?_
    refine RunER.next ?_
    refine RunCR.cond rfl ?_ ?_
    ·intro c2
     have c2':=c2;clear c2
     try simp only [nH] at c2'
     have hno:Ix z23.2:=hz23.elim (fun h=>absurd (h.1.symm.trans c2') (by decide)) (fun h=>h.2)
     refine RunCR.ret ?_
     refine RunE.block_ret ?_
     refine RunE.pass_ret ?_
     refine RunE.block_ret ?_
     exact RunE.ret (chg:=[]) (.r0 rfl) (fun _ hm=>⟨z23.2,hm.pick (Pick.cnt fun x=>by simp only [nC];omega),.inl ⟨_,rfl,.inr hno⟩⟩)
    intro c2
    have c2':=c2;clear c2
    try simp only [nH] at c2'
    have hyes:=hz23.resolve_right (fun h=>absurd (h.1.symm.trans c2') (by decide))
    refine RunCR.skip ?_
    refine st ?_
    exact RunE.roundX (z23.2,pre++[r.take (i + 1)],r.drop (i + 1)) (by omega) ⟨hyes.2,by (rw [List.append_assoc,← hpre,(linesL_cut hi).2];rfl),by simp [hlen],by (simp only [List.length_drop];omega)⟩ rfl (Sub.cons (t:=0) rfl (Sub.cons (t:=1) rfl (Sub.nil _))) (.cons .here rfl (Pick.refl _))
   intro c1
   have c1':=c1;clear c1
   try simp only [nH] at c1'
   have hi:Lib.indexByte r 10 < 0:=c1'
   refine RunCR.region ?_
   refine RunLR.val (Val.load_one rfl (.head _) ty_9 rfl) rfl rfl rfl ?_
   refine RunLR.val (Val.pure rfl) rfl rfl rfl ?_
   refine RunLR.sto (Sto.store rfl rfl .here ty_9 rfl rfl) rfl rfl ?_
   refine RunLR.nil ?_
   refine RunER.next ?_
   refine RunCR.seq ?_
   refine RunCR.region ?_
   refine RunLR.val (Val.pure rfl) rfl rfl rfl ?_
   refine RunLR.val (Val.pure rfl) rfl rfl rfl ?_
   refine RunLR.yieldQ (isYield_value rfl rfl) rfl rfl rfl (fun w hm=>(yield_of (α:=Str) (encs:=fun x=>[.string (bs x)]) (eb:=fun _=>[]) (U:=U) (I:=I) (Ix:=Ix) (Ip:=Ip) (pre:=pre) (v:=r) (N':=fun x=>(lb,strO [])::(U x++(rest++[]))) (tl:=(lb,strO [])::rest) (fun x=>(Pick.cnt fun x=>by simp only [nC];omega)) (hy pre r xu ((lb,strO [])::rest) w hI ⟨[],by rw [← hpre,linesL_last hi (by (intro h;rw [h] at hk;simp at hk)),List.append_nil]⟩ (by omega) ((show Mem W0 [] ((lb,strO [])::(U xu++(rest++[]))) w from hm).pick (Pick.cnt fun x=>by simp only [nC];omega))))) (fun p23 hp23=>?_) (fun z23 hz23=>?_)
   ·refine RunE.pass_panic ?_
    refine RunE.block_panic ?_
    refine RunE.pass_panic ?_
    refine RunE.block_panic ?_
    exact fun _ w s=>⟨s.defers,p23.2,s.mem.pick (Pick.cnt fun x=>by simp only [nC];omega),.inr (.inl ⟨p23.1,rfl,hp23⟩)⟩
   refine RunLR.val (Val.pure rfl) rfl rfl rfl ?_
   refine RunLR.nil ?_
   refine RunER.next ?_
   refine RunCR.cond rfl ?_ ?_
   ·intro c2
    have c2':=c2;clear c2
    try simp only [nH] at c2'
    have hno:Ix z23.2:=hz23.elim (fun h=>absurd (h.1.symm.trans c2') (by decide)) (fun h=>h.2)
    refine RunCR.ret ?_
    refine RunE.block_ret ?_
    refine RunE.pass_ret ?_
    refine RunE.block_ret ?_
    exact RunE.ret (chg:=[]) (.r0 rfl) (fun _ hm=>⟨z23.2,hm.pick (Pick.cnt fun x=>by simp only [nC];omega),.inl ⟨_,rfl,.inr hno⟩⟩)
   intro c2
   have c2':=c2;clear c2
   try simp only [nH] at c2'
   have hyes:=hz23.resolve_right (fun h=>absurd (h.1.symm.trans c2') (by decide))
   refine RunCR.skip ?_
   refine st ?_
   exact RunE.roundX (z23.2,pre++[r],[]) (by omega) ⟨hyes.2,by (rw [List.append_assoc,← hpre,linesL_last hi (by (intro h;rw [h] at hk;simp at hk))];rfl),by simp [hlen],by (simp only [List.length_nil];omega)⟩ rfl (Sub.cons (t:=0) rfl (Sub.cons (t:=1) rfl (Sub.nil _))) (.cons .here rfl (Pick.refl _))
  intro c0
  have c0':=c0;clear c0
  try simp only [nH] at c0'
  have hk:r=[]:=List.eq_nil_of_length_eq_zero (by omega)
  subst hk
  rw [show linesL []=[] from rfl,List.append_nil] at hpre
  refine RunCR.exit ?_
  refine RunE.pass_exit ?_
  refine RunE.pass_exit ?_
  refine RunE.block_here ?_
  exact RunE.fin (chg:=[]) (.r0 rfl) (fun _ hm=>⟨xu,hm.pick (Pick.cnt fun x=>by simp only [nC];omega),.inl ⟨_,rfl,.inl ⟨pre,hpre,hI⟩⟩⟩)
end Go.Proofs.YtleamcmljcdapaaGreatDoor
namespace Go.Proofs.YtleamcmljcdapaaGreatDoor
open Go Go.Eng
theorem ent_146:Enters Tryz.prog 146:=enters_of Tryz.func146 (by kernel_rfl) rfl
theorem ent_147:Enters Tryz.prog 147:=enters_of Tryz.func147 (by kernel_rfl) rfl
theorem ent_148:Enters Tryz.prog 148:=enters_of Tryz.func148 (by kernel_rfl) rfl
theorem ent_149:Enters Tryz.prog 149:=enters_of Tryz.func149 (by kernel_rfl) rfl
theorem ent_174:Enters Tryz.prog 174:=enters_of Tryz.func174 (by kernel_rfl) rfl
theorem places_197:placesB Tryz.prog 197=some [(0,1)]:=by kernel_rfl
theorem ty_204:tyB Tryz.prog 204=some (false,1):=by kernel_rfl
theorem zero_197:zeroB Tryz.prog 197=some [.slice none 0 0]:=by kernel_rfl
end Go.Proofs.YtleamcmljcdapaaGreatDoor
namespace Go.Bk
open Go Go.Eng Go.RowKit
structure LW where
  ws:List Str
  wb:Nat
  sb:Nat
def splitL (s:Str):List Str:=(Lib.splitB (bs [32]) 0 (Lib.countB (bs s) (bs [32])) (bs s)).map (·.data.toList)
def lineW (l:Str):List Str:=splitL (Lib.trimSuffix l [10])
theorem wdV_0 (sb n:Nat):wdV sb n 0 = .slice (some ⟨sb,0,none⟩) n n:=by unfold wdV;simp
theorem trim_len (l:Str):(Lib.trimSuffix l [10]).length≤l.length:=by
  unfold Lib.trimSuffix
  split <;> simp
theorem linesL_len:∀ (s:Str),(linesL s).length≤s.length
  | []=>Nat.le_refl _
  | c::s=>by
    have ih:=linesL_len s
    rw [linesL_cons]
    split
    · simpa using ih
    · split
      · simp
      · rename_i h;rw [h] at ih;simp only [List.length_cons] at ih ⊢;omega
theorem linesL_short:∀ (s:Str),∀ l∈linesL s,l.length≤s.length
  | [],l,h=>by cases h
  | c::s,l,h=>by
    have ih:=linesL_short s
    rw [linesL_cons] at h
    split at h
    · rcases List.mem_cons.1 h with rfl | h
      · simp
      · have:=ih l h;simp;omega
    · split at h
      · simp only [List.mem_singleton] at h;subst h;simp
      · rename_i h1
        rcases List.mem_cons.1 h with rfl | h
        · have:=ih _ (by rw [h1];exact List.mem_cons_self ..)
          simpa using this
        · have:=ih l (by rw [h1];exact List.mem_cons_of_mem _ h)
          simp;omega
end Go.Bk
namespace Go.Proofs.YtleamcmljcdapaaGreatDoor
open Go Go.Eng Go.Bk Go.RowKit

theorem split_calls (s:Str) (hs:s.length < 4294967281) (W:World) (hL:Lw Tryz.prog W):Calls Tryz.prog 148 #[.string (bs s),.string (bs [32])] W (News (fun sb:Nat=>wdV sb (splitL s).length 0) (fun sb=>[(sb,stO (splitL s))]) W):=by
  obtain ⟨m,hm⟩:=hL.mx
  refine calls_mono (Tryz.strings_Split (bs s) (bs [32]) m W hs hm (by decide)) ?_
  rintro e w' ⟨rfl,rfl⟩
  have hlen:=Lib.splitB_all (bs [32]) (by decide) 0 _ (bs s) rfl
  have hl2:(splitL s).length=Lib.countB (bs s) (bs [32]) + 1:=by unfold splitL;rw [List.length_map,hlen]
  refine ⟨W.heap.size,?_,?_⟩
  · show Ending.returned _=Ending.returned (wdV W.heap.size (splitL s).length 0)
    rw [wdV_0,hl2]
  · have h1:=(Mem.refl W).alloc (.cells ((Lib.splitB (bs [32]) 0 (Lib.countB (bs s) (bs [32])) (bs s)).map Value.string).toArray 9)
    have e:(splitL s).map (fun s=>Value.string (bs s))=(Lib.splitB (bs [32]) 0 (Lib.countB (bs s) (bs [32])) (bs s)).map Value.string:=by
      unfold splitL
      rw [List.map_map]
      rfl
    show Mem W [] [(W.heap.size,stO (splitL s))] _
    unfold stO
    rw [e]
    exact h1
theorem Lines_calls (s:Str) (W:World):Calls Tryz.prog 147 #[.string (bs s)] W (News (fun b:Nat=>.func (.func 174) #[] #[pV b]) (fun b=>[(b,strO s)]) W):=by
  refine calls_start Tryz.func147 rfl rfl ?_
  refine st ?_
  refine RunL.new (New.box rfl) rfl rfl rfl (fun b1=>?_)
  refine st ?_
  refine RunC.ret ?_
  exact RunE.ret (chg:=[]) (.r1 rfl (.tmp rfl)) (fun _ hm=>⟨b1,rfl,hm.pick (.cons .here rfl .nil)⟩)
theorem lines_calls (s:Str) (W:World):Calls Tryz.prog 103 #[.string (bs s)] W (News (fun b:Nat=>.func (.func 145) #[] #[pV b]) (fun b=>[(b,strO s)]) W):=by
  refine calls_start Tryz.func103 rfl rfl ?_
  refine st ?_
  refine RunL.new (New.box rfl) rfl rfl rfl (fun b1=>?_)
  refine st ?_
  refine RunC.ret ?_
  exact RunE.ret (chg:=[]) (.r1 rfl (.tmp rfl)) (fun _ hm=>⟨b1,rfl,hm.pick (.cons .here rfl .nil)⟩)
abbrev lwB (v:LW):Blks:=[(v.wb,wdO v.sb v.ws.length 0),(v.sb,stO v.ws)]
abbrev yO (l:Nat):Obj:=.cells [.func (.yield l) #[] #[]].toArray 204 (0,0)
theorem wordsIt (s:Str) (hs:s.length≤100000) (lb:Nat) (W0:World) (hL:Lw Tryz.prog W0):SeqQ Tryz.prog 145 #[pV lb] (fun x:LW=>[pV x.wb]) lwB [(lb,strO s)] misf (fun xs=>Lib.hasSuffix s [10]=true∧xs.map (·.ws)=(linesL s).map lineW) (fun xs=>Lib.hasSuffix s [10]=true∧xs.map (·.ws) <+: (linesL s).map lineW) (fun k xs=>k=8∧xs=[]∧Lib.hasSuffix s [10]=false) (s.length + 1) W0:=by
  intro X l0 U I Ix Ip rest w0 x0 hy i0 hm0
  have hm1:Mem W0 [] ((lb,strO s)::(U x0++(rest++[]))) w0:=hm0.pick (Pick.cnt fun x=>by simp only [List.nil_append,List.cons_append,List.count_append,List.count_cons,List.count_nil];omega)
  refine callsIn_calls (f:=145) (args:=[Value.func (.yield l0) #[] #[],pV lb].toArray) ?_
  refine calls_start_F hm1 Tryz.func145 rfl rfl ?_
  refine RunCF.seq ?_
  refine RunCF.of ?_
  refine st ?_
  refine RunL.new (New.box rfl) rfl rfl rfl (fun b2=>?_)
  refine st ?_
  refine RunEF.next ?_
  refine RunCF.seq ?_
  refine RunCF.of ?_
  refine st ?_
  refine lv (Val.load_one rfl (.tail _ (.head _)) ty_9 rfl) ?_
  refine RunL.callP (isCall_func rfl ent_146) rfl rfl rfl (fun w hm=>(hasSuffix_calls s [10] (by omega) w)) ?_
  refine RunL.callT (isCall_func rfl ent_67) rfl rfl rfl (fun w hm=>need_calls _ _ w) (fun e6 he6=>?_) (fun v6 hv6=>?_)
  ·obtain ⟨er6,rfl⟩:=need_err he6
   refine RunE.pass_panic ?_
   exact RunE.panMk [] (Pick.refl _) (fun w hm=>⟨x0,hm.pick (Pick.cnt fun x=>by simp only [nC,List.map_cons,List.map_nil,markB,dfrO];omega),.inr (.inr ⟨8,[],rfl,⟨rfl,rfl,er6⟩,i0⟩)⟩)
  obtain ⟨ok6,rfl⟩:=need_ok hv6
  refine st ?_
  refine RunEF.next ?_
  refine RunCF.seq ?_
  refine RunCF.of ?_
  refine st ?_
  refine lv (Val.load_one rfl (.tail _ (.head _)) ty_9 rfl) ?_
  refine RunL.callN (isCall_func rfl ent_147) rfl rfl rfl (fun w hm=>(Lines_calls s w)) (fun b8=>?_)
  refine st ?_
  refine RunEF.next ?_
  refine RunCF.block ?_
  refine RunCF.range Tryz.func145 (α:=Str) (X:=X) (enc:=fun x=>.string (bs x)) (eb:=fun _=>[]) (itb:=[(b8,strO s)]) (mis:=misf) (S:=fun xs=>xs=linesL s) (Sp:=fun xs=>xs <+: linesL s) (Sq:=fun _ _=>False) (N:=s.length + 1) (fun x=>(b2,yO l0)::U x) (fun pre x=>∃ pv:List LW,pv.map (·.ws)=pre.map lineW∧I pv x) (fun c x=>c = .ret∧Ix x) (Ip) x0 ⟨[],rfl,i0⟩ ((lb,strO s)::rest) (.cons (.there .here) rfl (Pick.cnt fun x=>by simp only [nC,List.map_cons,List.map_nil,markB,dfrO];omega)) rfl ent_174 (linesIt s hs b8 W0) rfl rfl (fun _=>rfl) rfl rfl rfl ?_ ?_ ?_ ?_ ?_
  ·intro l D ob pre v x tl hI hsp hlen
   obtain ⟨pv,hpv,hIv⟩:=hI
   have hvl:v.length≤s.length:=linesL_short s v (hsp.subset (by simp))
   have hpl:pv.length=pre.length:=by (have:=congrArg List.length hpv;simpa using this)
   refine RunCR.keep (Sub.refl _) (news':=(l,ob)::(D,dfrO)::(b2,yO l0)::(U x++(tl++[]))) (Pick.cnt fun x=>by simp only [nC,List.map_cons,List.map_nil,markB,dfrO];omega) ?_
   refine RunCR.block ?_
   refine RunCR.seq ?_
   refine RunCR.drawF fol_ ?_
   refine RunAF.all (rs:=[0,1]) (by kernel_rfl) (by simp) (fun m hm=>?_)
   simp only [List.mem_cons,List.not_mem_nil,or_false] at hm
   rcases hm with rfl | rfl
   ·refine RunIF.of rfl ?_
    refine RunI.val rfl (Val.load_one rfl (.tail _ (.tail _ (.head _))) ty_204 rfl) rfl rfl rfl (RunK.toAF ?_)
    refine RunAF.one (i:=1) (by kernel_rfl) ?_
    refine RunIF.of rfl ?_
    refine RunI.val rfl (Val.pure rfl) rfl rfl rfl (RunK.toAF ?_)
    refine RunAF.one (i:=2) (by kernel_rfl) ?_
    refine RunIF.of rfl ?_
    refine RunI.callP rfl (isCall_func rfl ent_149) rfl rfl rfl (fun w hm=>(trimSuffix_calls v [10] (by omega) w)) (RunK.toAF ?_)
    refine RunAF.one (i:=3) (by kernel_rfl) ?_
    refine RunIF.of rfl ?_
    refine RunI.callN rfl (isCall_func rfl ent_148) rfl rfl rfl (fun w hm=>(split_calls (Lib.trimSuffix v [10]) (by have:=trim_len v;omega) w (hL.mono hm))) (fun b13=>(RunK.toAF ?_))
    refine RunAF.one (i:=4) (by kernel_rfl) ?_
    refine RunIF.of rfl ?_
    refine RunI.val rfl (Val.build (parts:=[(0,.tmp 13)]) rfl zero_197 places_197 rfl) rfl rfl rfl (RunK.toAF ?_)
    refine RunAF.one (i:=5) (by kernel_rfl) ?_
    refine RunIF.of rfl ?_
    refine RunI.new rfl (New.box rfl) rfl rfl rfl (fun b15=>(RunK.toAF ?_))
    refine RunAF.one (i:=6) (by kernel_rfl) ?_
    refine RunIF.yieldQ rfl (isYield_value rfl rfl) rfl rfl rfl (fun w hm=>(yield_of (α:=LW) (encs:=fun x=>[pV x.wb]) (eb:=lwB) (U:=U) (I:=I) (Ix:=Ix) (Ip:=Ip) (pre:=pv) (v:=⟨lineW v,b15,b13⟩) (N':=fun x=>(l,ob)::(D,dfrO)::(b2,yO l0)::(U x++(tl++[]))) (tl:=(l,ob)::(D,dfrO)::(b2,yO l0)::tl) (fun x=>(Pick.cnt fun x=>by simp only [nC,List.map_cons,List.map_nil,markB,dfrO];omega)) (hy pv ⟨lineW v,b15,b13⟩ x ((l,ob)::(D,dfrO)::(b2,yO l0)::tl) w hIv ⟨ok6,by (rw [List.map_append,hpv];have h:=hsp.map lineW;rw [List.map_append] at h;exact h)⟩ (by omega) ((show Mem W0 [] ((b15,wdO b13 (lineW v).length 0)::(b13,stO (lineW v))::(l,ob)::(D,dfrO)::(b2,yO l0)::(U x++(tl++[]))) w from hm).pick (Pick.cnt fun x=>by simp only [nC,List.map_cons,List.map_nil,markB,dfrO];omega))))) (fun p16 hp16=>?_) (fun z16 hz16=>(RunK.toAF ?_))
    ·refine RunE.pass_panic ?_
     refine RunE.block_panic ?_
     exact RunE.bodyQ_panic p16.2 hp16 (Pick.cnt fun x=>by simp only [nC,List.map_cons,List.map_nil,markB,dfrO];omega)
    refine RunAF.one (i:=7) (by kernel_rfl) ?_
    refine RunIF.of rfl ?_
    refine RunI.val rfl (Val.pure rfl) rfl rfl rfl (RunK.toAF ?_)
    refine RunAF.done (by kernel_rfl) ?_
    refine RunER.next ?_
    refine RunCR.cond rfl ?_ ?_
    ·intro c0
     have c0':=c0;clear c0
     try simp only [nH] at c0'
     have hno:Ix z16.2:=hz16.elim (fun h=>absurd (h.1.symm.trans c0') (by decide)) (fun h=>h.2)
     refine RunCR.ret ?_
     refine RunE.block_ret ?_
     exact RunE.bodyQ_ret z16.2 ⟨rfl,hno⟩ (Pick.cnt fun x=>by simp only [nC,List.map_cons,List.map_nil,markB,dfrO];omega)
    intro c0
    have c0':=c0;clear c0
    try simp only [nH] at c0'
    have hyes:=hz16.resolve_right (fun h=>absurd (h.1.symm.trans c0') (by decide))
    refine RunCR.skip ?_
    refine st ?_
    exact RunE.bodyQ z16.2 ⟨pv++[⟨lineW v,b15,b13⟩],by simp [hpv],hyes.2⟩ (Pick.cnt fun x=>by simp only [nC,List.map_cons,List.map_nil,markB,dfrO];omega)
   refine RunIF.of rfl ?_
   refine RunI.val rfl (Val.pure rfl) rfl rfl rfl (RunK.toAF ?_)
   refine RunAF.all (rs:=[0,2]) (by kernel_rfl) (by simp) (fun m hm=>?_)
   simp only [List.mem_cons,List.not_mem_nil,or_false] at hm
   rcases hm with rfl | rfl
   ·refine RunIF.of rfl ?_
    refine RunI.val rfl (Val.load_one rfl (.tail _ (.tail _ (.head _))) ty_204 rfl) rfl rfl rfl (RunK.toAF ?_)
    refine RunAF.one (i:=2) (by kernel_rfl) ?_
    refine RunIF.of rfl ?_
    refine RunI.callP rfl (isCall_func rfl ent_149) rfl rfl rfl (fun w hm=>(trimSuffix_calls v [10] (by omega) w)) (RunK.toAF ?_)
    refine RunAF.one (i:=3) (by kernel_rfl) ?_
    refine RunIF.of rfl ?_
    refine RunI.callN rfl (isCall_func rfl ent_148) rfl rfl rfl (fun w hm=>(split_calls (Lib.trimSuffix v [10]) (by have:=trim_len v;omega) w (hL.mono hm))) (fun b13=>(RunK.toAF ?_))
    refine RunAF.one (i:=4) (by kernel_rfl) ?_
    refine RunIF.of rfl ?_
    refine RunI.val rfl (Val.build (parts:=[(0,.tmp 13)]) rfl zero_197 places_197 rfl) rfl rfl rfl (RunK.toAF ?_)
    refine RunAF.one (i:=5) (by kernel_rfl) ?_
    refine RunIF.of rfl ?_
    refine RunI.new rfl (New.box rfl) rfl rfl rfl (fun b15=>(RunK.toAF ?_))
    refine RunAF.one (i:=6) (by kernel_rfl) ?_
    refine RunIF.yieldQ rfl (isYield_value rfl rfl) rfl rfl rfl (fun w hm=>(yield_of (α:=LW) (encs:=fun x=>[pV x.wb]) (eb:=lwB) (U:=U) (I:=I) (Ix:=Ix) (Ip:=Ip) (pre:=pv) (v:=⟨lineW v,b15,b13⟩) (N':=fun x=>(l,ob)::(D,dfrO)::(b2,yO l0)::(U x++(tl++[]))) (tl:=(l,ob)::(D,dfrO)::(b2,yO l0)::tl) (fun x=>(Pick.cnt fun x=>by simp only [nC,List.map_cons,List.map_nil,markB,dfrO];omega)) (hy pv ⟨lineW v,b15,b13⟩ x ((l,ob)::(D,dfrO)::(b2,yO l0)::tl) w hIv ⟨ok6,by (rw [List.map_append,hpv];have h:=hsp.map lineW;rw [List.map_append] at h;exact h)⟩ (by omega) ((show Mem W0 [] ((b15,wdO b13 (lineW v).length 0)::(b13,stO (lineW v))::(l,ob)::(D,dfrO)::(b2,yO l0)::(U x++(tl++[]))) w from hm).pick (Pick.cnt fun x=>by simp only [nC,List.map_cons,List.map_nil,markB,dfrO];omega))))) (fun p16 hp16=>?_) (fun z16 hz16=>(RunK.toAF ?_))
    ·refine RunE.pass_panic ?_
     refine RunE.block_panic ?_
     exact RunE.bodyQ_panic p16.2 hp16 (Pick.cnt fun x=>by simp only [nC,List.map_cons,List.map_nil,markB,dfrO];omega)
    refine RunAF.one (i:=7) (by kernel_rfl) ?_
    refine RunIF.of rfl ?_
    refine RunI.val rfl (Val.pure rfl) rfl rfl rfl (RunK.toAF ?_)
    refine RunAF.done (by kernel_rfl) ?_
    refine RunER.next ?_
    refine RunCR.cond rfl ?_ ?_
    ·intro c0
     have c0':=c0;clear c0
     try simp only [nH] at c0'
     have hno:Ix z16.2:=hz16.elim (fun h=>absurd (h.1.symm.trans c0') (by decide)) (fun h=>h.2)
     refine RunCR.ret ?_
     refine RunE.block_ret ?_
     exact RunE.bodyQ_ret z16.2 ⟨rfl,hno⟩ (Pick.cnt fun x=>by simp only [nC,List.map_cons,List.map_nil,markB,dfrO];omega)
    intro c0
    have c0':=c0;clear c0
    try simp only [nH] at c0'
    have hyes:=hz16.resolve_right (fun h=>absurd (h.1.symm.trans c0') (by decide))
    refine RunCR.skip ?_
    refine st ?_
    exact RunE.bodyQ z16.2 ⟨pv++[⟨lineW v,b15,b13⟩],by simp [hpv],hyes.2⟩ (Pick.cnt fun x=>by simp only [nC,List.map_cons,List.map_nil,markB,dfrO];omega)
   refine RunIF.of rfl ?_
   refine RunI.callP rfl (isCall_func rfl ent_149) rfl rfl rfl (fun w hm=>(trimSuffix_calls v [10] (by omega) w)) (RunK.toAF ?_)
   refine RunAF.all (rs:=[0,3]) (by kernel_rfl) (by simp) (fun m hm=>?_)
   simp only [List.mem_cons,List.not_mem_nil,or_false] at hm
   rcases hm with rfl | rfl
   ·refine RunIF.of rfl ?_
    refine RunI.val rfl (Val.load_one rfl (.tail _ (.tail _ (.head _))) ty_204 rfl) rfl rfl rfl (RunK.toAF ?_)
    refine RunAF.one (i:=3) (by kernel_rfl) ?_
    refine RunIF.of rfl ?_
    refine RunI.callN rfl (isCall_func rfl ent_148) rfl rfl rfl (fun w hm=>(split_calls (Lib.trimSuffix v [10]) (by have:=trim_len v;omega) w (hL.mono hm))) (fun b13=>(RunK.toAF ?_))
    refine RunAF.one (i:=4) (by kernel_rfl) ?_
    refine RunIF.of rfl ?_
    refine RunI.val rfl (Val.build (parts:=[(0,.tmp 13)]) rfl zero_197 places_197 rfl) rfl rfl rfl (RunK.toAF ?_)
    refine RunAF.one (i:=5) (by kernel_rfl) ?_
    refine RunIF.of rfl ?_
    refine RunI.new rfl (New.box rfl) rfl rfl rfl (fun b15=>(RunK.toAF ?_))
    refine RunAF.one (i:=6) (by kernel_rfl) ?_
    refine RunIF.yieldQ rfl (isYield_value rfl rfl) rfl rfl rfl (fun w hm=>(yield_of (α:=LW) (encs:=fun x=>[pV x.wb]) (eb:=lwB) (U:=U) (I:=I) (Ix:=Ix) (Ip:=Ip) (pre:=pv) (v:=⟨lineW v,b15,b13⟩) (N':=fun x=>(l,ob)::(D,dfrO)::(b2,yO l0)::(U x++(tl++[]))) (tl:=(l,ob)::(D,dfrO)::(b2,yO l0)::tl) (fun x=>(Pick.cnt fun x=>by simp only [nC,List.map_cons,List.map_nil,markB,dfrO];omega)) (hy pv ⟨lineW v,b15,b13⟩ x ((l,ob)::(D,dfrO)::(b2,yO l0)::tl) w hIv ⟨ok6,by (rw [List.map_append,hpv];have h:=hsp.map lineW;rw [List.map_append] at h;exact h)⟩ (by omega) ((show Mem W0 [] ((b15,wdO b13 (lineW v).length 0)::(b13,stO (lineW v))::(l,ob)::(D,dfrO)::(b2,yO l0)::(U x++(tl++[]))) w from hm).pick (Pick.cnt fun x=>by simp only [nC,List.map_cons,List.map_nil,markB,dfrO];omega))))) (fun p16 hp16=>?_) (fun z16 hz16=>(RunK.toAF ?_))
    ·refine RunE.pass_panic ?_
     refine RunE.block_panic ?_
     exact RunE.bodyQ_panic p16.2 hp16 (Pick.cnt fun x=>by simp only [nC,List.map_cons,List.map_nil,markB,dfrO];omega)
    refine RunAF.one (i:=7) (by kernel_rfl) ?_
    refine RunIF.of rfl ?_
    refine RunI.val rfl (Val.pure rfl) rfl rfl rfl (RunK.toAF ?_)
    refine RunAF.done (by kernel_rfl) ?_
    refine RunER.next ?_
    refine RunCR.cond rfl ?_ ?_
    ·intro c0
     have c0':=c0;clear c0
     try simp only [nH] at c0'
     have hno:Ix z16.2:=hz16.elim (fun h=>absurd (h.1.symm.trans c0') (by decide)) (fun h=>h.2)
     refine RunCR.ret ?_
     refine RunE.block_ret ?_
     exact RunE.bodyQ_ret z16.2 ⟨rfl,hno⟩ (Pick.cnt fun x=>by simp only [nC,List.map_cons,List.map_nil,markB,dfrO];omega)
    intro c0
    have c0':=c0;clear c0
    try simp only [nH] at c0'
    have hyes:=hz16.resolve_right (fun h=>absurd (h.1.symm.trans c0') (by decide))
    refine RunCR.skip ?_
    refine st ?_
    exact RunE.bodyQ z16.2 ⟨pv++[⟨lineW v,b15,b13⟩],by simp [hpv],hyes.2⟩ (Pick.cnt fun x=>by simp only [nC,List.map_cons,List.map_nil,markB,dfrO];omega)
   refine RunIF.of rfl ?_
   refine RunI.callN rfl (isCall_func rfl ent_148) rfl rfl rfl (fun w hm=>(split_calls (Lib.trimSuffix v [10]) (by have:=trim_len v;omega) w (hL.mono hm))) (fun b13=>(RunK.toAF ?_))
   refine RunAF.all (rs:=[0,4]) (by kernel_rfl) (by simp) (fun m hm=>?_)
   simp only [List.mem_cons,List.not_mem_nil,or_false] at hm
   rcases hm with rfl | rfl
   ·refine RunIF.of rfl ?_
    refine RunI.val rfl (Val.load_one rfl (.tail _ (.tail _ (.tail _ (.head _)))) ty_204 rfl) rfl rfl rfl (RunK.toAF ?_)
    refine RunAF.one (i:=4) (by kernel_rfl) ?_
    refine RunIF.of rfl ?_
    refine RunI.val rfl (Val.build (parts:=[(0,.tmp 13)]) rfl zero_197 places_197 rfl) rfl rfl rfl (RunK.toAF ?_)
    refine RunAF.one (i:=5) (by kernel_rfl) ?_
    refine RunIF.of rfl ?_
    refine RunI.new rfl (New.box rfl) rfl rfl rfl (fun b15=>(RunK.toAF ?_))
    refine RunAF.one (i:=6) (by kernel_rfl) ?_
    refine RunIF.yieldQ rfl (isYield_value rfl rfl) rfl rfl rfl (fun w hm=>(yield_of (α:=LW) (encs:=fun x=>[pV x.wb]) (eb:=lwB) (U:=U) (I:=I) (Ix:=Ix) (Ip:=Ip) (pre:=pv) (v:=⟨lineW v,b15,b13⟩) (N':=fun x=>(l,ob)::(D,dfrO)::(b2,yO l0)::(U x++(tl++[]))) (tl:=(l,ob)::(D,dfrO)::(b2,yO l0)::tl) (fun x=>(Pick.cnt fun x=>by simp only [nC,List.map_cons,List.map_nil,markB,dfrO];omega)) (hy pv ⟨lineW v,b15,b13⟩ x ((l,ob)::(D,dfrO)::(b2,yO l0)::tl) w hIv ⟨ok6,by (rw [List.map_append,hpv];have h:=hsp.map lineW;rw [List.map_append] at h;exact h)⟩ (by omega) ((show Mem W0 [] ((b15,wdO b13 (lineW v).length 0)::(b13,stO (lineW v))::(l,ob)::(D,dfrO)::(b2,yO l0)::(U x++(tl++[]))) w from hm).pick (Pick.cnt fun x=>by simp only [nC,List.map_cons,List.map_nil,markB,dfrO];omega))))) (fun p16 hp16=>?_) (fun z16 hz16=>(RunK.toAF ?_))
    ·refine RunE.pass_panic ?_
     refine RunE.block_panic ?_
     exact RunE.bodyQ_panic p16.2 hp16 (Pick.cnt fun x=>by simp only [nC,List.map_cons,List.map_nil,markB,dfrO];omega)
    refine RunAF.one (i:=7) (by kernel_rfl) ?_
    refine RunIF.of rfl ?_
    refine RunI.val rfl (Val.pure rfl) rfl rfl rfl (RunK.toAF ?_)
    refine RunAF.done (by kernel_rfl) ?_
    refine RunER.next ?_
    refine RunCR.cond rfl ?_ ?_
    ·intro c0
     have c0':=c0;clear c0
     try simp only [nH] at c0'
     have hno:Ix z16.2:=hz16.elim (fun h=>absurd (h.1.symm.trans c0') (by decide)) (fun h=>h.2)
     refine RunCR.ret ?_
     refine RunE.block_ret ?_
     exact RunE.bodyQ_ret z16.2 ⟨rfl,hno⟩ (Pick.cnt fun x=>by simp only [nC,List.map_cons,List.map_nil,markB,dfrO];omega)
    intro c0
    have c0':=c0;clear c0
    try simp only [nH] at c0'
    have hyes:=hz16.resolve_right (fun h=>absurd (h.1.symm.trans c0') (by decide))
    refine RunCR.skip ?_
    refine st ?_
    exact RunE.bodyQ z16.2 ⟨pv++[⟨lineW v,b15,b13⟩],by simp [hpv],hyes.2⟩ (Pick.cnt fun x=>by simp only [nC,List.map_cons,List.map_nil,markB,dfrO];omega)
   refine RunIF.of rfl ?_
   refine RunI.val rfl (Val.build (parts:=[(0,.tmp 13)]) rfl zero_197 places_197 rfl) rfl rfl rfl (RunK.toAF ?_)
   refine RunAF.all (rs:=[0,5]) (by kernel_rfl) (by simp) (fun m hm=>?_)
   simp only [List.mem_cons,List.not_mem_nil,or_false] at hm
   rcases hm with rfl | rfl
   ·refine RunIF.of rfl ?_
    refine RunI.val rfl (Val.load_one rfl (.tail _ (.tail _ (.tail _ (.head _)))) ty_204 rfl) rfl rfl rfl (RunK.toAF ?_)
    refine RunAF.one (i:=5) (by kernel_rfl) ?_
    refine RunIF.of rfl ?_
    refine RunI.new rfl (New.box rfl) rfl rfl rfl (fun b15=>(RunK.toAF ?_))
    refine RunAF.one (i:=6) (by kernel_rfl) ?_
    refine RunIF.yieldQ rfl (isYield_value rfl rfl) rfl rfl rfl (fun w hm=>(yield_of (α:=LW) (encs:=fun x=>[pV x.wb]) (eb:=lwB) (U:=U) (I:=I) (Ix:=Ix) (Ip:=Ip) (pre:=pv) (v:=⟨lineW v,b15,b13⟩) (N':=fun x=>(l,ob)::(D,dfrO)::(b2,yO l0)::(U x++(tl++[]))) (tl:=(l,ob)::(D,dfrO)::(b2,yO l0)::tl) (fun x=>(Pick.cnt fun x=>by simp only [nC,List.map_cons,List.map_nil,markB,dfrO];omega)) (hy pv ⟨lineW v,b15,b13⟩ x ((l,ob)::(D,dfrO)::(b2,yO l0)::tl) w hIv ⟨ok6,by (rw [List.map_append,hpv];have h:=hsp.map lineW;rw [List.map_append] at h;exact h)⟩ (by omega) ((show Mem W0 [] ((b15,wdO b13 (lineW v).length 0)::(b13,stO (lineW v))::(l,ob)::(D,dfrO)::(b2,yO l0)::(U x++(tl++[]))) w from hm).pick (Pick.cnt fun x=>by simp only [nC,List.map_cons,List.map_nil,markB,dfrO];omega))))) (fun p16 hp16=>?_) (fun z16 hz16=>(RunK.toAF ?_))
    ·refine RunE.pass_panic ?_
     refine RunE.block_panic ?_
     exact RunE.bodyQ_panic p16.2 hp16 (Pick.cnt fun x=>by simp only [nC,List.map_cons,List.map_nil,markB,dfrO];omega)
    refine RunAF.one (i:=7) (by kernel_rfl) ?_
    refine RunIF.of rfl ?_
    refine RunI.val rfl (Val.pure rfl) rfl rfl rfl (RunK.toAF ?_)
    refine RunAF.done (by kernel_rfl) ?_
    refine RunER.next ?_
    refine RunCR.cond rfl ?_ ?_
    ·intro c0
     have c0':=c0;clear c0
     try simp only [nH] at c0'
     have hno:Ix z16.2:=hz16.elim (fun h=>absurd (h.1.symm.trans c0') (by decide)) (fun h=>h.2)
     refine RunCR.ret ?_
     refine RunE.block_ret ?_
     exact RunE.bodyQ_ret z16.2 ⟨rfl,hno⟩ (Pick.cnt fun x=>by simp only [nC,List.map_cons,List.map_nil,markB,dfrO];omega)
    intro c0
    have c0':=c0;clear c0
    try simp only [nH] at c0'
    have hyes:=hz16.resolve_right (fun h=>absurd (h.1.symm.trans c0') (by decide))
    refine RunCR.skip ?_
    refine st ?_
    exact RunE.bodyQ z16.2 ⟨pv++[⟨lineW v,b15,b13⟩],by simp [hpv],hyes.2⟩ (Pick.cnt fun x=>by simp only [nC,List.map_cons,List.map_nil,markB,dfrO];omega)
   refine RunIF.of rfl ?_
   refine RunI.new rfl (New.box rfl) rfl rfl rfl (fun b15=>(RunK.toAF ?_))
   refine RunAF.one (i:=0) (by kernel_rfl) ?_
   refine RunIF.of rfl ?_
   refine RunI.val rfl (Val.load_one rfl (.tail _ (.tail _ (.tail _ (.tail _ (.head _))))) ty_204 rfl) rfl rfl rfl (RunK.toAF ?_)
   refine RunAF.one (i:=6) (by kernel_rfl) ?_
   refine RunIF.yieldQ rfl (isYield_value rfl rfl) rfl rfl rfl (fun w hm=>(yield_of (α:=LW) (encs:=fun x=>[pV x.wb]) (eb:=lwB) (U:=U) (I:=I) (Ix:=Ix) (Ip:=Ip) (pre:=pv) (v:=⟨lineW v,b15,b13⟩) (N':=fun x=>(l,ob)::(D,dfrO)::(b2,yO l0)::(U x++(tl++[]))) (tl:=(l,ob)::(D,dfrO)::(b2,yO l0)::tl) (fun x=>(Pick.cnt fun x=>by simp only [nC,List.map_cons,List.map_nil,markB,dfrO];omega)) (hy pv ⟨lineW v,b15,b13⟩ x ((l,ob)::(D,dfrO)::(b2,yO l0)::tl) w hIv ⟨ok6,by (rw [List.map_append,hpv];have h:=hsp.map lineW;rw [List.map_append] at h;exact h)⟩ (by omega) ((show Mem W0 [] ((b15,wdO b13 (lineW v).length 0)::(b13,stO (lineW v))::(l,ob)::(D,dfrO)::(b2,yO l0)::(U x++(tl++[]))) w from hm).pick (Pick.cnt fun x=>by simp only [nC,List.map_cons,List.map_nil,markB,dfrO];omega))))) (fun p16 hp16=>?_) (fun z16 hz16=>(RunK.toAF ?_))
   ·refine RunE.pass_panic ?_
    refine RunE.block_panic ?_
    exact RunE.bodyQ_panic p16.2 hp16 (Pick.cnt fun x=>by simp only [nC,List.map_cons,List.map_nil,markB,dfrO];omega)
   refine RunAF.one (i:=7) (by kernel_rfl) ?_
   refine RunIF.of rfl ?_
   refine RunI.val rfl (Val.pure rfl) rfl rfl rfl (RunK.toAF ?_)
   refine RunAF.done (by kernel_rfl) ?_
   refine RunER.next ?_
   refine RunCR.cond rfl ?_ ?_
   ·intro c0
    have c0':=c0;clear c0
    try simp only [nH] at c0'
    have hno:Ix z16.2:=hz16.elim (fun h=>absurd (h.1.symm.trans c0') (by decide)) (fun h=>h.2)
    refine RunCR.ret ?_
    refine RunE.block_ret ?_
    exact RunE.bodyQ_ret z16.2 ⟨rfl,hno⟩ (Pick.cnt fun x=>by simp only [nC,List.map_cons,List.map_nil,markB,dfrO];omega)
   intro c0
   have c0':=c0;clear c0
   try simp only [nH] at c0'
   have hyes:=hz16.resolve_right (fun h=>absurd (h.1.symm.trans c0') (by decide))
   refine RunCR.skip ?_
   refine st ?_
   exact RunE.bodyQ z16.2 ⟨pv++[⟨lineW v,b15,b13⟩],by simp [hpv],hyes.2⟩ (Pick.cnt fun x=>by simp only [nC,List.map_cons,List.map_nil,markB,dfrO];omega)
  ·intro D xs x hS hI
   obtain ⟨pv,hpv,hIv⟩:=hI
   subst hS
   refine st ?_
   exact RunE.outM_fin (news2:=U x++(rest++[])) [D] (Pick.cnt fun x=>by simp only [nC,List.map_cons,List.map_nil,markB,dfrO];omega) (.r0 rfl) (fun w hm=>⟨x,hm.pick (Pick.cnt fun x=>by simp only [nC,List.map_cons,List.map_nil,markB,dfrO];omega),.inl ⟨_,rfl,.inl ⟨pv,⟨ok6,hpv⟩,hIv⟩⟩⟩)
  ·intro D c x hst
   obtain ⟨rfl,hix⟩:=hst
   refine RunCF.of ?_
   refine RunC.ret ?_
   refine RunE.block_ret ?_
   exact RunE.outM (news2:=U x++(rest++[])) [D] (Pick.cnt fun x=>by simp only [nC,List.map_cons,List.map_nil,markB,dfrO];omega) (.r0 rfl) (fun w hm=>⟨x,hm.pick (Pick.cnt fun x=>by simp only [nC,List.map_cons,List.map_nil,markB,dfrO];omega),.inl ⟨_,rfl,.inr hix⟩⟩)
  ·intro D c x hp
   refine RunE.block_panic ?_
   exact RunE.panMk (news2:=U x++(rest++[])) [D] (Pick.cnt fun x=>by simp only [nC,List.map_cons,List.map_nil,markB,dfrO];omega) (fun w hm=>⟨x,hm.pick (Pick.cnt fun x=>by simp only [nC,List.map_cons,List.map_nil,markB,dfrO];omega),.inr (.inl ⟨c,rfl,hp⟩)⟩)
  intro D k xs x hq hI
  exact hq.elim
end Go.Proofs.YtleamcmljcdapaaGreatDoor
namespace Go.Proofs.YtleamcmljcdapaaGreatDoor
open Go Go.Eng
theorem fld_189_0:fieldB Tryz.prog 189 0=some 0:=by kernel_rfl
theorem places_40:placesB Tryz.prog 40=some [(0,1),(1,2),(3,2)]:=by kernel_rfl
theorem ty_189:tyB Tryz.prog 189=some (true,1):=by kernel_rfl
theorem ty_42:tyB Tryz.prog 42=some (false,1):=by kernel_rfl
theorem und_20:Tryz.prog.underlying 20=some (.interface #[]):=by kernel_rfl
theorem zero_25:zeroB Tryz.prog 25=some [.int .i64 0,.slice none 0 0,.slice none 0 0,.slice none 0 0,.slice none 0 0]:=by kernel_rfl
theorem zero_30:zeroB Tryz.prog 30=some [.int .i64 0,.slice none 0 0,.int .i64 0,.slice none 0 0]:=by kernel_rfl
theorem zero_35:zeroB Tryz.prog 35=some [.slice none 0 0,.slice none 0 0,.slice none 0 0,.slice none 0 0,.slice none 0 0]:=by kernel_rfl
theorem zero_40:zeroB Tryz.prog 40=some [.slice none 0 0,.int .i64 0,.int .i64 0,.int .i64 0,.int .i64 0]:=by kernel_rfl
end Go.Proofs.YtleamcmljcdapaaGreatDoor
namespace Go.Eng
open Go Go.RowKit
section
variable {P:Program} {n:Nat} {r:Regs} {W:World} {news:Blks}
theorem Mem.also {w w':World} {be bx:Nat} {o ox:Obj} (h:Mem w [(be,o)] [] w') (hx:w.heap[bx]? = some ox) (hne:be ≠ bx):Mem w [(be,o),(bx,ox)] [] w' :=
  ⟨h.os,h.tape,h.output,h.size,fun k hk hc=>h.old k hk (fun o2 ho=>hc o2 (by simp only [List.mem_cons,List.not_mem_nil,or_false] at ho ⊢;exact .inl ho)),fun b o2 hb=>by
    simp only [List.mem_cons,List.not_mem_nil,or_false,Prod.mk.injEq] at hb
    rcases hb with ⟨rfl,rfl⟩ | ⟨rfl,rfl⟩
    · exact h.chgd _ _ (by simp)
    · have hlt:b < w.heap.size:=by
        rcases Nat.lt_or_ge b w.heap.size with h2 | h2
        · exact h2
        · rw [Array.getElem?_eq_none h2] at hx;cases hx
      exact ⟨hlt,by rw [h.old b hlt (fun o2 ho=>by simp at ho;exact hne ho.1.symm)];exact hx⟩,fun _ _ h=>(by cases h),by simp [hne]⟩
theorem wp_of_RunC {P:Program} {Q:Exit→Act→World→Prop} {n:Nat} {c:Code} {r:Regs} {ds:List Deferred} {W:World} {chg news:Blks} {a:Act} {w:World} (h:RunC P Q n c r ds W chg news) (s:St n r ds W chg news a w):c.wp P Q a w:=h a w s
theorem agree2 (a b:Value) (arr:Array Value) (ds:List Deferred):Agree { tmps:=#[a,b]++arr,defers:=ds } [(0,a),(1,b)]:=fun t v h=>by
  rcases t with _ | _ | t
  · have h2:some a=some v:=h
    cases h2
    show (#[a,b]++arr)[0]? = some a
    rw [Array.getElem?_append_left (by simp)]
    rfl
  · have h2:some b=some v:=h
    cases h2
    show (#[a,b]++arr)[1]? = some b
    rw [Array.getElem?_append_left (by simp)]
    rfl
  · have h2:none=some v:=h
    cases h2
structure Catches2 (P:Program) (f:FuncId) (Te Tx:TypeId) (zs:List Value) (mis:Int→Value):Prop where
  calm:∀ (be bx:Nat) (w:World),w.heap[be]? = some (.cells [.int .i64 0].toArray Te (0,0))→CallsDIn Fence.wide 8 P f #[.pointer (some ⟨be,0,none⟩),.pointer (some ⟨bx,0,none⟩)] .returning w fun e u w'=>(∃ v,e = .returned v)∧u = .returning∧Mem w [] [] w'
  wild:∀ (be bx:Nat) (k:Int) (cs:List Value) (w:World),k ≠ 0→w.heap[be]? = some (.cells [.int .i64 0].toArray Te (0,0))→w.heap[bx]? = some (.cells cs.toArray Tx (0,0))→be ≠ bx→cs.length=zs.length→CallsDIn Fence.wide 8 P f #[.pointer (some ⟨be,0,none⟩),.pointer (some ⟨bx,0,none⟩)] (.panicking [{ v:=mis k,recovered:=false }]) w fun e u w' =>
    (∃ v,e = .returned v)∧u = .panicking [{ v:=mis k,recovered:=true }]∧Mem w [(be,.cells [.int .i64 k].toArray Te (0,0)),(bx,.cells zs.toArray Tx (0,0))] [] w'
variable {fn:Func} {f:FuncId} {Te Tx:TypeId} {zs:List Value} {mis:Int→Value} {R:Ending→World→Prop} {v:Value} {be bx:Nat}
theorem leaves_calm2 {news2:Blks} {a:Act} (hc:Catches2 P f Te Tx zs mis) (he:Enters P f) (hb:(be,.cells [.int .i64 0].toArray Te (0,0))∈news2) (hag:Agree a r) (hv:ResVs P r ([]++news2) fn v) (hR:∀ w,Mem W [] news2 w→R (.returned v) w) :
    ∀ w,Mem W [] news2 w→LeavesInM Fence.wide 9 P fn a.tmps R [{ target:=.fn (.func f) #[.pointer (some ⟨be,0,none⟩),.pointer (some ⟨bx,0,none⟩)],args:=#[] }] .returning w:=fun w hm=>by
  refine ⟨by simp,.inr ⟨fun h=>(by cases h),_,_,f,#[.pointer (some ⟨be,0,none⟩),.pointer (some ⟨bx,0,none⟩)],rfl,by simp [invoke];exact he _ _,fun _ _=>trivial,(hc.calm be bx w (hm.newd _ _ hb).2).mono ?_⟩⟩
  rintro e u w' ⟨⟨x,rfl⟩,rfl,hm'⟩
  have hm2:=hm.pass hm'
  exact ⟨v,hv.run hag (fun _ _ h=>hm2.at h),hR _ hm2⟩
theorem RunE.outC2 {news2:Blks} (Ds:List Nat) (hc:Catches2 P f Te Tx zs mis) (he:Enters P f) (hp:Pick (Ds.map markB++news2) news) (hb:(be,.cells [.int .i64 0].toArray Te (0,0))∈news2) (hv:ResVs P r ([]++news2) fn v) (hR:∀ w,Mem W [] news2 w→R (.returned v) w) :
    RunE (bodyPostM Fence.wide 9 P fn R) n .ret r (Ds.map markD++[{ target:=.fn (.func f) #[.pointer (some ⟨be,0,none⟩),.pointer (some ⟨bx,0,none⟩)],args:=#[] }]) W [] news:=fun a w s=>by
  show LeavesInM _ _ _ _ _ _ a.defers _ w
  rw [s.defers]
  exact leavesM_marksU (by simp) (leaves_calm2 hc he hb s.agree hv hR) Ds w (s.mem.pick hp)
theorem RunE.panC2 {k:Int} {cs:List Value} {rest:Blks} (Ds:List Nat) (hc:Catches2 P f Te Tx zs mis) (he:Enters P f) (hk:k ≠ 0) (hl:cs.length=zs.length) (hp:Pick (Ds.map markB++((be,.cells [.int .i64 0].toArray Te (0,0))::(bx,.cells cs.toArray Tx (0,0))::rest)) news)
    (hv:ResVs P r ([]++((be,.cells [.int .i64 k].toArray Te (0,0))::(bx,.cells zs.toArray Tx (0,0))::rest)) fn v) (hR:∀ w,Mem W [] ((be,.cells [.int .i64 k].toArray Te (0,0))::(bx,.cells zs.toArray Tx (0,0))::rest) w→R (.returned v) w) :
    RunE (bodyPostM Fence.wide 9 P fn R) n (.panic [{ v:=mis k,recovered:=false }]) r (Ds.map markD++[{ target:=.fn (.func f) #[.pointer (some ⟨be,0,none⟩),.pointer (some ⟨bx,0,none⟩)],args:=#[] }]) W [] news:=fun a w s=>by
  show LeavesInM _ _ _ _ _ _ a.defers _ w
  rw [s.defers]
  refine leavesM_marksU (news2:=(be,.cells [.int .i64 0].toArray Te (0,0))::(bx,.cells cs.toArray Tx (0,0))::rest) (by simp) (fun w hm=>?_) Ds w (s.mem.pick hp)
  have hbe:=hm.newd be _ (List.mem_cons_self ..)
  have hbx:=hm.newd bx _ (List.mem_cons_of_mem _ (List.mem_cons_self ..))
  have hne:be ≠ bx:=fun e=>by
    have h1:=hm.once
    subst e
    simp at h1
  refine ⟨by simp,.inr ⟨fun h=>(by cases h),_,_,f,#[.pointer (some ⟨be,0,none⟩),.pointer (some ⟨bx,0,none⟩)],rfl,by simp [invoke];exact he _ _,fun _ _=>trivial,(hc.wild be bx k cs w hk hbe.2 hbx.2 hne hl).mono ?_⟩⟩
  rintro e u w' ⟨⟨y,rfl⟩,rfl,hm'⟩
  have hm2:Mem W [] ((be,.cells [.int .i64 k].toArray Te (0,0))::(bx,.cells zs.toArray Tx (0,0))::rest) w' :=
    Mem.round (V:=[(be,.cells [.int .i64 0].toArray Te (0,0)),(bx,.cells cs.toArray Tx (0,0))]) (V':=[(be,.cells [.int .i64 k].toArray Te (0,0)),(bx,.cells zs.toArray Tx (0,0))]) hm hm' rfl
  exact ⟨v,hv.run s.agree (fun _ _ h=>hm2.at h),hR _ hm2⟩
end
end Go.Eng
namespace Go.Proofs.YtleamcmljcdapaaGreatDoor
open Go Go.Eng Go.Bk Go.RowKit

theorem caught_nil (b:Nat) (W:World):Calls Tryz.prog 66 #[.nilIface,.pointer (some ⟨b,0,none⟩)] W (Pure (.tuple #[]) W):=by
  refine calls_start Tryz.func66 rfl rfl ?_
  refine st ?_
  refine lv (Val.eql_nil_nil rfl und_20) ?_
  refine RunC.cond rfl ?_ (fun h=>absurd h (by simp))
  intro c0
  clear c0
  refine RunC.ret ?_
  refine RunE.pass_ret ?_
  exact RunE.retP (.r0 rfl) (by first | rfl | simp)
theorem caught_mis (b:Nat) (k:Int) (x:Value) (W:World) (hb:W.heap[b]? = some (.cells #[x] 42 (0,0))):Calls Tryz.prog 66 #[misf k,.pointer (some ⟨b,0,none⟩)] W (Turns b (.cells #[.int .i64 k] 42 (0,0)) (.tuple #[]) W):=by
  refine calls_start_chg hb Tryz.func66 rfl rfl ?_
  refine st ?_
  refine lv (Val.eql_iface_nil rfl und_20) ?_
  refine RunC.cond rfl (fun h=>absurd h (by simp)) ?_
  intro c0
  clear c0
  refine st ?_
  refine lv (Val.assert_ok rfl noif_189) ?_
  refine RunL.new (New.alloc zero_189) rfl rfl rfl (fun b4=>?_)
  refine RunL.sto (Sto.store rfl rfl .here ty_189 rfl rfl) rfl rfl ?_
  refine st ?_
  refine RunC.cond rfl (fun h=>absurd h (by simp)) ?_
  intro c1
  clear c1
  refine st ?_
  refine lv (Val.fieldAddr rfl fld_189_0) ?_
  refine lv (Val.load_one rfl (.tail _ (.head _)) ty_42 rfl) ?_
  refine RunL.sto (Sto.store_chg rfl rfl .here ty_42 rfl rfl) rfl rfl ?_
  refine st ?_
  exact RunE.fin (chg:=[(b,_)]) (.r0 rfl) (fun _ hm=>⟨rfl,hm.drop⟩)
def zsrdT:List Value:=[.int .i64 0,.slice none 0 0,.slice none 0 0,.slice none 0 0,.slice none 0 0]
theorem rdT_calm (be bx:Nat) (w:World) (hbe:w.heap[be]? = some (.cells [.int .i64 0].toArray 42 (0,0))):CallsDIn Fence.wide 8 Tryz.prog 102 #[.pointer (some ⟨be,0,none⟩),.pointer (some ⟨bx,0,none⟩)] .returning w fun e u w'=>(∃ v,e = .returned v)∧u = .returning∧Mem w [] [] w':=by
  refine callsDIn_wide_of_wpS Tryz.func102 rfl fun c₀ cs hu=>?_
  refine wpS_seq (wpS_region ?_)
  simp only [List.range,List.range.loop,Array.size,List.size_toArray,List.length_cons,List.length_nil]
  simp [wpOpsS,go_sem,recoverD,hu,Tryz.ntmps102,Exit.thenS]
  refine (caught_nil be w).mono ?_
  rintro e w' ⟨rfl,hm⟩
  refine wpS_of_wp ?_
  refine wp_of_RunC (n:=Tryz.f102.ntmps) (r:=[(0,pV be),(1,pV bx)]) (ds:=[]) (W:=w) (chg:=[]) (news:=[]) ?_ ⟨rfl,agree2 _ _ _ _,rfl,hm⟩
  refine st ?_
  refine lv (Val.oload_one rfl hbe (by simp) ty_42 rfl) ?_
  refine RunC.cond rfl (fun h=>absurd h (by simp)) ?_
  intro c0
  clear c0
  refine st ?_
  exact fun _ _ s=>⟨s.defers,.returning,by rw [← hu],_,results_none rfl _ _ _,⟨_,rfl⟩,rfl,s.mem.drop⟩
theorem rdT_wild (be bx:Nat) (k:Int) (xs:List Value) (w:World) (hk:k ≠ 0) (hbe:w.heap[be]? = some (.cells [.int .i64 0].toArray 42 (0,0))) (hbx:w.heap[bx]? = some (.cells xs.toArray 25 (0,0))) (hne:be ≠ bx) (hl:xs.length=zsrdT.length):CallsDIn Fence.wide 8 Tryz.prog 102 #[.pointer (some ⟨be,0,none⟩),.pointer (some ⟨bx,0,none⟩)] (.panicking [{ v:=misf k,recovered:=false }]) w fun e u w' =>
    (∃ v,e = .returned v)∧u = .panicking [{ v:=misf k,recovered:=true }]∧Mem w [(be,.cells [.int .i64 k].toArray 42 (0,0)),(bx,.cells zsrdT.toArray 25 (0,0))] [] w':=by
  refine callsDIn_wide_of_wpS Tryz.func102 rfl fun c₀ cs hu=>?_
  refine wpS_seq (wpS_region ?_)
  simp only [List.range,List.range.loop,Array.size,List.size_toArray,List.length_cons,List.length_nil]
  simp [wpOpsS,go_sem,recoverD,hu,Tryz.ntmps102,Exit.thenS]
  refine (caught_mis be k _ w hbe).mono ?_
  rintro e w' ⟨rfl,hm⟩
  refine wpS_of_wp ?_
  refine wp_of_RunC (n:=Tryz.f102.ntmps) (r:=[(0,pV be),(1,pV bx)]) (ds:=[]) (W:=w) (chg:=[(be,.cells [.int .i64 k].toArray 42 (0,0)),(bx,.cells xs.toArray 25 (0,0))]) (news:=[]) ?_ ⟨rfl,agree2 _ _ _ _,rfl,hm.also hbx hne⟩
  obtain ⟨x0,x1,x2,x3,x4,rfl⟩:∃ x0 x1 x2 x3 x4,xs=[x0,x1,x2,x3,x4]:=by
    match xs,hl with
    | [x0,x1,x2,x3,x4],_=>exact ⟨x0,x1,x2,x3,x4,rfl⟩
  refine st ?_
  refine lv (Val.load_one rfl (.head _) ty_42 rfl) ?_
  refine RunC.cond rfl ?_ (fun h=>absurd h (by simpa using hk))
  intro c0
  clear c0
  refine st ?_
  refine RunL.new (New.alloc zero_25) rfl rfl rfl (fun b2=>?_)
  refine st ?_
  refine lv (Val.load_agg rfl (.tail _ (.tail _ (.head _))) ty_25 rfl) ?_
  refine RunL.sto (Sto.store_chg rfl rfl (.there .here) ty_25 rfl rfl) rfl rfl ?_
  refine st ?_
  exact fun _ _ s=>⟨s.defers,.panicking [{ v:=misf k,recovered:=true }],rfl,_,results_none rfl _ _ _,⟨_,rfl⟩,rfl,s.mem.drop⟩
theorem rdT_catches:Catches2 Tryz.prog 102 42 25 zsrdT misf:=⟨rdT_calm,rdT_wild⟩
def zsrdC:List Value:=[.int .i64 0,.slice none 0 0,.int .i64 0,.slice none 0 0]
theorem rdC_calm (be bx:Nat) (w:World) (hbe:w.heap[be]? = some (.cells [.int .i64 0].toArray 42 (0,0))):CallsDIn Fence.wide 8 Tryz.prog 119 #[.pointer (some ⟨be,0,none⟩),.pointer (some ⟨bx,0,none⟩)] .returning w fun e u w'=>(∃ v,e = .returned v)∧u = .returning∧Mem w [] [] w':=by
  refine callsDIn_wide_of_wpS Tryz.func119 rfl fun c₀ cs hu=>?_
  refine wpS_seq (wpS_region ?_)
  simp only [List.range,List.range.loop,Array.size,List.size_toArray,List.length_cons,List.length_nil]
  simp [wpOpsS,go_sem,recoverD,hu,Tryz.ntmps119,Exit.thenS]
  refine (caught_nil be w).mono ?_
  rintro e w' ⟨rfl,hm⟩
  refine wpS_of_wp ?_
  refine wp_of_RunC (n:=Tryz.f119.ntmps) (r:=[(0,pV be),(1,pV bx)]) (ds:=[]) (W:=w) (chg:=[]) (news:=[]) ?_ ⟨rfl,agree2 _ _ _ _,rfl,hm⟩
  refine st ?_
  refine lv (Val.oload_one rfl hbe (by simp) ty_42 rfl) ?_
  refine RunC.cond rfl (fun h=>absurd h (by simp)) ?_
  intro c0
  clear c0
  refine st ?_
  exact fun _ _ s=>⟨s.defers,.returning,by rw [← hu],_,results_none rfl _ _ _,⟨_,rfl⟩,rfl,s.mem.drop⟩
theorem rdC_wild (be bx:Nat) (k:Int) (xs:List Value) (w:World) (hk:k ≠ 0) (hbe:w.heap[be]? = some (.cells [.int .i64 0].toArray 42 (0,0))) (hbx:w.heap[bx]? = some (.cells xs.toArray 30 (0,0))) (hne:be ≠ bx) (hl:xs.length=zsrdC.length):CallsDIn Fence.wide 8 Tryz.prog 119 #[.pointer (some ⟨be,0,none⟩),.pointer (some ⟨bx,0,none⟩)] (.panicking [{ v:=misf k,recovered:=false }]) w fun e u w' =>
    (∃ v,e = .returned v)∧u = .panicking [{ v:=misf k,recovered:=true }]∧Mem w [(be,.cells [.int .i64 k].toArray 42 (0,0)),(bx,.cells zsrdC.toArray 30 (0,0))] [] w':=by
  refine callsDIn_wide_of_wpS Tryz.func119 rfl fun c₀ cs hu=>?_
  refine wpS_seq (wpS_region ?_)
  simp only [List.range,List.range.loop,Array.size,List.size_toArray,List.length_cons,List.length_nil]
  simp [wpOpsS,go_sem,recoverD,hu,Tryz.ntmps119,Exit.thenS]
  refine (caught_mis be k _ w hbe).mono ?_
  rintro e w' ⟨rfl,hm⟩
  refine wpS_of_wp ?_
  refine wp_of_RunC (n:=Tryz.f119.ntmps) (r:=[(0,pV be),(1,pV bx)]) (ds:=[]) (W:=w) (chg:=[(be,.cells [.int .i64 k].toArray 42 (0,0)),(bx,.cells xs.toArray 30 (0,0))]) (news:=[]) ?_ ⟨rfl,agree2 _ _ _ _,rfl,hm.also hbx hne⟩
  obtain ⟨x0,x1,x2,x3,rfl⟩:∃ x0 x1 x2 x3,xs=[x0,x1,x2,x3]:=by
    match xs,hl with
    | [x0,x1,x2,x3],_=>exact ⟨x0,x1,x2,x3,rfl⟩
  refine st ?_
  refine lv (Val.load_one rfl (.head _) ty_42 rfl) ?_
  refine RunC.cond rfl ?_ (fun h=>absurd h (by simpa using hk))
  intro c0
  clear c0
  refine st ?_
  refine RunL.new (New.alloc zero_30) rfl rfl rfl (fun b2=>?_)
  refine st ?_
  refine lv (Val.load_agg rfl (.tail _ (.tail _ (.head _))) ty_30 rfl) ?_
  refine RunL.sto (Sto.store_chg rfl rfl (.there .here) ty_30 rfl rfl) rfl rfl ?_
  refine st ?_
  exact fun _ _ s=>⟨s.defers,.panicking [{ v:=misf k,recovered:=true }],rfl,_,results_none rfl _ _ _,⟨_,rfl⟩,rfl,s.mem.drop⟩
theorem rdC_catches:Catches2 Tryz.prog 119 42 30 zsrdC misf:=⟨rdC_calm,rdC_wild⟩
def zsrdR:List Value:=[.slice none 0 0,.slice none 0 0,.slice none 0 0,.slice none 0 0,.slice none 0 0]
theorem rdR_calm (be bx:Nat) (w:World) (hbe:w.heap[be]? = some (.cells [.int .i64 0].toArray 42 (0,0))):CallsDIn Fence.wide 8 Tryz.prog 127 #[.pointer (some ⟨be,0,none⟩),.pointer (some ⟨bx,0,none⟩)] .returning w fun e u w'=>(∃ v,e = .returned v)∧u = .returning∧Mem w [] [] w':=by
  refine callsDIn_wide_of_wpS Tryz.func127 rfl fun c₀ cs hu=>?_
  refine wpS_seq (wpS_region ?_)
  simp only [List.range,List.range.loop,Array.size,List.size_toArray,List.length_cons,List.length_nil]
  simp [wpOpsS,go_sem,recoverD,hu,Tryz.ntmps127,Exit.thenS]
  refine (caught_nil be w).mono ?_
  rintro e w' ⟨rfl,hm⟩
  refine wpS_of_wp ?_
  refine wp_of_RunC (n:=Tryz.f127.ntmps) (r:=[(0,pV be),(1,pV bx)]) (ds:=[]) (W:=w) (chg:=[]) (news:=[]) ?_ ⟨rfl,agree2 _ _ _ _,rfl,hm⟩
  refine st ?_
  refine lv (Val.oload_one rfl hbe (by simp) ty_42 rfl) ?_
  refine RunC.cond rfl (fun h=>absurd h (by simp)) ?_
  intro c0
  clear c0
  refine st ?_
  exact fun _ _ s=>⟨s.defers,.returning,by rw [← hu],_,results_none rfl _ _ _,⟨_,rfl⟩,rfl,s.mem.drop⟩
theorem rdR_wild (be bx:Nat) (k:Int) (xs:List Value) (w:World) (hk:k ≠ 0) (hbe:w.heap[be]? = some (.cells [.int .i64 0].toArray 42 (0,0))) (hbx:w.heap[bx]? = some (.cells xs.toArray 35 (0,0))) (hne:be ≠ bx) (hl:xs.length=zsrdR.length):CallsDIn Fence.wide 8 Tryz.prog 127 #[.pointer (some ⟨be,0,none⟩),.pointer (some ⟨bx,0,none⟩)] (.panicking [{ v:=misf k,recovered:=false }]) w fun e u w' =>
    (∃ v,e = .returned v)∧u = .panicking [{ v:=misf k,recovered:=true }]∧Mem w [(be,.cells [.int .i64 k].toArray 42 (0,0)),(bx,.cells zsrdR.toArray 35 (0,0))] [] w':=by
  refine callsDIn_wide_of_wpS Tryz.func127 rfl fun c₀ cs hu=>?_
  refine wpS_seq (wpS_region ?_)
  simp only [List.range,List.range.loop,Array.size,List.size_toArray,List.length_cons,List.length_nil]
  simp [wpOpsS,go_sem,recoverD,hu,Tryz.ntmps127,Exit.thenS]
  refine (caught_mis be k _ w hbe).mono ?_
  rintro e w' ⟨rfl,hm⟩
  refine wpS_of_wp ?_
  refine wp_of_RunC (n:=Tryz.f127.ntmps) (r:=[(0,pV be),(1,pV bx)]) (ds:=[]) (W:=w) (chg:=[(be,.cells [.int .i64 k].toArray 42 (0,0)),(bx,.cells xs.toArray 35 (0,0))]) (news:=[]) ?_ ⟨rfl,agree2 _ _ _ _,rfl,hm.also hbx hne⟩
  obtain ⟨x0,x1,x2,x3,x4,rfl⟩:∃ x0 x1 x2 x3 x4,xs=[x0,x1,x2,x3,x4]:=by
    match xs,hl with
    | [x0,x1,x2,x3,x4],_=>exact ⟨x0,x1,x2,x3,x4,rfl⟩
  refine st ?_
  refine lv (Val.load_one rfl (.head _) ty_42 rfl) ?_
  refine RunC.cond rfl ?_ (fun h=>absurd h (by simpa using hk))
  intro c0
  clear c0
  refine st ?_
  refine RunL.new (New.alloc zero_35) rfl rfl rfl (fun b2=>?_)
  refine st ?_
  refine lv (Val.load_agg rfl (.tail _ (.tail _ (.head _))) ty_35 rfl) ?_
  refine RunL.sto (Sto.store_chg rfl rfl (.there .here) ty_35 rfl rfl) rfl rfl ?_
  refine st ?_
  exact fun _ _ s=>⟨s.defers,.panicking [{ v:=misf k,recovered:=true }],rfl,_,results_none rfl _ _ _,⟨_,rfl⟩,rfl,s.mem.drop⟩
theorem rdR_catches:Catches2 Tryz.prog 127 42 35 zsrdR misf:=⟨rdR_calm,rdR_wild⟩
def zsrdP:List Value:=[.slice none 0 0,.int .i64 0,.int .i64 0,.int .i64 0,.int .i64 0]
theorem rdP_calm (be bx:Nat) (w:World) (hbe:w.heap[be]? = some (.cells [.int .i64 0].toArray 42 (0,0))):CallsDIn Fence.wide 8 Tryz.prog 65 #[.pointer (some ⟨be,0,none⟩),.pointer (some ⟨bx,0,none⟩)] .returning w fun e u w'=>(∃ v,e = .returned v)∧u = .returning∧Mem w [] [] w':=by
  refine callsDIn_wide_of_wpS Tryz.func65 rfl fun c₀ cs hu=>?_
  refine wpS_seq (wpS_region ?_)
  simp only [List.range,List.range.loop,Array.size,List.size_toArray,List.length_cons,List.length_nil]
  simp [wpOpsS,go_sem,recoverD,hu,Tryz.ntmps65,Exit.thenS]
  refine (caught_nil be w).mono ?_
  rintro e w' ⟨rfl,hm⟩
  refine wpS_of_wp ?_
  refine wp_of_RunC (n:=Tryz.f65.ntmps) (r:=[(0,pV be),(1,pV bx)]) (ds:=[]) (W:=w) (chg:=[]) (news:=[]) ?_ ⟨rfl,agree2 _ _ _ _,rfl,hm⟩
  refine st ?_
  refine lv (Val.oload_one rfl hbe (by simp) ty_42 rfl) ?_
  refine RunC.cond rfl (fun h=>absurd h (by simp)) ?_
  intro c0
  clear c0
  refine st ?_
  exact fun _ _ s=>⟨s.defers,.returning,by rw [← hu],_,results_none rfl _ _ _,⟨_,rfl⟩,rfl,s.mem.drop⟩
theorem rdP_wild (be bx:Nat) (k:Int) (xs:List Value) (w:World) (hk:k ≠ 0) (hbe:w.heap[be]? = some (.cells [.int .i64 0].toArray 42 (0,0))) (hbx:w.heap[bx]? = some (.cells xs.toArray 40 (0,0))) (hne:be ≠ bx) (hl:xs.length=zsrdP.length):CallsDIn Fence.wide 8 Tryz.prog 65 #[.pointer (some ⟨be,0,none⟩),.pointer (some ⟨bx,0,none⟩)] (.panicking [{ v:=misf k,recovered:=false }]) w fun e u w' =>
    (∃ v,e = .returned v)∧u = .panicking [{ v:=misf k,recovered:=true }]∧Mem w [(be,.cells [.int .i64 k].toArray 42 (0,0)),(bx,.cells zsrdP.toArray 40 (0,0))] [] w':=by
  refine callsDIn_wide_of_wpS Tryz.func65 rfl fun c₀ cs hu=>?_
  refine wpS_seq (wpS_region ?_)
  simp only [List.range,List.range.loop,Array.size,List.size_toArray,List.length_cons,List.length_nil]
  simp [wpOpsS,go_sem,recoverD,hu,Tryz.ntmps65,Exit.thenS]
  refine (caught_mis be k _ w hbe).mono ?_
  rintro e w' ⟨rfl,hm⟩
  refine wpS_of_wp ?_
  refine wp_of_RunC (n:=Tryz.f65.ntmps) (r:=[(0,pV be),(1,pV bx)]) (ds:=[]) (W:=w) (chg:=[(be,.cells [.int .i64 k].toArray 42 (0,0)),(bx,.cells xs.toArray 40 (0,0))]) (news:=[]) ?_ ⟨rfl,agree2 _ _ _ _,rfl,hm.also hbx hne⟩
  obtain ⟨x0,x1,x2,x3,x4,rfl⟩:∃ x0 x1 x2 x3 x4,xs=[x0,x1,x2,x3,x4]:=by
    match xs,hl with
    | [x0,x1,x2,x3,x4],_=>exact ⟨x0,x1,x2,x3,x4,rfl⟩
  refine st ?_
  refine lv (Val.load_one rfl (.head _) ty_42 rfl) ?_
  refine RunC.cond rfl ?_ (fun h=>absurd h (by simpa using hk))
  intro c0
  clear c0
  refine st ?_
  refine lv (Val.build (parts:=[]) rfl zero_40 places_40 rfl) ?_
  refine RunL.sto (Sto.store_chg rfl rfl (.there .here) ty_40 rfl rfl) rfl rfl ?_
  refine st ?_
  exact fun _ _ s=>⟨s.defers,.panicking [{ v:=misf k,recovered:=true }],rfl,_,results_none rfl _ _ _,⟨_,rfl⟩,rfl,s.mem.drop⟩
theorem rdP_catches:Catches2 Tryz.prog 65 42 40 zsrdP misf:=⟨rdP_calm,rdP_wild⟩
end Go.Proofs.YtleamcmljcdapaaGreatDoor
namespace Go.Proofs.YtleamcmljcdapaaGreatDoor
open Go Go.Eng
theorem ent_91:Enters Tryz.prog 91:=enters_of Tryz.func91 (by kernel_rfl) rfl
theorem ent_93:Enters Tryz.prog 93:=enters_of Tryz.func93 (by kernel_rfl) rfl
theorem ent_96:Enters Tryz.prog 96:=enters_of Tryz.func96 (by kernel_rfl) rfl
theorem ent_97:Enters Tryz.prog 97:=enters_of Tryz.func97 (by kernel_rfl) rfl
theorem ent_98:Enters Tryz.prog 98:=enters_of Tryz.func98 (by kernel_rfl) rfl
end Go.Proofs.YtleamcmljcdapaaGreatDoor
namespace Go.Bk
open Go Go.Eng Go.RowKit
theorem splitL_eq (l:Str):splitL l=Lib.split l [32]:=by
  unfold splitL Lib.split
  rw [Lib.splitB_data]
  rfl
theorem splitL_hit {l:Str} {i:Nat} (h:Lib.indexByte l 32=(i:Int)):splitL l=l.take i::splitL (l.drop (i + 1)):=by
  have h1:Lib.index l [32]=(i:Int):=by rw [Lib.index_one];exact h
  have hc:=Lib.count_hit (s:=l) (sub:=[32]) (by simp) h1
  rw [splitL_eq,splitL_eq]
  unfold Lib.split
  rw [hc,Nat.add_comm,Lib.splitK]
  have hm:¬ (Lib.index l [32] == -1)=true:=fun e=>by have:=beq_iff_eq.1 e;omega
  rw [if_neg hm,h1]
  rfl
theorem splitL_miss {l:Str} (h:Lib.indexByte l 32 = -1):splitL l=[l]:=by
  have h1:Lib.index l [32] = -1:=by rw [Lib.index_one];exact h
  rw [splitL_eq]
  unfold Lib.split
  rw [Lib.count_miss h1]
  rfl
theorem indexByte_lt:∀ {l:Str} {c:UInt8} {i:Nat},Lib.indexByte l c=(i:Int)→i < l.length:=fun {l c i} h=>by
  have:=(Lib.indexByte_some h).1
  exact (List.getElem?_eq_some_iff.1 this).1
theorem splitL_ok:∀ (n:Nat) (l:Str),l.length≤n→(splitL l).length≤l.length + 1∧∀ w∈splitL l,w.length≤l.length
  | n,l,hn=>by
    have hge:=Lib.indexByte_ge l 32
    by_cases h:Lib.indexByte l 32 < 0
    · rw [splitL_miss (by omega)]
      simp
    · obtain ⟨i,hi⟩:∃ i:Nat,Lib.indexByte l 32=i:=⟨(Lib.indexByte l 32).toNat,by omega⟩
      have hlt:=indexByte_lt hi
      match n,hn with
      | 0,hn=>omega
      | n + 1,hn =>
        have ih:=splitL_ok n (l.drop (i + 1)) (by simp only [List.length_drop];omega)
        rw [splitL_hit hi]
        simp only [List.length_drop,List.length_cons] at ih ⊢
        refine ⟨by omega,fun w hw=>?_⟩
        rcases List.mem_cons.1 hw with rfl | hw
        · simp;omega
        · have:=ih.2 w hw;omega
theorem words_ok {s:Str} (hs:s.length≤4096) {ws:List Str} (h:ws∈(linesL s).map lineW):ws.length≤10000∧∀ w∈ws,w.length≤100000:=by
  obtain ⟨l,hl,rfl⟩:=List.mem_map.1 h
  have h1:=linesL_short s l hl
  have h2:=trim_len l
  have h3:=splitL_ok _ (Lib.trimSuffix l [10]) (Nat.le_refl _)
  unfold lineW
  exact ⟨by omega,fun w hw=>by have:=h3.2 w hw;omega⟩
def runL {α:Type} (step:α→List Str→Option α):α→List (List Str)→Option α
  | x,[]=>some x
  | x,l::ls=>match step x l with
    | some y=>runL step y ls
    | none=>none
theorem runL_app {α:Type} {step:α→List Str→Option α}:∀ {a b:List (List Str)} {x:α},runL step x (a++b)=match runL step x a with
    | some y=>runL step y b
    | none=>none
  | [],b,x=>rfl
  | l::a,b,x=>by
    simp only [List.cons_append,runL]
    cases step x l with
    | none=>rfl
    | some y=>exact runL_app
theorem runL_snoc {α:Type} {step:α→List Str→Option α} {a:List (List Str)} {l:List Str} {x y:α} (h:runL step x a=some y):runL step x (a++[l])=step y l:=by
  rw [runL_app,h]
  simp only [runL]
  cases step y l <;> rfl
theorem runL_bad {α:Type} {step:α→List Str→Option α} {a all:List (List Str)} {l:List Str} {x y:α} (h:runL step x a=some y) (hl:step y l=none) (hp:a++[l] <+: all):runL step x all=none:=by
  obtain ⟨t,rfl⟩:=hp
  rw [runL_app,runL_snoc h,hl]
def parseX {α:Type} (step:α→List Str→Option α) (z:α) (s:Str):Option α:=if Lib.hasSuffix s [10] then runL step z ((linesL s).map lineW) else none
def readX {α:Type} (step:α→List Str→Option α) (z:α) (ok:α→Bool) (text:α→Str) (s:Str):Except Int α :=
  if 4096 < s.length then .error 3 else
    match parseX step z s with
    | some x=>if ok x && decide (text x=s) then .ok x else .error 8
    | none=>.error 8
def OL.sa {α:Type} (z:OL α):SA α:=⟨z.2,ownQ z.1,ownK z.1,0,ownC z.1⟩
theorem OL.sa_v {α:Type} {z:OL α} {f:α→List Value} {sz:Nat} (h:z.ok f sz):(OL.sa z).v=ownV z.1 z.2.length:=(ownV_slice h).symm
theorem own_q0 {sz n:Nat} {x:Eng.Own} {xs:List Value} (h:OwnOk sz x n xs):ownQ x=none→n=0∧ownC x=0:=fun e=>by
  match x,h,e with
  | none,h,_=>exact ⟨h.nil rfl,rfl⟩
def TrX.toA (x:TrX):TrA:=⟨x.dawn,OL.sa x.fr,⟨x.ways.2.map OL.sa,ownQ x.ways.1,ownK x.ways.1,0,ownC x.ways.1⟩,OL.sa x.stay,OL.sa x.light⟩
theorem TrX.toA_pl (x:TrX):x.toA.pl=x.pl:=by simp [TrX.toA,TrA.pl,TrX.pl,OL.sa,List.map_map,Function.comp_def]
theorem TrXOk.cells {n:Nat} {x:TrX} (h:TrXOk n x):x.toA.cells=x.cells:=by
  have e:x.toA.ways.v=ownV x.ways.1 x.ways.2.length:=by
    unfold SA.v TrX.toA
    rw [List.length_map]
    exact (ownV_slice h.ways).symm
  show [Value.int .i64 x.dawn,(OL.sa x.fr).v,x.toA.ways.v,(OL.sa x.stay).v,(OL.sa x.light).v]=_
  rw [e,OL.sa_v h.fr,OL.sa_v h.stay,OL.sa_v h.light]
  rfl
theorem TrXOk.sm {n:Nat} {x:TrX} (h:TrXOk n x) (hn:n≤10000):TrSm x.toA :=
  ⟨h.s1,by have:=h.few;show (x.ways.2.map OL.sa).length≤10000;rw [List.length_map];omega,fun y hy=>by
    obtain ⟨r,hr,rfl⟩:=List.mem_map.1 hy
    exact h.s4 r hr,h.s2,h.s3⟩
def zeroTX:TrX:=⟨0,(none,[]),(none,[]),(none,[]),(none,[])⟩
theorem zeroTX_ok:TrXOk 0 zeroTX:=⟨ol_nil,ol_nil,fun r h=>(by cases h),ol_nil,ol_nil,Nat.le_refl _,by decide,by decide,by decide,fun r h=>(by cases h)⟩
def zeroT:Tr:=⟨0,[],[],[],[]⟩
theorem rows_eq {l:List (OL Sp)} (h:∀ r∈l,OL.ok r Sp.cells 2):(l.map rowC)=(l.map OL.sa).map SA.cell:=by
  rw [List.map_map]
  refine List.map_congr_left fun r hr=>?_
  show [ownV r.1 r.2.length]=[(OL.sa r).v]
  rw [OL.sa_v (h r hr)]
end Go.Bk
namespace Go.Proofs.YtleamcmljcdapaaGreatDoor
open Go Go.Eng Go.Bk Go.RowKit

def trB (x:TrX):Blks:=spB x.fr++(waB x.ways++(spRows x.ways.2++(spB x.stay++spB x.light)))
theorem sp_ok {z:OL Sp} {w:World} (h:z.ok Sp.cells 2) (hm:∀ b o,(b,o)∈spB z→w.heap[b]? = some o):(OL.sa z).ok Sp.cells 2 w:=own_sl (f:=Sp.cells) (fun _=>rfl) (by decide) h hm
theorem trX_ok {n:Nat} {x:TrX} {w W0:World} {tl:Blks} (h:TrXOk n x) (hm:Mem W0 [] (trB x++tl) w):TrOk w x.toA:=by
  have hat:∀ b o,(b,o)∈trB x→w.heap[b]? = some o:=fun b o hb=>(hm.newd b o (List.mem_append_left _ hb)).2
  refine ⟨sp_ok h.fr fun b o hb=>hat b o ?_,?_,fun y hy=>?_,sp_ok h.stay fun b o hb=>hat b o ?_,sp_ok h.light fun b o hb=>hat b o ?_,fun hq=>?_⟩
  · unfold trB;exact List.mem_append_left _ hb
  · show Sl w (ownQ x.ways.1) (ownK x.ways.1) 0 1 ((x.ways.2.map OL.sa).map SA.cell)
    rw [← rows_eq h.rows]
    refine own_sl (f:=rowC) (e:=22) (fun _=>rfl) (by decide) h.ways (fun b o hb=>hat b o ?_)
    unfold trB;exact List.mem_append_right _ (List.mem_append_left _ hb)
  · obtain ⟨r,hr,rfl⟩:=List.mem_map.1 hy
    refine sp_ok (h.rows r hr) fun b o hb=>hat b o ?_
    unfold trB
    refine List.mem_append_right _ (List.mem_append_right _ (List.mem_append_left _ ?_))
    exact List.mem_flatten.2 ⟨_,List.mem_map.2 ⟨r,hr,rfl⟩,hb⟩
  · unfold trB
    exact List.mem_append_right _ (List.mem_append_right _ (List.mem_append_right _ (List.mem_append_left _ hb)))
  · unfold trB
    exact List.mem_append_right _ (List.mem_append_right _ (List.mem_append_right _ (List.mem_append_right _ hb)))
  · have h1:=own_q0 h.ways hq
    exact ⟨by show (x.ways.2.map OL.sa).length=0;rw [List.length_map];exact h1.1,h1.2⟩
theorem writeTX_calls (x:TrX) (n:Nat) (h:TrXOk n x) (hs:TrSm x.toA) (m:Nat) (tl:Blks) (W0 w:World) (hm:Mem W0 [] (trB x++tl) w) (hL:Lw Tryz.prog w):Calls Tryz.prog 41 #[.agg x.cells.toArray,kindV 86 99 m] w (Pure (writeV (tourX x.pl) (tourS x.pl)) w):=by
  have h1:=writeT_calls x.toA hs m w hL (trX_ok h hm)
  rw [TrX.toA_pl] at h1
  have e:x.toA.v = .agg x.cells.toArray:=by unfold TrA.v;rw [h.cells]
  rw [e] at h1
  exact h1
theorem lineT_calls {v:Value} (wb sb:Nat) (all:List Str) (xb:Nat) (x:TrX) (n:Nat) (rest:Blks) (W0:World) (hL:Lw Tryz.prog W0) (hj:WdOk all 1) (hx:TrXOk n x) (hn:n≤10000) (hv:sFind toursL (all.getD 0 [])=some v) :
    ∃ gf,v = .func (.func gf) #[] #[]∧Enters Tryz.prog gf∧∀ w,Mem W0 [] ((wb,wdO sb all.length 1)::(sb,stO all)::trM xb x (rest++[])) w→Calls Tryz.prog gf #[pV xb,pV wb] w (LineT W0 xb n (tourStep x.pl all) rest):=by
  unfold sFind toursL at hv
  simp only [sIdx] at hv
  unfold tourStep
  split at hv
  · rename_i h0
    simp at hv
    rw [if_pos h0.symm]
    exact ⟨_,hv.symm,ent_91,fun w hm=>hTour_calls wb sb all xb x n rest W0 w hL hm hj hx hn⟩
  · rename_i h0
    rw [if_neg (fun h=>h0 h.symm)]
    split at hv
    · rename_i h1
      simp at hv
      rw [if_pos h1.symm]
      exact ⟨_,hv.symm,ent_93,fun w hm=>hFrom_calls wb sb all xb x n rest W0 w hL hm hj hx hn⟩
    · rename_i h1
      rw [if_neg (fun h=>h1 h.symm)]
      split at hv
      · rename_i h2
        simp at hv
        rw [if_pos h2.symm]
        exact ⟨_,hv.symm,ent_96,fun w hm=>hWays_calls wb sb all xb x n rest W0 w hL hm hj hx hn⟩
      · rename_i h2
        rw [if_neg (fun h=>h2 h.symm)]
        split at hv
        · rename_i h3
          simp at hv
          rw [if_pos h3.symm]
          exact ⟨_,hv.symm,ent_97,fun w hm=>hStay_calls wb sb all xb x n rest W0 w hL hm hj hx hn⟩
        · rename_i h3
          rw [if_neg (fun h=>h3 h.symm)]
          split at hv
          · rename_i h4
            simp at hv
            rw [if_pos h4.symm]
            exact ⟨_,hv.symm,ent_98,fun w hm=>hLight_calls wb sb all xb x n rest W0 w hL hm hj hx hn⟩
          · simp at hv
theorem lineT_none (all:List Str) (x:Tr) (hv:sFind toursL (all.getD 0 [])=none):tourStep x all=none:=by
  unfold sFind toursL at hv
  simp only [sIdx] at hv
  unfold tourStep
  repeat' split at hv
  all_goals first | (simp at hv;done) | skip
  rename_i h0 h1 h2 h3 h4
  rw [if_neg (fun h=>h0 h.symm),if_neg (fun h=>h1 h.symm),if_neg (fun h=>h2 h.symm),if_neg (fun h=>h3 h.symm),if_neg (fun h=>h4 h.symm)]
end Go.Proofs.YtleamcmljcdapaaGreatDoor
namespace Go.Proofs.YtleamcmljcdapaaGreatDoor
open Go Go.Eng
theorem ent_102:Enters Tryz.prog 102:=enters_of Tryz.func102 (by kernel_rfl) rfl
theorem ent_103:Enters Tryz.prog 103:=enters_of Tryz.func103 (by kernel_rfl) rfl
theorem ent_145:Enters Tryz.prog 145:=enters_of Tryz.func145 (by kernel_rfl) rfl
theorem fld_79_1:fieldB Tryz.prog 79 1=some 1:=by kernel_rfl
theorem ty_77:tyB Tryz.prog 77=some (false,1):=by kernel_rfl
theorem zeroV_158:zeroV Tryz.prog 158=some (.nilFunc):=by kernel_rfl
theorem zero_42:zeroB Tryz.prog 42=some [.int .i64 0]:=by kernel_rfl
end Go.Proofs.YtleamcmljcdapaaGreatDoor
namespace Go.Bk
open Go Go.Eng Go.RowKit
def RdX {α β:Type} (x:Except Int α) (pl:β→α) (ok:β→Prop) (z0:β) (z:β×Int):Prop:=(∃ t,x = .ok t∧pl z.1=t∧z.2=0∧ok z.1)∨(∃ k,x = .error k∧z=(z0,k))
theorem read_long {α:Type} {step:α→List Str→Option α} {z:α} {ok:α→Bool} {text:α→Str} {s:Str} (h:4096 < s.length):readX step z ok text s = .error 3:=by unfold readX;rw [if_pos h]
theorem read_bad {α:Type} {step:α→List Str→Option α} {z:α} {ok:α→Bool} {text:α→Str} {s:Str} (h:¬ 4096 < s.length) (hp:parseX step z s=none):readX step z ok text s = .error 8:=by unfold readX;rw [if_neg h,hp]
theorem read_end {α:Type} {step:α→List Str→Option α} {z x:α} {ok:α→Bool} {text:α→Str} {s:Str} (h:¬ 4096 < s.length) (hp:parseX step z s=some x):readX step z ok text s=if ok x && decide (text x=s) then .ok x else .error 8:=by unfold readX;rw [if_neg h,hp]
theorem read_no {α:Type} {step:α→List Str→Option α} {z x:α} {ok:α→Bool} {text:α→Str} {s:Str} (h:¬ 4096 < s.length) (hp:parseX step z s=some x) (hne:ok x=true→text x ≠ s):readX step z ok text s = .error 8:=by
  rw [read_end h hp,if_neg]
  rw [Bool.and_eq_true,decide_eq_true_eq]
  exact fun h=>hne h.1 h.2
theorem read_yes {α:Type} {step:α→List Str→Option α} {z x:α} {ok:α→Bool} {text:α→Str} {s:Str} (h:¬ 4096 < s.length) (hp:parseX step z s=some x) (h1:ok x=true) (h2:text x=s):readX step z ok text s = .ok x:=by
  rw [read_end h hp,if_pos]
  rw [Bool.and_eq_true,decide_eq_true_eq]
  exact ⟨h1,h2⟩
theorem TrXOk.le {n m:Nat} {x:TrX} (h:TrXOk n x) (hm:n≤m):TrXOk m x:=⟨h.fr,h.ways,h.rows,h.stay,h.light,Nat.le_trans h.few hm,h.s1,h.s2,h.s3,h.s4⟩
theorem if01 {b:Bool} (h:(if b=true then (0:Int) else 1)=0):b=true:=by cases b with
  | true=>rfl
  | false=>cases h
theorem parse_no {α:Type} {step:α→List Str→Option α} {z:α} {s:Str} (h:Lib.hasSuffix s [10]=false):parseX step z s=none:=by unfold parseX;rw [h];rfl
theorem parse_of {α:Type} {step:α→List Str→Option α} {z:α} {s:Str} (h:Lib.hasSuffix s [10]=true):parseX step z s=runL step z ((linesL s).map lineW):=by unfold parseX;rw [if_pos h]
theorem paste_self:∀ {cs:List Value},(∀ v∈cs,isOne v=true)→pasteN cs cs=some cs
  | [],_=>rfl
  | c::cs,h=>by
    have ih:=paste_self (cs:=cs) (fun v hv=>h v (List.mem_cons_of_mem _ hv))
    simp only [pasteN,h c (List.mem_cons_self ..),ih]
theorem paste_trX (x:TrX):paste x.cells 0 (cellsL (.agg x.cells.toArray))=some x.cells:=by
  show paste x.cells 0 x.cells=some x.cells
  have h:=paste_self (cs:=x.cells) (fun v hv=>by
    simp only [TrX.cells,List.mem_cons,List.not_mem_nil,or_false] at hv
    rcases hv with rfl | rfl | rfl | rfl | rfl <;> first | rfl | exact own_one _ _)
  exact h
end Go.Bk
namespace Go.Proofs.YtleamcmljcdapaaGreatDoor
open Go Go.Eng Go.Bk Go.RowKit

abbrev erO (k:Int):Obj:=.cells [.int .i64 k].toArray 42 (0,0)
abbrev kTO (m:Nat):Obj:=.cells [fnV 86,.map (some m),fnV 99].toArray 79 (0,0)
abbrev kTB (m:Nat):Nat×Obj:=(m,mapS toursL)
set_option maxHeartbeats 1000000 in
theorem readT_calls (s:Str) (m:Nat) (rest:Blks) (W0 w0:World) (hL:Lw Tryz.prog W0) (hm0:Mem W0 [] (kTB m::(rest++[])) w0) (hsl:s.length≤100000) :
    Calls Tryz.prog 45 #[.string (bs s),kindV 86 99 m] w0 (Grow W0 [] (fun z:TrX×Int=>.tuple #[.agg z.1.cells.toArray,.int .i64 z.2]) (fun z=>trB z.1++(rest++[])) (RdX (readX tourStep zeroT tourX tourS s) TrX.pl (TrXOk 10000) zeroTX)):=by
  refine calls_start_F hm0 Tryz.func45 rfl rfl ?_
  refine RunCF.seq ?_
  refine RunCF.of ?_
  refine st ?_
  refine RunL.new (New.box rfl) rfl rfl rfl (fun b3=>?_)
  refine RunL.new (New.alloc zero_25) rfl rfl rfl (fun b4=>?_)
  refine RunL.new (New.alloc zero_42) rfl rfl rfl (fun b5=>?_)
  refine st ?_
  refine RunEF.next ?_
  refine RunCF.seq ?_
  refine RunCF.of ?_
  refine st ?_
  refine RunL.deferC rfl ?_
  refine st ?_
  refine RunEF.next ?_
  refine RunCF.seq ?_
  refine RunCF.of ?_
  refine st ?_
  refine lv (Val.lenS rfl und_9) ?_
  refine RunL.callT (isCall_func rfl ent_67) rfl rfl rfl (fun w hm=>need_calls _ _ w) (fun e15 he15=>?_) (fun v15 hv15=>?_)
  ·obtain ⟨er15,rfl⟩:=need_err he15
   have hlong:4096 < s.length:=by have:=of_decide_eq_false er15;omega
   refine RunE.pass_panic ?_
   exact RunE.panC2 (k:=3) (cs:=zsrdT) (rest:=rest++[]) [] rdT_catches ent_102 (by decide) rfl (.cons .here rfl (.cons .here rfl (Pick.cnt fun x=>by simp only [nC,List.map_cons,List.map_nil,markB,dfrO,trB,spB,waB,erO,trXO];omega))) (.r2 rfl (.agg rfl (.tail _ (.head _)) ty_25 rfl) (.one rfl (.head _) ty_42 rfl)) (fun w hm=>⟨(zeroTX,3),.inr ⟨3,read_long hlong,rfl⟩,rfl,hm.pick (news':=rest++[]) (Pick.cnt fun x=>by simp only [nC,List.map_cons,List.map_nil,markB,dfrO,trB,spB,waB,erO,trXO];omega)⟩)
  obtain ⟨ok15,rfl⟩:=need_ok hv15
  have hlen40:s.length≤4096:=by have:=of_decide_eq_true ok15;omega
  refine st ?_
  refine RunEF.next ?_
  refine RunCF.seq ?_
  refine RunCF.seq ?_
  refine RunCF.of ?_
  refine st ?_
  refine RunL.callN (isCall_func rfl ent_103) rfl rfl rfl (fun w hm=>(lines_calls s w)) (fun b17=>?_)
  refine st ?_
  refine RunEF.next ?_
  refine RunCF.block ?_
  refine RunCF.range Tryz.func45 (α:=LW) (X:=TrX) (enc:=fun x:LW=>pV x.wb) (eb:=lwB) (itb:=[(b17,strO s)]) (mis:=misf) (S:=fun xs=>Lib.hasSuffix s [10]=true∧xs.map (·.ws)=(linesL s).map lineW) (Sp:=fun xs=>Lib.hasSuffix s [10]=true∧xs.map (·.ws) <+: (linesL s).map lineW) (Sq:=fun k xs=>k=8∧xs=[]∧Lib.hasSuffix s [10]=false) (N:=s.length + 1) (fun x=>(b3,kTO m)::kTB m::(b4,trXO x)::trB x) (fun pre x=>TrXOk pre.length x∧runL tourStep zeroT (pre.map (·.ws))=some x.pl) (fun _ _=>False) (fun c x=>c=[{ v:=misf 8,recovered:=false }]∧parseX tourStep zeroT s=none) zeroTX ⟨zeroTX_ok,rfl⟩ ((b5,erO 0)::rest) (.cons (.there (.there (.there .here))) rfl (.cons (.there (.there (.there .here))) rfl (.cons (.there (.there .here)) rfl (.cons (.here) rfl (.cons .here rfl (Pick.cnt fun x=>by simp only [List.append_eq,List.append_nil,List.nil_append];exact Nat.le_refl _)))))) rfl ent_145 (wordsIt s hsl b17 W0 hL) rfl rfl (fun _=>rfl) rfl rfl rfl ?_ ?_ ?_ ?_ ?_
  ·intro l D ob pre v x tl hI hsp hlen
   obtain ⟨hx,hrun⟩:=hI
   obtain ⟨hsf,hspp⟩:=hsp
   have hwm:v.ws∈(linesL s).map lineW:=hspp.subset (by simp)
   have hwd:WdOk v.ws 0:=⟨Nat.zero_le _,(words_ok hlen40 hwm).1,(words_ok hlen40 hwm).2⟩
   have hpl:pre.length≤10000:=by omega
   have hbad:tourStep x.pl v.ws=none→parseX tourStep zeroT s=none:=fun h=>by (rw [parse_of hsf];exact runL_bad hrun h (by rw [List.map_append] at hspp;exact hspp))
   refine RunCR.keep (Sub.refl _) (news':=(l,ob)::(D,dfrO)::(v.wb,wdO v.sb v.ws.length 0)::(v.sb,stO v.ws)::(b3,kTO m)::kTB m::(b4,trXO x)::(trB x++(tl++[]))) (Pick.cnt fun x=>by simp only [nC,List.map_cons,List.map_nil,markB,dfrO,trB,spB,waB,erO,trXO];omega) ?_
   refine RunCR.block ?_
   refine RunCR.seq ?_
   refine RunCR.draw 9 fol_ (.cons .here rfl (.cons .here rfl (.cons (.there (.there .here)) rfl (.cons (.there (.there .here)) rfl (.cons (.there (.there .here)) rfl .nil))))) ?_
   refine va 0 rfl (Val.fieldAddr rfl fld_79_1) rfl rfl rfl (.cons .here rfl (.cons .here rfl (.cons (.there (.there .here)) rfl (.cons (.there (.there .here)) rfl (.cons (.there (.there .here)) rfl .nil))))) rfl ?_
   refine va 1 rfl (Val.load_one rfl (.tail _ (.tail _ (.head _))) ty_77 rfl) rfl rfl rfl (.cons .here rfl (.cons .here rfl (.cons (.there (.there .here)) rfl (.cons (.there (.there .here)) rfl (.cons (.there (.there .here)) rfl .nil))))) rfl ?_
   refine va 2 rfl (Val.pure rfl) rfl rfl rfl (.cons .here rfl (.cons .here rfl (.cons (.there (.there .here)) rfl (.cons (.there (.there .here)) rfl (.cons (.there (.there .here)) rfl .nil))))) rfl ?_
   refine RunA.one (i:=3) (by kernel_rfl) (by kernel_rfl) ?_
   refine RunI.callGT rfl (isCall_func rfl ent_104) rfl rfl rfl (fun w hm=>(calls_reG (nw':=fun _=>(l,ob)::(D,dfrO)::(v.wb,wdO v.sb v.ws.length 1)::(v.sb,stO v.ws)::(b3,kTO m)::kTB m::(b4,trXO x)::(trB x++(tl++[]))) (np':=fun _=>(l,ob)::(D,dfrO)::(b3,kTO m)::kTB m::(b4,trXO x)::(trB x++(tl++[]))) (word_calls v.wb v.sb v.ws 0 ((l,ob)::(D,dfrO)::(b3,kTO m)::kTB m::(b4,trXO x)::(trB x++tl)) W0 w (hm.pick (Pick.cnt fun x=>by simp only [nC,List.map_cons,List.map_nil,markB,dfrO,trB,spB,waB,erO,trXO];omega)) hwd) (fun _=>by simp only [Nat.zero_add];exact (Pick.cnt fun x=>by simp only [nC,List.map_cons,List.map_nil,markB,dfrO,trB,spB,waB,erO,trXO];omega)) (fun _=>(Pick.cnt fun x=>by simp only [nC,List.map_cons,List.map_nil,markB,dfrO,trB,spB,waB,erO,trXO];omega)))) (fun p23 hp23=>?_) (fun z23 hz23=>(RunK.toA (.cons .here rfl (.cons .here rfl (.cons (.there (.there .here)) rfl (.cons (.there (.there .here)) rfl (.cons (.there (.there .here)) rfl .nil))))) (.cons .here rfl (.cons .here rfl (.cons .here rfl (.cons .here rfl (.cons .here rfl .nil))))) rfl ?_))
   ·refine RunE.pass_panic ?_
    refine RunE.block_panic ?_
    exact RunE.bodyQ_panic x ⟨rfl,hbad (by rw [List.eq_nil_of_length_eq_zero (Nat.le_zero.1 hp23)];rfl)⟩ (Pick.cnt fun x=>by simp only [nC,List.map_cons,List.map_nil,markB,dfrO,trB,spB,waB,erO,trXO];omega)
   refine RunA.one (i:=4) (by kernel_rfl) (by kernel_rfl) ?_
   refine RunI.val rfl (Val.lookupOkS rfl rfl (fun w hm=>hm.at (.tail _ (.tail _ (.tail _ (.tail _ (.tail _ (.head _))))))) mapSB_77 zeroV_158) rfl rfl rfl (RunK.toA (.cons .here rfl (.cons .here rfl (.cons (.there (.there .here)) rfl (.cons (.there (.there .here)) rfl (.cons (.there (.there .here)) rfl .nil))))) (.cons .here rfl (.cons .here rfl (.cons .here rfl (.cons .here rfl (.cons .here rfl .nil))))) rfl ?_)
   refine va 5 rfl (Val.pure rfl) rfl rfl rfl (.cons .here rfl (.cons .here rfl (.cons (.there (.there .here)) rfl (.cons (.there (.there .here)) rfl (.cons (.there (.there .here)) rfl .nil))))) rfl ?_
   refine va 6 rfl (Val.pure rfl) rfl rfl rfl (.cons .here rfl (.cons .here rfl (.cons (.there (.there .here)) rfl (.cons (.there (.there .here)) rfl (.cons (.there (.there .here)) rfl .nil))))) rfl ?_
   refine va 7 rfl (Val.pure rfl) rfl rfl rfl (.cons .here rfl (.cons .here rfl (.cons (.there (.there .here)) rfl (.cons (.there (.there .here)) rfl (.cons (.there (.there .here)) rfl .nil))))) rfl ?_
   refine va 8 rfl (Val.pure rfl) rfl rfl rfl (.cons .here rfl (.cons .here rfl (.cons (.there (.there .here)) rfl (.cons (.there (.there .here)) rfl (.cons (.there (.there .here)) rfl .nil))))) rfl ?_
   refine RunA.toB (by kernel_rfl) ?_
   refine RunB.one (i:=9) (by kernel_rfl) ?_
   refine RunI.val rfl (Val.pure rfl) rfl rfl rfl (RunK.toB ?_)
   refine RunB.done (by kernel_rfl) ?_
   refine RunER.next ?_
   refine RunCR.seq ?_
   refine RunCR.regionP ?_
   refine st ?_
   refine RunL.callT (isCall_func rfl ent_67) rfl rfl rfl (fun w hm=>need_calls _ _ w) (fun e28 he28=>?_) (fun v28 hv28=>?_)
   ·obtain ⟨er28,rfl⟩:=need_err he28
    have hnone:=Option.isNone_iff_eq_none.1 (Option.isSome_eq_false_iff.1 er28)
    refine RunE.pass_panic ?_
    refine RunE.block_panic ?_
    exact RunE.bodyQ_panic x ⟨rfl,hbad (lineT_none _ _ hnone)⟩ (Pick.cnt fun x=>by simp only [nC,List.map_cons,List.map_nil,markB,dfrO,trB,spB,waB,erO,trXO];omega)
   obtain ⟨ok28,rfl⟩:=need_ok hv28
   obtain ⟨fv,hfv⟩:=Option.isSome_iff_exists.1 ok28
   refine st ?_
   refine RunER.next ?_
   refine RunCR.regionP ?_
   refine vp rfl rfl rfl rfl ?_
   refine vp rfl rfl rfl rfl ?_
   obtain ⟨gf,rfl,hent,hcall⟩:=lineT_calls v.wb v.sb v.ws b4 x pre.length ((l,ob)::(D,dfrO)::(b3,kTO m)::kTB m::tl) W0 hL (hwd.next hz23) hx hpl hfv
   rw [hfv]
   simp only [Option.getD_some]
   refine RunL.callGT (isCall_value rfl rfl hent) rfl rfl rfl (fun w hm=>(calls_reG (nw':=fun z=>(l,ob)::(D,dfrO)::(b3,kTO m)::kTB m::(b4,trXO z)::(trB z++(tl++[]))) (np':=fun z=>(l,ob)::(D,dfrO)::(b3,kTO m)::kTB m::(b4,trXO z)::(trB z++(tl++[]))) (hcall w (hm.pick (Pick.cnt fun x=>by simp only [nC,List.map_cons,List.map_nil,markB,dfrO,trB,spB,waB,erO,trXO];omega))) (fun _=>(Pick.cnt fun x=>by simp only [nC,List.map_cons,List.map_nil,markB,dfrO,trB,spB,waB,erO,trXO];omega)) (fun _=>(Pick.cnt fun x=>by simp only [nC,List.map_cons,List.map_nil,markB,dfrO,trB,spB,waB,erO,trXO];omega)))) (fun p31 hp31=>?_) (fun z31 hz31=>?_)
   ·refine RunE.block_panic ?_
    exact RunE.bodyQ_panic p31 ⟨rfl,hbad hp31.2⟩ (Pick.cnt fun x=>by simp only [nC,List.map_cons,List.map_nil,markB,dfrO,trB,spB,waB,erO,trXO];omega)
   refine st ?_
   exact RunE.bodyQ z31 ⟨by rw [List.length_append];exact hz31.1,by rw [List.map_append];exact (runL_snoc hrun).trans hz31.2⟩ (Pick.cnt fun x=>by simp only [nC,List.map_cons,List.map_nil,markB,dfrO,trB,spB,waB,erO,trXO];omega)
  ·intro D xs x hS hI
   obtain ⟨hsf,hws⟩:=hS
   have hx:=hI
   have hpar:parseX tourStep zeroT s=some x.pl:=by (rw [parse_of hsf,← hws];exact hx.2)
   have hxn:xs.length≤10000:=by (have h1:=congrArg List.length hws;have h2:=linesL_len s;simp only [List.length_map] at h1;omega)
   refine RunE.keep (Sub.refl _) (news':=(D,dfrO)::(b3,kTO m)::kTB m::(b4,trXO x)::(b5,erO 0)::(trB x++(rest++[]))) (Pick.cnt fun x=>by simp only [nC,List.map_cons,List.map_nil,markB,dfrO,trB,spB,waB,erO,trXO];omega) ?_
   refine st ?_
   refine RunEF.next ?_
   refine RunCF.seq ?_
   refine RunCF.of ?_
   refine st ?_
   refine lv (Val.load_agg rfl (.tail _ (.tail _ (.tail _ (.head _)))) ty_25 rfl) ?_
   refine lv (Val.load_agg rfl (.tail _ (.head _)) ty_79 rfl) ?_
   refine RunL.callP (isCall_func rfl ent_41) rfl rfl rfl (fun w hm=>(writeTX_calls x xs.length hx.1 (hx.1.sm hxn) m _ W0 w (hm.pick (news':=trB x++(rest++[])) (Pick.cnt fun x=>by simp only [nC,List.map_cons,List.map_nil,markB,dfrO,trB,spB,waB,erO,trXO];omega)) (hL.mono hm))) ?_
   refine st ?_
   refine RunEF.next ?_
   refine RunCF.seq ?_
   refine RunCF.of ?_
   refine st ?_
   refine RunL.ways (dj:=40) rfl ?_ ?_
   ·intro g40
    have g40':=g40;clear g40
    try simp only [nH] at g40'
    refine st ?_
    refine lv (Val.eqlStr rfl rfl) ?_
    refine RunL.callT (isCall_func rfl ent_67) rfl rfl rfl (fun w hm=>need_calls _ _ w) (fun e45 he45=>?_) (fun v45 hv45=>?_)
    ·obtain ⟨er45,rfl⟩:=need_err he45
     refine RunE.pass_panic ?_
     exact RunE.panC2 (k:=8) (cs:=x.cells) (rest:=trB x++(rest++[])) [D] rdT_catches ent_102 (by decide) rfl (Pick.cnt fun x=>by simp only [nC,List.map_cons,List.map_nil,markB,dfrO,trB,spB,waB,erO,trXO];omega) (.r2 rfl (.agg rfl (.tail _ (.head _)) ty_25 rfl) (.one rfl (.head _) ty_42 rfl)) (fun w hm=>⟨(zeroTX,8),.inr ⟨8,read_no (by omega) hpar (fun h=>by have h2:=of_decide_eq_false er45;rw [if_pos h] at h2;exact h2),rfl⟩,rfl,hm.pick (news':=rest++[]) (Pick.cnt fun x=>by simp only [nC,List.map_cons,List.map_nil,markB,dfrO,trB,spB,waB,erO,trXO];omega)⟩)
    obtain ⟨ok45,rfl⟩:=need_ok hv45
    first | (have htx:tourX x.pl=true:=if01 g40') | skip
    refine st ?_
    refine RunEF.next ?_
    refine RunCF.seq ?_
    refine RunCF.of ?_
    refine st ?_
    refine lv (Val.load_agg rfl (.tail _ (.tail _ (.tail _ (.head _)))) ty_25 rfl) ?_
    refine RunL.sto (Sto.store (cs:=x.cells) (cs':=x.cells) rfl rfl (.there (.there (.there .here))) ty_25 rfl (paste_trX x)) rfl rfl ?_
    refine RunL.sto (Sto.store rfl rfl (.there (.there (.there (.there .here)))) ty_42 rfl rfl) rfl rfl ?_
    refine st ?_
    refine RunEF.next ?_
    refine RunCF.of ?_
    refine RunC.ret ?_
    exact RunE.outC2 (news2:=(b5,erO 0)::(b4,trXO x)::(trB x++(rest++[]))) [D] rdT_catches ent_102 (Pick.cnt fun x=>by simp only [nC,List.map_cons,List.map_nil,markB,dfrO,trB,spB,waB,erO,trXO];omega) (.head _) (.r2 rfl (.agg rfl (.tail _ (.head _)) ty_25 rfl) (.one rfl (.head _) ty_42 rfl)) (fun w hm=>⟨(x,0),.inl ⟨x.pl,read_yes (by omega) hpar htx (by have h2:=of_decide_eq_true ok45;rw [if_pos htx] at h2;exact h2),rfl,rfl,hx.1.le hxn⟩,rfl,hm.pick (Pick.cnt fun x=>by simp only [nC,List.map_cons,List.map_nil,markB,dfrO,trB,spB,waB,erO,trXO];omega)⟩)
   intro g40
   have g40':=g40;clear g40
   try simp only [nH] at g40'
   iterate 3 refine RunL.no rfl rfl rfl ?_
   refine st ?_
   refine RunL.callT (isCall_func rfl ent_67) rfl rfl rfl (fun w hm=>need_calls _ _ w) (fun e45 he45=>?_) (fun v45 hv45=>?_)
   ·obtain ⟨er45,rfl⟩:=need_err he45
    refine RunE.pass_panic ?_
    exact RunE.panC2 (k:=8) (cs:=x.cells) (rest:=trB x++(rest++[])) [D] rdT_catches ent_102 (by decide) rfl (Pick.cnt fun x=>by simp only [nC,List.map_cons,List.map_nil,markB,dfrO,trB,spB,waB,erO,trXO];omega) (.r2 rfl (.agg rfl (.tail _ (.head _)) ty_25 rfl) (.one rfl (.head _) ty_42 rfl)) (fun w hm=>⟨(zeroTX,8),.inr ⟨8,read_no (by omega) hpar (fun h=>by rw [if_pos h] at g40';exact absurd rfl g40'),rfl⟩,rfl,hm.pick (news':=rest++[]) (Pick.cnt fun x=>by simp only [nC,List.map_cons,List.map_nil,markB,dfrO,trB,spB,waB,erO,trXO];omega)⟩)
   obtain ⟨ok45,rfl⟩:=need_ok hv45
   first | (have htx:tourX x.pl=true:=if01 g40') | skip
   refine st ?_
   refine RunEF.next ?_
   refine RunCF.seq ?_
   refine RunCF.of ?_
   refine st ?_
   refine lv (Val.load_agg rfl (.tail _ (.tail _ (.tail _ (.head _)))) ty_25 rfl) ?_
   refine RunL.sto (Sto.store (cs:=x.cells) (cs':=x.cells) rfl rfl (.there (.there (.there .here))) ty_25 rfl (paste_trX x)) rfl rfl ?_
   refine RunL.sto (Sto.store rfl rfl (.there (.there (.there (.there .here)))) ty_42 rfl rfl) rfl rfl ?_
   refine st ?_
   refine RunEF.next ?_
   refine RunCF.of ?_
   refine RunC.ret ?_
   exact absurd ok45 (by decide)
  ·intro D c x hst
   exact hst.elim
  ·intro D c x hp
   obtain ⟨rfl,hnop⟩:=hp
   refine RunE.keep (Sub.refl _) (news':=(D,dfrO)::(b3,kTO m)::kTB m::(b4,trXO x)::(b5,erO 0)::(trB x++(rest++[]))) (Pick.cnt fun x=>by simp only [nC,List.map_cons,List.map_nil,markB,dfrO,trB,spB,waB,erO,trXO];omega) ?_
   refine RunE.block_panic ?_
   refine RunE.pass_panic ?_
   exact RunE.panC2 (k:=8) (cs:=x.cells) (rest:=trB x++(rest++[])) [D] rdT_catches ent_102 (by decide) rfl (Pick.cnt fun x=>by simp only [nC,List.map_cons,List.map_nil,markB,dfrO,trB,spB,waB,erO,trXO];omega) (.r2 rfl (.agg rfl (.tail _ (.head _)) ty_25 rfl) (.one rfl (.head _) ty_42 rfl)) (fun w hm=>⟨(zeroTX,8),.inr ⟨8,read_bad (by omega) hnop,rfl⟩,rfl,hm.pick (news':=rest++[]) (Pick.cnt fun x=>by simp only [nC,List.map_cons,List.map_nil,markB,dfrO,trB,spB,waB,erO,trXO];omega)⟩)
  intro D k xs x hq hI
  obtain ⟨rfl,rfl,hsf⟩:=hq
  have hnop:parseX tourStep zeroT s=none:=parse_no hsf
  refine RunE.keep (Sub.refl _) (news':=(D,dfrO)::(b3,kTO m)::kTB m::(b4,trXO x)::(b5,erO 0)::(trB x++(rest++[]))) (Pick.cnt fun x=>by simp only [nC,List.map_cons,List.map_nil,markB,dfrO,trB,spB,waB,erO,trXO];omega) ?_
  refine RunE.block_panic ?_
  refine RunE.pass_panic ?_
  exact RunE.panC2 (k:=8) (cs:=x.cells) (rest:=trB x++(rest++[])) [D] rdT_catches ent_102 (by decide) rfl (Pick.cnt fun x=>by simp only [nC,List.map_cons,List.map_nil,markB,dfrO,trB,spB,waB,erO,trXO];omega) (.r2 rfl (.agg rfl (.tail _ (.head _)) ty_25 rfl) (.one rfl (.head _) ty_42 rfl)) (fun w hm=>⟨(zeroTX,8),.inr ⟨8,read_bad (by omega) hnop,rfl⟩,rfl,hm.pick (news':=rest++[]) (Pick.cnt fun x=>by simp only [nC,List.map_cons,List.map_nil,markB,dfrO,trB,spB,waB,erO,trXO];omega)⟩)
end Go.Proofs.YtleamcmljcdapaaGreatDoor
namespace Go.Proofs.YtleamcmljcdapaaGreatDoor
open Go Go.Eng
theorem ap_28:apB Tryz.prog 28=some (98,4,32):=by kernel_rfl
theorem ent_113:Enters Tryz.prog 113:=enters_of Tryz.func113 (by kernel_rfl) rfl
theorem ent_115:Enters Tryz.prog 115:=enters_of Tryz.func115 (by kernel_rfl) rfl
theorem places_98:placesB Tryz.prog 98=some [(0,1),(1,1),(2,1),(3,1)]:=by kernel_rfl
end Go.Proofs.YtleamcmljcdapaaGreatDoor
namespace Go.Bk
open Go Go.Eng Go.RowKit
structure CbX where
  slots:Int
  homes:OL Int
  wrong:Int
  loans:OL Ln
def CbX.cells (x:CbX):List Value:=[.int .i64 x.slots,ownV x.homes.1 x.homes.2.length,.int .i64 x.wrong,ownV x.loans.1 x.loans.2.length]
def CbX.pl (x:CbX):Cb:=⟨x.slots,x.homes.2,x.wrong,x.loans.2⟩
structure CbXOk (n:Nat) (x:CbX):Prop where
  homes:x.homes.ok intC 1
  loans:x.loans.ok Ln.cells 4
  few:x.loans.2.length≤n
  s1:x.homes.2.length≤10000
theorem CbXOk.more {n:Nat} {x:CbX} (h:CbXOk n x):CbXOk (n + 1) x:=⟨h.homes,h.loans,Nat.le_succ_of_le h.few,h.s1⟩
theorem CbXOk.le {n m:Nat} {x:CbX} (h:CbXOk n x) (hm:n≤m):CbXOk m x:=⟨h.homes,h.loans,Nat.le_trans h.few hm,h.s1⟩
def lookAt (all:List Str) (j:Nat):Option Ln:=match numAt all j with
  | some s=>if j + 1 < all.length then
      if all.getD (j + 1) []=wNone then some ⟨2,-1,0,s⟩ else (numP (all.getD (j + 1) [])).map fun c=>⟨2,c,0,s⟩
    else none
  | none=>none
def loanAt (k:Int) (all:List Str) (j:Nat):Option Ln:=match numAt all j,numAt all (j + 1) with
  | some c,some p=>some ⟨k,c,p,0⟩
  | _,_=>none
def sizesAt (x:Cb) (all:List Str):Option Cb:=match numAt all 1,numAt all 2 with
  | some a,some b=>some { x with slots:=a,wrong:=b }
  | _,_=>none
def cabStep (x:Cb) (all:List Str):Option Cb :=
  if all.getD 0 []=wCab then sizesAt x all
  else if all.getD 0 []=wHomes then (allP numP (all.drop 1)).map fun l=>{ x with homes:=l }
  else if all.getD 0 []=wLook then (lookAt all 1).map fun l=>{ x with loans:=x.loans++[l] }
  else if all.getD 0 []=wTake then (loanAt 0 all 1).map fun l=>{ x with loans:=x.loans++[l] }
  else if all.getD 0 []=wBack then (loanAt 1 all 1).map fun l=>{ x with loans:=x.loans++[l] }
  else none
theorem loan_no1 {k:Int} {all:List Str} {j:Nat} (h:all.length≤j∨numP (all.getD j [])=none):loanAt k all j=none:=by unfold loanAt;rw [numAt_no h]
theorem loan_no2 {k:Int} {all:List Str} {j:Nat} {n:Int} (h1:j < all.length∧numP (all.getD j [])=some n) (h:all.length≤j + 1∨numP (all.getD (j + 1) [])=none):loanAt k all j=none:=by unfold loanAt;rw [numAt_ok h1,numAt_no h]
theorem loan_yes {k:Int} {all:List Str} {j:Nat} {n m:Int} (h1:j < all.length∧numP (all.getD j [])=some n) (h:j + 1 < all.length∧numP (all.getD (j + 1) [])=some m):loanAt k all j=some ⟨k,n,m,0⟩:=by unfold loanAt;rw [numAt_ok h1,numAt_ok h]
end Go.Bk
namespace Go.Proofs.YtleamcmljcdapaaGreatDoor
open Go Go.Eng Go.Bk Go.RowKit

abbrev inB (z:OL Int):Blks:=ownB 3 z.1 (z.2.map intC).flatten
abbrev lnB (z:OL Ln):Blks:=ownB 98 z.1 (z.2.map Ln.cells).flatten
abbrev cbXO (x:CbX):Obj:=.cells x.cells.toArray 30 (0,0)
abbrev cbM (xb:Nat) (x:CbX) (tl:Blks):Blks:=(xb,cbXO x)::(inB x.homes++(lnB x.loans++tl))
abbrev LineC (W0:World) (xb:Nat) (n:Nat) (p:Option Cb) (rest:Blks):Ending→World→Prop :=
  GrowT W0 [] (fun _:CbX=>.tuple #[]) (fun z=>cbM xb z (rest++[])) (fun z=>CbXOk (n + 1) z∧p=some z.pl) misf (fun _:CbX=>8) (fun z=>cbM xb z (rest++[])) (fun z=>CbXOk (n + 1) z∧p=none)
theorem look_calls (wb sb:Nat) (all:List Str) (j:Nat) (rest:Blks) (W0 w:World) (hL:Lw Tryz.prog W0) (hm0:Mem W0 [] (wdM wb sb all j rest) w) (hj:WdOk all j) :
    Calls Tryz.prog 115 #[pV wb] w (GrowT W0 [] (fun l:Ln=>.agg l.cells.toArray) (fun _=>rest++[]) (fun l=>lookAt all j=some l) misf (fun _:Unit=>8) (fun _=>rest++[]) (fun _=>lookAt all j=none)):=by
  refine calls_from hm0 Tryz.func115 rfl rfl ?_
  refine st ?_
  refine RunL.new (New.alloc zero_98) rfl rfl rfl (fun b2=>?_)
  refine st ?_
  refine RunL.callGT (isCall_func rfl ent_92) rfl rfl rfl (fun w hm=>(calls_reT (A:=[(b2,.cells [.int .i64 0,.int .i64 0,.int .i64 0,.int .i64 0].toArray 98 (0,0))]) (number_calls wb sb all j ((b2,.cells [.int .i64 0,.int .i64 0,.int .i64 0,.int .i64 0].toArray 98 (0,0))::rest) W0 w hL (hm.pick (Pick.cnt fun x=>by simp only [nC];omega)) hj))) (fun p5 hp5=>?_) (fun z5 hz5=>?_)
  ·refine RunE.pass_panic ?_
   exact RunE.panGT () (by unfold lookAt;rw [numAt_no hp5]) rfl (Pick.cnt fun x=>by simp only [nC];omega)
  refine lv (Val.build (parts:=[(0,.const (.int .i64 2)),(3,.tmp 5),(1,.const (.int .i64 (-1)))]) rfl zero_98 places_98 rfl) ?_
  refine RunL.sto (Sto.store rfl rfl .here ty_98 rfl rfl) rfl rfl ?_
  refine st ?_
  refine RunL.callGT (isCall_func rfl ent_104) rfl rfl rfl (fun w hm=>(calls_reT (A:=[(b2,.cells [.int .i64 2,.int .i64 (-1),.int .i64 0,.int .i64 z5].toArray 98 (0,0))]) (word_calls wb sb all (j + 1) ((b2,.cells [.int .i64 2,.int .i64 (-1),.int .i64 0,.int .i64 z5].toArray 98 (0,0))::rest) W0 w (hm.pick (Pick.cnt fun x=>by simp only [nC];omega)) (hj.next hz5.1)))) (fun p8 hp8=>?_) (fun z8 hz8=>?_)
  ·refine RunE.pass_panic ?_
   refine RunE.pass_panic ?_
   exact RunE.panGT () (by unfold lookAt;rw [numAt_ok hz5];exact if_neg (by omega)) rfl (Pick.cnt fun x=>by simp only [nC];omega)
  refine st ?_
  refine lv (Val.neqStr rfl rfl) ?_
  refine cn rfl ?_ ?_
  ·intro c0'
   have hne:¬ all.getD (j + 1) []=wNone:=by simpa [wNone] using c0'
   refine st ?_
   refine RunL.callT (isCall_func rfl ent_138) rfl rfl rfl (fun w hm=>(figure_calls (all.getD (j + 1) []) (by have:=(hj.next hz5.1).get;omega) w (hL.mono hm))) (fun e12 he12=>?_) (fun v12 hv12=>?_)
   ·obtain ⟨hn,rfl⟩:=figX_err he12
    refine RunE.pass_panic ?_
    exact RunE.panGT () (by unfold lookAt;rw [numAt_ok hz5];dsimp only;rw [if_pos hz8,if_neg hne,hn];rfl) rfl (Pick.cnt fun x=>by simp only [nC];omega)
   obtain ⟨n,hn,rfl⟩:=figX_ok hv12
   refine lv (Val.fieldAddr rfl fld_98_1) ?_
   refine RunL.sto (Sto.store rfl rfl .here ty_3 rfl rfl) rfl rfl ?_
   refine st ?_
   refine lv (Val.load_agg rfl (.head _) ty_98 rfl) ?_
   refine RunL.sto (Sto.store rfl rfl .here ty_98 rfl rfl) rfl rfl ?_
   refine st ?_
   refine RunC.ret ?_
   exact RunE.retGT ⟨2,n,0,z5⟩ (by unfold lookAt;rw [numAt_ok hz5];dsimp only;rw [if_pos hz8,if_neg hne,hn];rfl) (.r1 rfl (.agg rfl (.head _) ty_98 rfl)) rfl (Pick.cnt fun x=>by simp only [nC];omega)
  intro c0'
  have he:all.getD (j + 1) []=wNone:=by simpa [wNone] using c0'
  refine st ?_
  refine lv (Val.load_agg rfl (.head _) ty_98 rfl) ?_
  refine RunL.sto (Sto.store rfl rfl .here ty_98 rfl rfl) rfl rfl ?_
  refine st ?_
  refine RunC.ret ?_
  exact RunE.retGT ⟨2,-1,0,z5⟩ (by unfold lookAt;rw [numAt_ok hz5];dsimp only;rw [if_pos hz8,if_pos he]) (.r1 rfl (.agg rfl (.head _) ty_98 rfl)) rfl (Pick.cnt fun x=>by simp only [nC];omega)
section
variable (wb sb:Nat) (all:List Str) (xb:Nat) (x:CbX) (n:Nat) (rest:Blks) (W0 w:World) (hL:Lw Tryz.prog W0) (hm0:Mem W0 [] ((wb,wdO sb all.length 1)::(sb,stO all)::cbM xb x (rest++[])) w) (hj:WdOk all 1) (hx:CbXOk n x) (hn:n≤10000)
include hL hm0 hj hx hn
theorem hCab_calls:Calls Tryz.prog 111 #[pV xb,pV wb] w (LineC W0 xb n (sizesAt x.pl all) rest):=by
  have _hn:=hn
  refine calls_from hm0 Tryz.func111 rfl rfl ?_
  refine st ?_
  refine RunL.callGT (isCall_func rfl ent_92) rfl rfl rfl (fun w hm=>(calls_reG (nw':=fun _=>(wb,wdO sb all.length (1 + 1))::(sb,stO all)::cbM xb x (rest++[])) (np':=fun _=>cbM xb x (rest++[])) (number_calls wb sb all 1 (cbM xb x rest) W0 w hL (hm.pick (Pick.cnt fun x=>by simp only [nC,inB,lnB];omega)) hj) (fun _=>(Pick.cnt fun x=>by simp only [nC,inB,lnB];omega)) (fun _=>(Pick.cnt fun x=>by simp only [nC,inB,lnB];omega)))) (fun p7 hp7=>?_) (fun z7 hz7=>?_)
  ·exact RunE.panGT x ⟨hx.more,by unfold sizesAt;rw [numAt_no hp7]⟩ rfl (.cons .here rfl (Pick.refl _))
  refine st ?_
  refine RunL.callGT (isCall_func rfl ent_92) rfl rfl rfl (fun w hm=>(calls_reG (nw':=fun _=>cbM xb x (rest++[])) (np':=fun _=>cbM xb x (rest++[])) (number_calls wb sb all (1 + 1) (cbM xb x rest) W0 w hL (hm.pick (Pick.cnt fun x=>by simp only [nC,inB,lnB];omega)) (hj.next hz7.1)) (fun _=>(Pick.cnt fun x=>by simp only [nC,inB,lnB];omega)) (fun _=>(Pick.cnt fun x=>by simp only [nC,inB,lnB];omega)))) (fun p9 hp9=>?_) (fun z9 hz9=>?_)
  ·exact RunE.panGT x ⟨hx.more,by unfold sizesAt;rw [numAt_ok hz7,numAt_no hp9]⟩ rfl (.cons .here rfl (Pick.refl _))
  refine st ?_
  refine lv (Val.fieldAddr rfl fld_30_0) ?_
  refine RunL.sto (Sto.store rfl rfl .here ty_3 rfl rfl) rfl rfl ?_
  refine st ?_
  refine lv (Val.fieldAddr rfl fld_30_2) ?_
  refine RunL.sto (Sto.store rfl rfl .here ty_3 rfl rfl) rfl rfl ?_
  refine st ?_
  exact RunE.finGT { x with slots:=z7,wrong:=z9 } ⟨⟨hx.homes,hx.loans,Nat.le_succ_of_le hx.few,hx.s1⟩,by unfold sizesAt;rw [numAt_ok hz7,numAt_ok hz9];rfl⟩ (.r0 rfl) rfl (.cons .here rfl (Pick.refl _))
theorem hHomes_calls:Calls Tryz.prog 112 #[pV xb,pV wb] w (LineC W0 xb n ((allP numP (all.drop 1)).map fun l=>{ x.pl with homes:=l }) rest):=by
  have _hn:=hn
  have hdl:(all.drop 1).length≤10000:=by rw [List.length_drop];have:=hj.few;omega
  refine calls_from hm0 Tryz.func112 rfl rfl ?_
  refine st ?_
  refine RunL.callGT (isCall_func rfl ent_113) rfl rfl rfl (fun w hm=>(calls_reG (nw':=fun z=>(xb,cbXO x)::(inB z++(lnB x.loans++(rest++[])))) (np':=fun _=>cbM xb x (rest++[])) (allI_calls wb sb all 1 (cbM xb x rest) W0 w hL (hm.pick (Pick.cnt fun x=>by simp only [nC,inB,lnB];omega)) hj) (fun _=>(Pick.cnt fun x=>by simp only [nC,inB,lnB];omega)) (fun _=>(Pick.cnt fun x=>by simp only [nC,inB,lnB];omega)))) (fun p8 hp8=>?_) (fun z8 hz8=>?_)
  ·exact RunE.panGT x ⟨hx.more,by rw [hp8];rfl⟩ rfl (.cons .here rfl (Pick.refl _))
  refine st ?_
  refine lv (Val.fieldAddr rfl fld_30_1) ?_
  refine RunL.sto (Sto.storeOwn rfl rfl .here ty_27 rfl rfl) rfl rfl ?_
  refine st ?_
  exact RunE.finGT { x with homes:=z8 } ⟨⟨hz8.1,hx.loans,Nat.le_succ_of_le hx.few,by rw [allP_len hz8.2];exact hdl⟩,by rw [hz8.2];rfl⟩ (.r0 rfl) rfl (.cons .here rfl (Pick.refl _))
theorem hLook_calls:Calls Tryz.prog 114 #[pV xb,pV wb] w (LineC W0 xb n ((lookAt all 1).map fun l=>{ x.pl with loans:=x.pl.loans++[l] }) rest):=by
  have hl:=hx.loans
  have hfew:=hx.few
  refine calls_from hm0 Tryz.func114 rfl rfl ?_
  refine RunC.draw 9 fol_ (.cons (.there (.there .here)) rfl .nil) ?_
  refine va 0 rfl (Val.pure rfl) rfl rfl rfl (.cons (.there (.there .here)) rfl .nil) rfl ?_
  refine va 1 rfl (Val.pure rfl) rfl rfl rfl (.cons (.there (.there .here)) rfl .nil) rfl ?_
  refine va 2 rfl (Val.pure rfl) rfl rfl rfl (.cons (.there (.there .here)) rfl .nil) rfl ?_
  refine va 3 rfl (Val.fieldAddr rfl fld_30_3) rfl rfl rfl (.cons (.there (.there .here)) rfl .nil) rfl ?_
  refine va 4 rfl (Val.load_one rfl (.head _) ty_28 rfl) rfl rfl rfl (.cons (.there (.there .here)) rfl .nil) rfl ?_
  refine va 5 rfl (Val.pure rfl) rfl rfl rfl (.cons (.there (.there .here)) rfl .nil) rfl ?_
  refine RunA.one (i:=6) (by kernel_rfl) (by kernel_rfl) ?_
  refine RunI.callGT rfl (isCall_func rfl ent_115) rfl rfl rfl (fun w hm=>(calls_reG (nw':=fun _=>(xb,cbXO x)::(lnB x.loans++(inB x.homes++(rest++[])))) (np':=fun _=>cbM xb x (rest++[])) (look_calls wb sb all 1 (cbM xb x rest) W0 w hL (hm.pick (Pick.cnt fun x=>by simp only [nC,inB,lnB];omega)) hj) (fun _=>(Pick.cnt fun x=>by simp only [nC,inB,lnB];omega)) (fun _=>(Pick.cnt fun x=>by simp only [nC,inB,lnB];omega)))) (fun p10 hp10=>?_) (fun z10 hz10=>(RunK.toA (.cons .here rfl .nil) (.cons .here rfl .nil) rfl ?_))
  ·exact RunE.panGT x ⟨hx.more,by rw [hp10];rfl⟩ rfl (.cons .here rfl (Pick.refl _))
  refine RunA.one (i:=7) (by kernel_rfl) (by kernel_rfl) ?_
  refine RunI.new rfl (New.buildSlice (parts:=[(0,.tmp 10)]) rfl sl_28 zero_98 rfl rfl rfl rfl) rfl rfl rfl (fun b11=>(RunK.toA (.cons .here rfl (.cons .here rfl .nil)) (.cons (.there .here) rfl .nil) rfl ?_))
  refine RunA.one (i:=8) (by kernel_rfl) (by kernel_rfl) ?_
  refine RunI.append (A:=[(b11,_),(xb,_)]) (B:=_) (x:=x.loans.1) (ys:=z10.cells) rfl ap_28 rfl rfl rfl hl rfl (fun h=>by cases h) (fun w hm=>src_blk (hm.at (.head _))) (one_of rfl) (by simp only [maxLen];omega) (by omega) rfl (fun z12 hz12=>(RunK.toA (.cons .here rfl (.cons .here rfl .nil)) (.cons .here rfl (.cons .here rfl .nil)) rfl ?_))
  refine RunA.toB (by kernel_rfl) ?_
  refine RunB.one (i:=9) (by kernel_rfl) ?_
  refine RunI.val rfl (Val.pure rfl) rfl rfl rfl (RunK.toB ?_)
  refine RunB.one (i:=10) (by kernel_rfl) ?_
  refine RunI.val rfl (Val.fieldAddr rfl fld_30_3) rfl rfl rfl (RunK.toB ?_)
  refine RunB.one (i:=11) (by kernel_rfl) ?_
  refine RunI.sto rfl (Sto.storeOwn rfl rfl (.there .here) ty_28 rfl rfl) rfl rfl (RunK.toB ?_)
  refine RunB.done (by kernel_rfl) ?_
  exact RunE.finGT { x with loans:=(z12,x.loans.2++[z10]) } ⟨⟨hx.homes,ol_snoc (z:=x.loans.1) hz12,by simp;omega,hx.s1⟩,by rw [hz10];simp [CbX.pl]⟩ (.r0 rfl) rfl (by simp only [cbM,cbXO,inB,lnB,CbX.cells,List.length_append,List.length_singleton,List.map_append,List.flatten_append,List.map_cons,List.map_nil,List.flatten_cons,List.flatten_nil,List.append_nil];exact (.cons (.there .here) rfl (Pick.cnt fun x=>by simp only [nC,inB,lnB];omega)))
omit hm0 in
theorem hLoan_calls (k:Int) (nb:Nat) (hm0:Mem W0 [] ((wb,wdO sb all.length 1)::(sb,stO all)::cbM xb x ((nb,.cells [.int .i64 k].toArray 3 (0,0))::rest++[])) w):Calls Tryz.prog 118 #[pV xb,pV wb,pV nb] w (LineC W0 xb n ((loanAt k all 1).map fun l=>{ x.pl with loans:=x.pl.loans++[l] }) ((nb,.cells [.int .i64 k].toArray 3 (0,0))::rest)):=by
  have hl:=hx.loans
  have hfew:=hx.few
  have hm1:Mem W0 [] ((wb,wdO sb all.length 1)::(sb,stO all)::(nb,.cells [.int .i64 k].toArray 3 (0,0))::cbM xb x (rest++[])) w:=hm0.pick (Pick.cnt fun x=>by simp only [nC];omega)
  refine calls_from hm1 Tryz.func118 rfl rfl ?_
  refine RunC.draw 13 fol_ (.cons (.there (.there .here)) rfl (.cons (.there (.there .here)) rfl .nil)) ?_
  refine va 0 rfl (Val.pure rfl) rfl rfl rfl (.cons (.there (.there .here)) rfl (.cons (.there (.there .here)) rfl .nil)) rfl ?_
  refine va 1 rfl (Val.pure rfl) rfl rfl rfl (.cons (.there (.there .here)) rfl (.cons (.there (.there .here)) rfl .nil)) rfl ?_
  refine va 2 rfl (Val.pure rfl) rfl rfl rfl (.cons (.there (.there .here)) rfl (.cons (.there (.there .here)) rfl .nil)) rfl ?_
  refine va 3 rfl (Val.fieldAddr rfl fld_30_3) rfl rfl rfl (.cons (.there (.there .here)) rfl (.cons (.there (.there .here)) rfl .nil)) rfl ?_
  refine va 4 rfl (Val.load_one rfl (.tail _ (.head _)) ty_28 rfl) rfl rfl rfl (.cons (.there (.there .here)) rfl (.cons (.there (.there .here)) rfl .nil)) rfl ?_
  refine va 5 rfl (Val.load_one rfl (.head _) ty_3 rfl) rfl rfl rfl (.cons (.there (.there .here)) rfl (.cons (.there (.there .here)) rfl .nil)) rfl ?_
  refine va 6 rfl (Val.pure rfl) rfl rfl rfl (.cons (.there (.there .here)) rfl (.cons (.there (.there .here)) rfl .nil)) rfl ?_
  refine va 8 rfl (Val.pure rfl) rfl rfl rfl (.cons (.there (.there .here)) rfl (.cons (.there (.there .here)) rfl .nil)) rfl ?_
  refine RunA.one (i:=7) (by kernel_rfl) (by kernel_rfl) ?_
  refine RunI.callGT rfl (isCall_func rfl ent_92) rfl rfl rfl (fun w hm=>(calls_reG (nw':=fun _=>(wb,wdO sb all.length (1 + 1))::(sb,stO all)::(nb,.cells [.int .i64 k].toArray 3 (0,0))::(xb,cbXO x)::(lnB x.loans++(inB x.homes++(rest++[])))) (np':=fun _=>(nb,.cells [.int .i64 k].toArray 3 (0,0))::cbM xb x (rest++[])) (number_calls wb sb all 1 ((nb,.cells [.int .i64 k].toArray 3 (0,0))::cbM xb x rest) W0 w hL (hm.pick (Pick.cnt fun x=>by simp only [nC,inB,lnB];omega)) hj) (fun _=>(Pick.cnt fun x=>by simp only [nC,inB,lnB];omega)) (fun _=>(Pick.cnt fun x=>by simp only [nC,inB,lnB];omega)))) (fun p12 hp12=>?_) (fun z12 hz12=>(RunK.toA (.cons (.there (.there .here)) rfl (.cons (.there (.there .here)) rfl .nil)) (.cons .here rfl (.cons .here rfl .nil)) rfl ?_))
  ·exact RunE.panGT x ⟨hx.more,by rw [loan_no1 hp12];rfl⟩ rfl (Pick.cnt fun x=>by simp only [nC,inB,lnB];omega)
  refine RunA.one (i:=9) (by kernel_rfl) (by kernel_rfl) ?_
  refine RunI.callGT rfl (isCall_func rfl ent_92) rfl rfl rfl (fun w hm=>(calls_reG (nw':=fun _=>(nb,.cells [.int .i64 k].toArray 3 (0,0))::(xb,cbXO x)::(lnB x.loans++(inB x.homes++(rest++[])))) (np':=fun _=>(nb,.cells [.int .i64 k].toArray 3 (0,0))::cbM xb x (rest++[])) (number_calls wb sb all (1 + 1) ((nb,.cells [.int .i64 k].toArray 3 (0,0))::cbM xb x rest) W0 w hL (hm.pick (Pick.cnt fun x=>by simp only [nC,inB,lnB];omega)) (hj.next hz12.1)) (fun _=>(Pick.cnt fun x=>by simp only [nC,inB,lnB];omega)) (fun _=>(Pick.cnt fun x=>by simp only [nC,inB,lnB];omega)))) (fun p14 hp14=>?_) (fun z14 hz14=>(RunK.toA (.cons .here rfl (.cons .here rfl .nil)) (.cons .here rfl (.cons .here rfl .nil)) rfl ?_))
  ·exact RunE.panGT x ⟨hx.more,by rw [loan_no2 hz12 hp14];rfl⟩ rfl (Pick.cnt fun x=>by simp only [nC,inB,lnB];omega)
  refine va 10 rfl (Val.build (parts:=[(0,.tmp 10),(1,.tmp 12),(2,.tmp 14)]) rfl zero_98 places_98 rfl) rfl rfl rfl (.cons .here rfl (.cons .here rfl .nil)) rfl ?_
  refine RunA.one (i:=11) (by kernel_rfl) (by kernel_rfl) ?_
  refine RunI.new rfl (New.buildSlice (parts:=[(0,.tmp 15)]) rfl sl_28 zero_98 rfl rfl rfl rfl) rfl rfl rfl (fun b16=>(RunK.toA (.cons .here rfl (.cons .here rfl (.cons .here rfl .nil))) (.cons (.there .here) rfl (.cons (.there .here) rfl .nil)) rfl ?_))
  refine RunA.one (i:=12) (by kernel_rfl) (by kernel_rfl) ?_
  refine RunI.append (A:=[(b16,_),(nb,_),(xb,_)]) (B:=_) (x:=x.loans.1) (ys:=(⟨k,z12,z14,0⟩:Ln).cells) rfl ap_28 rfl rfl rfl hl rfl (fun h=>by cases h) (fun w hm=>src_blk (hm.at (.head _))) (one_of rfl) (by simp only [maxLen];omega) (by omega) rfl (fun z17 hz17=>(RunK.toA (.cons .here rfl (.cons .here rfl (.cons .here rfl .nil))) (.cons .here rfl (.cons .here rfl (.cons .here rfl .nil))) rfl ?_))
  refine RunA.toB (by kernel_rfl) ?_
  refine RunB.one (i:=13) (by kernel_rfl) ?_
  refine RunI.val rfl (Val.pure rfl) rfl rfl rfl (RunK.toB ?_)
  refine RunB.one (i:=14) (by kernel_rfl) ?_
  refine RunI.val rfl (Val.fieldAddr rfl fld_30_3) rfl rfl rfl (RunK.toB ?_)
  refine RunB.one (i:=15) (by kernel_rfl) ?_
  refine RunI.sto rfl (Sto.storeOwn rfl rfl (.there (.there .here)) ty_28 rfl rfl) rfl rfl (RunK.toB ?_)
  refine RunB.done (by kernel_rfl) ?_
  exact RunE.finGT { x with loans:=(z17,x.loans.2++[⟨k,z12,z14,0⟩]) } ⟨⟨hx.homes,ol_snoc (z:=x.loans.1) hz17,by simp;omega,hx.s1⟩,by rw [loan_yes hz12 hz14];simp [CbX.pl]⟩ (.r0 rfl) rfl (by simp only [cbM,cbXO,inB,lnB,CbX.cells,List.length_append,List.length_singleton,List.map_append,List.flatten_append,List.map_cons,List.map_nil,List.flatten_cons,List.flatten_nil,List.append_nil];exact (.cons (.there (.there .here)) rfl (Pick.cnt fun x=>by simp only [nC,inB,lnB];omega)))
end
end Go.Proofs.YtleamcmljcdapaaGreatDoor
namespace Go.Proofs.YtleamcmljcdapaaGreatDoor
open Go Go.Eng
theorem ap_31:apB Tryz.prog 31=some (109,3,24):=by kernel_rfl
theorem ap_32:apB Tryz.prog 32=some (27,1,24):=by kernel_rfl
theorem ap_33:apB Tryz.prog 33=some (111,4,32):=by kernel_rfl
theorem places_109:placesB Tryz.prog 109=some [(0,1),(1,1),(2,1)]:=by kernel_rfl
theorem places_111:placesB Tryz.prog 111=some [(0,1),(1,1),(2,1),(3,1)]:=by kernel_rfl
theorem zero_27:zeroB Tryz.prog 27=some [.slice none 0 0]:=by kernel_rfl
end Go.Proofs.YtleamcmljcdapaaGreatDoor
namespace Go.Bk
open Go Go.Eng Go.RowKit
structure RyX where
  terms:OL Tm
  prices:OL Int
  shares:OL (OL Int)
  reports:OL Rp
  paid:OL Int
def RyX.cells (x:RyX):List Value:=[ownV x.terms.1 x.terms.2.length,ownV x.prices.1 x.prices.2.length,ownV x.shares.1 x.shares.2.length,ownV x.reports.1 x.reports.2.length,ownV x.paid.1 x.paid.2.length]
def RyX.pl (x:RyX):Ry:=⟨x.terms.2,x.prices.2,x.shares.2.map (·.2),x.reports.2,x.paid.2⟩
structure RyXOk (n:Nat) (x:RyX):Prop where
  terms:x.terms.ok Tm.cells 3
  prices:x.prices.ok intC 1
  shares:x.shares.ok rowC 1
  rows:∀ r∈x.shares.2,OL.ok r intC 1
  reports:x.reports.ok Rp.cells 4
  paid:x.paid.ok intC 1
  f1:x.terms.2.length≤n
  f2:x.prices.2.length≤n
  f3:x.shares.2.length≤n
  f4:x.reports.2.length≤n
  f5:x.paid.2.length≤n
  s3:∀ r∈x.shares.2,r.2.length≤10000
theorem RyXOk.le {n m:Nat} {x:RyX} (h:RyXOk n x) (hm:n≤m):RyXOk m x:=⟨h.terms,h.prices,h.shares,h.rows,h.reports,h.paid,Nat.le_trans h.f1 hm,Nat.le_trans h.f2 hm,Nat.le_trans h.f3 hm,Nat.le_trans h.f4 hm,Nat.le_trans h.f5 hm,h.s3⟩
theorem RyXOk.more {n:Nat} {x:RyX} (h:RyXOk n x):RyXOk (n + 1) x:=h.le (Nat.le_succ n)
theorem RyXOk.term {n:Nat} {x:RyX} {z:Eng.Own} {t:Tm} (h:RyXOk n x) (hz:OwnOk 3 z (x.terms.2.length + 1) ((x.terms.2.map Tm.cells).flatten++t.cells)):RyXOk (n + 1) { x with terms:=(z,x.terms.2++[t]) } :=
  ⟨ol_snoc (z:=x.terms.1) hz,h.prices,h.shares,h.rows,h.reports,h.paid,by simp;exact h.f1,Nat.le_succ_of_le h.f2,Nat.le_succ_of_le h.f3,Nat.le_succ_of_le h.f4,Nat.le_succ_of_le h.f5,h.s3⟩
theorem RyXOk.agent {n:Nat} {x:RyX} {z z':Eng.Own} {t:Tm} {p:Int} (h:RyXOk n x) (hz:OwnOk 3 z (x.terms.2.length + 1) ((x.terms.2.map Tm.cells).flatten++t.cells)) (hz':OwnOk 1 z' (x.paid.2.length + 1) ((x.paid.2.map intC).flatten++intC p)):RyXOk (n + 1) { x with terms:=(z,x.terms.2++[t]),paid:=(z',x.paid.2++[p]) } :=
  ⟨ol_snoc (z:=x.terms.1) hz,h.prices,h.shares,h.rows,h.reports,ol_snoc (z:=x.paid.1) hz',by simp;exact h.f1,Nat.le_succ_of_le h.f2,Nat.le_succ_of_le h.f3,Nat.le_succ_of_le h.f4,by simp;exact h.f5,h.s3⟩
theorem RyXOk.price {n:Nat} {x:RyX} {z:Eng.Own} {t:Int} (h:RyXOk n x) (hz:OwnOk 1 z (x.prices.2.length + 1) ((x.prices.2.map intC).flatten++intC t)):RyXOk (n + 1) { x with prices:=(z,x.prices.2++[t]) } :=
  ⟨h.terms,ol_snoc (z:=x.prices.1) hz,h.shares,h.rows,h.reports,h.paid,Nat.le_succ_of_le h.f1,by simp;exact h.f2,Nat.le_succ_of_le h.f3,Nat.le_succ_of_le h.f4,Nat.le_succ_of_le h.f5,h.s3⟩
theorem RyXOk.kind {n:Nat} {x:RyX} {z z':Eng.Own} {t:Int} {r:OL Int} (h:RyXOk n x) (hz:OwnOk 1 z (x.prices.2.length + 1) ((x.prices.2.map intC).flatten++intC t)) (hz':OwnOk 1 z' (x.shares.2.length + 1) ((x.shares.2.map rowC).flatten++rowC r)) (hr:OL.ok r intC 1) (hs:r.2.length≤10000):RyXOk (n + 1) { x with prices:=(z,x.prices.2++[t]),shares:=(z',x.shares.2++[r]) } :=
  ⟨h.terms,ol_snoc (z:=x.prices.1) hz,ol_snoc (z:=x.shares.1) hz',fun y hy=>(by rcases List.mem_append.1 hy with hy | hy;exact h.rows y hy;simp only [List.mem_singleton] at hy;subst hy;exact hr),h.reports,h.paid,Nat.le_succ_of_le h.f1,by simp;exact h.f2,by simp;exact h.f3,Nat.le_succ_of_le h.f4,Nat.le_succ_of_le h.f5,fun y hy=>(by rcases List.mem_append.1 hy with hy | hy;exact h.s3 y hy;simp only [List.mem_singleton] at hy;subst hy;exact hs)⟩
theorem RyXOk.report {n:Nat} {x:RyX} {z:Eng.Own} {t:Rp} (h:RyXOk n x) (hz:OwnOk 4 z (x.reports.2.length + 1) ((x.reports.2.map Rp.cells).flatten++t.cells)):RyXOk (n + 1) { x with reports:=(z,x.reports.2++[t]) } :=
  ⟨h.terms,h.prices,h.shares,h.rows,ol_snoc (z:=x.reports.1) hz,h.paid,Nat.le_succ_of_le h.f1,Nat.le_succ_of_le h.f2,Nat.le_succ_of_le h.f3,by simp;exact h.f4,Nat.le_succ_of_le h.f5,h.s3⟩
def agentAt (x:Ry) (all:List Str):Option Ry:=match numAt all 1,numAt all 2,numAt all 3,numAt all 4 with
  | some a,some b,some c,some d=>some { x with terms:=x.terms++[⟨a,b,c⟩],paid:=x.paid++[d] }
  | _,_,_,_=>none
def kindAt (x:Ry) (all:List Str):Option Ry:=match numAt all 1,allP numP (all.drop 2) with
  | some n,some l=>some { x with prices:=x.prices++[n],shares:=x.shares++[l] }
  | _,_=>none
def reportAt (x:Ry) (all:List Str):Option Ry:=match numAt all 1,numAt all 2,numAt all 3,numAt all 4 with
  | some a,some b,some c,some d=>some { x with reports:=x.reports++[⟨a,b,c,d⟩] }
  | _,_,_,_=>none
def royStep (x:Ry) (all:List Str):Option Ry :=
  if all.getD 0 []=wRoyal then some x
  else if all.getD 0 []=wAgent then agentAt x all
  else if all.getD 0 []=wKind then kindAt x all
  else if all.getD 0 []=wReport then reportAt x all
  else none
end Go.Bk
namespace Go.Proofs.YtleamcmljcdapaaGreatDoor
open Go Go.Eng Go.Bk Go.RowKit

abbrev tmB (z:OL Tm):Blks:=ownB 109 z.1 (z.2.map Tm.cells).flatten
abbrev rpB (z:OL Rp):Blks:=ownB 111 z.1 (z.2.map Rp.cells).flatten
abbrev shB (z:OL (OL Int)):Blks:=ownB 27 z.1 (z.2.map rowC).flatten
def inRows (l:List (OL Int)):Blks:=(l.map fun r=>inB r).flatten
theorem inRows_snoc (l:List (OL Int)) (r:OL Int):inRows (l++[r])=inRows l++inB r:=by simp [inRows]
abbrev ryXO (x:RyX):Obj:=.cells x.cells.toArray 35 (0,0)
abbrev ryM (xb:Nat) (x:RyX) (tl:Blks):Blks:=(xb,ryXO x)::(tmB x.terms++(inB x.prices++(shB x.shares++(inRows x.shares.2++(rpB x.reports++(inB x.paid++tl))))))
abbrev LineR (W0:World) (xb:Nat) (n:Nat) (p:Option Ry) (rest:Blks):Ending→World→Prop :=
  GrowT W0 [] (fun _:RyX=>.tuple #[]) (fun z=>ryM xb z (rest++[])) (fun z=>RyXOk (n + 1) z∧p=some z.pl) misf (fun _:RyX=>8) (fun z=>ryM xb z (rest++[])) (fun z=>RyXOk (n + 1) z∧p=none)
section
variable (wb sb:Nat) (all:List Str) (xb:Nat) (x:RyX) (n:Nat) (rest:Blks) (W0 w:World) (hL:Lw Tryz.prog W0) (hm0:Mem W0 [] ((wb,wdO sb all.length 1)::(sb,stO all)::ryM xb x (rest++[])) w) (hj:WdOk all 1) (hx:RyXOk n x) (hn:n≤10000)
include hL hm0 hj hx hn
theorem hRoyal_calls:Calls Tryz.prog 122 #[pV xb,pV wb] w (LineR W0 xb n (some x.pl) rest):=by
  have _hn:=hn
  have _hL:=hL
  have _hj:=hj
  refine calls_from hm0 Tryz.func122 rfl rfl ?_
  refine st ?_
  exact RunE.finGT x ⟨hx.more,rfl⟩ (.r0 rfl) rfl (Pick.cnt fun x=>by simp only [nC];omega)

theorem hReport_calls:Calls Tryz.prog 125 #[pV xb,pV wb] w (LineR W0 xb n (reportAt x.pl all) rest):=by
  have h1:=hx.f1
  have h2:=hx.f2
  have h3:=hx.f3
  have h4:=hx.f4
  have h5:=hx.f5
  refine calls_from hm0 Tryz.func125 rfl rfl ?_
  refine RunC.draw 16 fol_ (.cons (.there (.there .here)) rfl .nil) ?_
  refine va 0 rfl (Val.pure rfl) rfl rfl rfl (.cons (.there (.there .here)) rfl .nil) rfl ?_
  refine va 1 rfl (Val.pure rfl) rfl rfl rfl (.cons (.there (.there .here)) rfl .nil) rfl ?_
  refine va 2 rfl (Val.pure rfl) rfl rfl rfl (.cons (.there (.there .here)) rfl .nil) rfl ?_
  refine va 3 rfl (Val.fieldAddr rfl fld_35_3) rfl rfl rfl (.cons (.there (.there .here)) rfl .nil) rfl ?_
  refine va 4 rfl (Val.load_one rfl (.head _) ty_33 rfl) rfl rfl rfl (.cons (.there (.there .here)) rfl .nil) rfl ?_
  refine va 5 rfl (Val.pure rfl) rfl rfl rfl (.cons (.there (.there .here)) rfl .nil) rfl ?_
  refine va 7 rfl (Val.pure rfl) rfl rfl rfl (.cons (.there (.there .here)) rfl .nil) rfl ?_
  refine va 9 rfl (Val.pure rfl) rfl rfl rfl (.cons (.there (.there .here)) rfl .nil) rfl ?_
  refine va 11 rfl (Val.pure rfl) rfl rfl rfl (.cons (.there (.there .here)) rfl .nil) rfl ?_
  refine RunA.one (i:=6) (by kernel_rfl) (by kernel_rfl) ?_
  refine RunI.callGT rfl (isCall_func rfl ent_92) rfl rfl rfl (fun w hm=>(calls_reG (nw':=fun _=>(wb,wdO sb all.length (1 + 1))::(sb,stO all)::(xb,ryXO x)::(rpB x.reports++(tmB x.terms++(inB x.prices++(shB x.shares++(inRows x.shares.2++(inB x.paid++(rest++[])))))))) (np':=fun _=>(xb,ryXO x)::(rpB x.reports++(tmB x.terms++(inB x.prices++(shB x.shares++(inRows x.shares.2++(inB x.paid++(rest++[])))))))) (number_calls wb sb all (1) ((xb,ryXO x)::(rpB x.reports++(tmB x.terms++(inB x.prices++(shB x.shares++(inRows x.shares.2++(inB x.paid++rest))))))) W0 w hL (hm.pick (Pick.cnt fun x=>by simp only [nC,tmB,inB,shB,rpB];omega)) hj) (fun _=>(Pick.cnt fun x=>by simp only [nC,tmB,inB,shB,rpB];omega)) (fun _=>(Pick.cnt fun x=>by simp only [nC,tmB,inB,shB,rpB];omega)))) (fun p10 hp10=>?_) (fun z10 hz10=>(RunK.toA (.cons (.there (.there .here)) rfl .nil) (.cons .here rfl .nil) rfl ?_))
  ·exact RunE.panGT x ⟨hx.more,by unfold reportAt;rw [numAt_no hp10]⟩ rfl (Pick.cnt fun x=>by simp only [nC,tmB,inB,shB,rpB];omega)
  refine RunA.one (i:=8) (by kernel_rfl) (by kernel_rfl) ?_
  refine RunI.callGT rfl (isCall_func rfl ent_92) rfl rfl rfl (fun w hm=>(calls_reG (nw':=fun _=>(wb,wdO sb all.length (1 + 1 + 1))::(sb,stO all)::(xb,ryXO x)::(rpB x.reports++(tmB x.terms++(inB x.prices++(shB x.shares++(inRows x.shares.2++(inB x.paid++(rest++[])))))))) (np':=fun _=>(xb,ryXO x)::(rpB x.reports++(tmB x.terms++(inB x.prices++(shB x.shares++(inRows x.shares.2++(inB x.paid++(rest++[])))))))) (number_calls wb sb all (1 + 1) ((xb,ryXO x)::(rpB x.reports++(tmB x.terms++(inB x.prices++(shB x.shares++(inRows x.shares.2++(inB x.paid++rest))))))) W0 w hL (hm.pick (Pick.cnt fun x=>by simp only [nC,tmB,inB,shB,rpB];omega)) (hj.next hz10.1)) (fun _=>(Pick.cnt fun x=>by simp only [nC,tmB,inB,shB,rpB];omega)) (fun _=>(Pick.cnt fun x=>by simp only [nC,tmB,inB,shB,rpB];omega)))) (fun p12 hp12=>?_) (fun z12 hz12=>(RunK.toA (.cons (.there (.there .here)) rfl .nil) (.cons .here rfl .nil) rfl ?_))
  ·exact RunE.panGT x ⟨hx.more,by unfold reportAt;rw [numAt_ok hz10,numAt_no hp12]⟩ rfl (Pick.cnt fun x=>by simp only [nC,tmB,inB,shB,rpB];omega)
  refine RunA.one (i:=10) (by kernel_rfl) (by kernel_rfl) ?_
  refine RunI.callGT rfl (isCall_func rfl ent_92) rfl rfl rfl (fun w hm=>(calls_reG (nw':=fun _=>(wb,wdO sb all.length (1 + 1 + 1 + 1))::(sb,stO all)::(xb,ryXO x)::(rpB x.reports++(tmB x.terms++(inB x.prices++(shB x.shares++(inRows x.shares.2++(inB x.paid++(rest++[])))))))) (np':=fun _=>(xb,ryXO x)::(rpB x.reports++(tmB x.terms++(inB x.prices++(shB x.shares++(inRows x.shares.2++(inB x.paid++(rest++[])))))))) (number_calls wb sb all (1 + 1 + 1) ((xb,ryXO x)::(rpB x.reports++(tmB x.terms++(inB x.prices++(shB x.shares++(inRows x.shares.2++(inB x.paid++rest))))))) W0 w hL (hm.pick (Pick.cnt fun x=>by simp only [nC,tmB,inB,shB,rpB];omega)) ((hj.next hz10.1).next hz12.1)) (fun _=>(Pick.cnt fun x=>by simp only [nC,tmB,inB,shB,rpB];omega)) (fun _=>(Pick.cnt fun x=>by simp only [nC,tmB,inB,shB,rpB];omega)))) (fun p14 hp14=>?_) (fun z14 hz14=>(RunK.toA (.cons (.there (.there .here)) rfl .nil) (.cons .here rfl .nil) rfl ?_))
  ·exact RunE.panGT x ⟨hx.more,by unfold reportAt;rw [numAt_ok hz10,numAt_ok hz12,numAt_no hp14]⟩ rfl (Pick.cnt fun x=>by simp only [nC,tmB,inB,shB,rpB];omega)
  refine RunA.one (i:=12) (by kernel_rfl) (by kernel_rfl) ?_
  refine RunI.callGT rfl (isCall_func rfl ent_92) rfl rfl rfl (fun w hm=>(calls_reG (nw':=fun _=>(xb,ryXO x)::(rpB x.reports++(tmB x.terms++(inB x.prices++(shB x.shares++(inRows x.shares.2++(inB x.paid++(rest++[])))))))) (np':=fun _=>(xb,ryXO x)::(rpB x.reports++(tmB x.terms++(inB x.prices++(shB x.shares++(inRows x.shares.2++(inB x.paid++(rest++[])))))))) (number_calls wb sb all (1 + 1 + 1 + 1) ((xb,ryXO x)::(rpB x.reports++(tmB x.terms++(inB x.prices++(shB x.shares++(inRows x.shares.2++(inB x.paid++rest))))))) W0 w hL (hm.pick (Pick.cnt fun x=>by simp only [nC,tmB,inB,shB,rpB];omega)) (((hj.next hz10.1).next hz12.1).next hz14.1)) (fun _=>(Pick.cnt fun x=>by simp only [nC,tmB,inB,shB,rpB];omega)) (fun _=>(Pick.cnt fun x=>by simp only [nC,tmB,inB,shB,rpB];omega)))) (fun p16 hp16=>?_) (fun z16 hz16=>(RunK.toA (.cons .here rfl .nil) (.cons .here rfl .nil) rfl ?_))
  ·exact RunE.panGT x ⟨hx.more,by unfold reportAt;rw [numAt_ok hz10,numAt_ok hz12,numAt_ok hz14,numAt_no hp16]⟩ rfl (Pick.cnt fun x=>by simp only [nC,tmB,inB,shB,rpB];omega)
  refine va 13 rfl (Val.build (parts:=[(0,.tmp 10),(1,.tmp 12),(2,.tmp 14),(3,.tmp 16)]) rfl zero_111 places_111 rfl) rfl rfl rfl (.cons .here rfl .nil) rfl ?_
  refine RunA.one (i:=14) (by kernel_rfl) (by kernel_rfl) ?_
  refine RunI.new rfl (New.buildSlice (parts:=[(0,.tmp 17)]) rfl sl_33 zero_111 rfl rfl rfl rfl) rfl rfl rfl (fun b18=>(RunK.toA (.cons .here rfl (.cons .here rfl .nil)) (.cons (.there .here) rfl .nil) rfl ?_))
  refine RunA.one (i:=15) (by kernel_rfl) (by kernel_rfl) ?_
  refine RunI.append (A:=[(b18,_),(xb,_)]) (B:=_) (x:=x.reports.1) (ys:=(⟨z10,z12,z14,z16⟩:Rp).cells) rfl ap_33 rfl rfl rfl hx.reports rfl (fun h=>by cases h) (fun w hm=>src_blk (hm.at (.head _))) (one_of rfl) (by simp only [maxLen];omega) (by omega) rfl (fun z19 hz19=>(RunK.toA (.cons .here rfl (.cons .here rfl .nil)) (.cons .here rfl (.cons .here rfl .nil)) rfl ?_))
  refine RunA.toB (by kernel_rfl) ?_
  refine RunB.one (i:=16) (by kernel_rfl) ?_
  refine RunI.val rfl (Val.pure rfl) rfl rfl rfl (RunK.toB ?_)
  refine RunB.one (i:=17) (by kernel_rfl) ?_
  refine RunI.val rfl (Val.fieldAddr rfl fld_35_3) rfl rfl rfl (RunK.toB ?_)
  refine RunB.one (i:=18) (by kernel_rfl) ?_
  refine RunI.sto rfl (Sto.storeOwn rfl rfl (.there .here) ty_33 rfl rfl) rfl rfl (RunK.toB ?_)
  refine RunB.done (by kernel_rfl) ?_
  exact RunE.finGT { x with reports:=(z19,x.reports.2++[⟨z10,z12,z14,z16⟩]) } ⟨hx.report hz19,by unfold reportAt;rw [numAt_ok hz10,numAt_ok hz12,numAt_ok hz14,numAt_ok hz16];rfl⟩ (.r0 rfl) rfl (by simp only [ryM,ryXO,tmB,inB,shB,rpB,inRows_snoc,RyX.cells,List.length_append,List.length_singleton,List.map_append,List.flatten_append,List.map_cons,List.map_nil,List.flatten_cons,List.flatten_nil,List.append_nil];exact (.cons (.there .here) rfl (Pick.cnt fun x=>by simp only [nC,tmB,inB,shB,rpB];omega)))
theorem hAgent_calls:Calls Tryz.prog 123 #[pV xb,pV wb] w (LineR W0 xb n (agentAt x.pl all) rest):=by
  have h1:=hx.f1
  have h2:=hx.f2
  have h3:=hx.f3
  have h4:=hx.f4
  have h5:=hx.f5
  refine calls_from hm0 Tryz.func123 rfl rfl ?_
  refine st ?_
  refine RunC.draw 14 fol_ (.cons (.there (.there .here)) rfl .nil) ?_
  refine va 0 rfl (Val.pure rfl) rfl rfl rfl (.cons (.there (.there .here)) rfl .nil) rfl ?_
  refine va 1 rfl (Val.pure rfl) rfl rfl rfl (.cons (.there (.there .here)) rfl .nil) rfl ?_
  refine va 2 rfl (Val.pure rfl) rfl rfl rfl (.cons (.there (.there .here)) rfl .nil) rfl ?_
  refine va 3 rfl (Val.fieldAddr rfl fld_35_0) rfl rfl rfl (.cons (.there (.there .here)) rfl .nil) rfl ?_
  refine va 4 rfl (Val.load_one rfl (.head _) ty_31 rfl) rfl rfl rfl (.cons (.there (.there .here)) rfl .nil) rfl ?_
  refine va 5 rfl (Val.pure rfl) rfl rfl rfl (.cons (.there (.there .here)) rfl .nil) rfl ?_
  refine va 7 rfl (Val.pure rfl) rfl rfl rfl (.cons (.there (.there .here)) rfl .nil) rfl ?_
  refine va 9 rfl (Val.pure rfl) rfl rfl rfl (.cons (.there (.there .here)) rfl .nil) rfl ?_
  refine RunA.one (i:=6) (by kernel_rfl) (by kernel_rfl) ?_
  refine RunI.callGT rfl (isCall_func rfl ent_92) rfl rfl rfl (fun w hm=>(calls_reG (nw':=fun _=>(wb,wdO sb all.length (1 + 1))::(sb,stO all)::(xb,ryXO x)::(tmB x.terms++(inB x.prices++(shB x.shares++(inRows x.shares.2++(rpB x.reports++(inB x.paid++(rest++[])))))))) (np':=fun _=>(xb,ryXO x)::(tmB x.terms++(inB x.prices++(shB x.shares++(inRows x.shares.2++(rpB x.reports++(inB x.paid++(rest++[])))))))) (number_calls wb sb all (1) ((xb,ryXO x)::(tmB x.terms++(inB x.prices++(shB x.shares++(inRows x.shares.2++(rpB x.reports++(inB x.paid++rest))))))) W0 w hL (hm.pick (Pick.cnt fun x=>by simp only [nC,tmB,inB,shB,rpB];omega)) hj) (fun _=>(Pick.cnt fun x=>by simp only [nC,tmB,inB,shB,rpB];omega)) (fun _=>(Pick.cnt fun x=>by simp only [nC,tmB,inB,shB,rpB];omega)))) (fun p10 hp10=>?_) (fun z10 hz10=>(RunK.toA (.cons (.there (.there .here)) rfl .nil) (.cons .here rfl .nil) rfl ?_))
  ·refine RunE.pass_panic ?_
   exact RunE.panGT x ⟨hx.more,by unfold agentAt;rw [numAt_no hp10]⟩ rfl (Pick.cnt fun x=>by simp only [nC,tmB,inB,shB,rpB];omega)
  refine RunA.one (i:=8) (by kernel_rfl) (by kernel_rfl) ?_
  refine RunI.callGT rfl (isCall_func rfl ent_92) rfl rfl rfl (fun w hm=>(calls_reG (nw':=fun _=>(wb,wdO sb all.length (1 + 1 + 1))::(sb,stO all)::(xb,ryXO x)::(tmB x.terms++(inB x.prices++(shB x.shares++(inRows x.shares.2++(rpB x.reports++(inB x.paid++(rest++[])))))))) (np':=fun _=>(xb,ryXO x)::(tmB x.terms++(inB x.prices++(shB x.shares++(inRows x.shares.2++(rpB x.reports++(inB x.paid++(rest++[])))))))) (number_calls wb sb all (1 + 1) ((xb,ryXO x)::(tmB x.terms++(inB x.prices++(shB x.shares++(inRows x.shares.2++(rpB x.reports++(inB x.paid++rest))))))) W0 w hL (hm.pick (Pick.cnt fun x=>by simp only [nC,tmB,inB,shB,rpB];omega)) (hj.next hz10.1)) (fun _=>(Pick.cnt fun x=>by simp only [nC,tmB,inB,shB,rpB];omega)) (fun _=>(Pick.cnt fun x=>by simp only [nC,tmB,inB,shB,rpB];omega)))) (fun p12 hp12=>?_) (fun z12 hz12=>(RunK.toA (.cons (.there (.there .here)) rfl .nil) (.cons .here rfl .nil) rfl ?_))
  ·refine RunE.pass_panic ?_
   exact RunE.panGT x ⟨hx.more,by unfold agentAt;rw [numAt_ok hz10,numAt_no hp12]⟩ rfl (Pick.cnt fun x=>by simp only [nC,tmB,inB,shB,rpB];omega)
  refine RunA.one (i:=10) (by kernel_rfl) (by kernel_rfl) ?_
  refine RunI.callGT rfl (isCall_func rfl ent_92) rfl rfl rfl (fun w hm=>(calls_reG (nw':=fun _=>(wb,wdO sb all.length (1 + 1 + 1 + 1))::(sb,stO all)::(xb,ryXO x)::(tmB x.terms++(inB x.prices++(shB x.shares++(inRows x.shares.2++(rpB x.reports++(inB x.paid++(rest++[])))))))) (np':=fun _=>(xb,ryXO x)::(tmB x.terms++(inB x.prices++(shB x.shares++(inRows x.shares.2++(rpB x.reports++(inB x.paid++(rest++[])))))))) (number_calls wb sb all (1 + 1 + 1) ((xb,ryXO x)::(tmB x.terms++(inB x.prices++(shB x.shares++(inRows x.shares.2++(rpB x.reports++(inB x.paid++rest))))))) W0 w hL (hm.pick (Pick.cnt fun x=>by simp only [nC,tmB,inB,shB,rpB];omega)) ((hj.next hz10.1).next hz12.1)) (fun _=>(Pick.cnt fun x=>by simp only [nC,tmB,inB,shB,rpB];omega)) (fun _=>(Pick.cnt fun x=>by simp only [nC,tmB,inB,shB,rpB];omega)))) (fun p14 hp14=>?_) (fun z14 hz14=>(RunK.toA (.cons (.there (.there .here)) rfl .nil) (.cons .here rfl .nil) rfl ?_))
  ·refine RunE.pass_panic ?_
   exact RunE.panGT x ⟨hx.more,by unfold agentAt;rw [numAt_ok hz10,numAt_ok hz12,numAt_no hp14]⟩ rfl (Pick.cnt fun x=>by simp only [nC,tmB,inB,shB,rpB];omega)
  refine va 11 rfl (Val.build (parts:=[(0,.tmp 10),(1,.tmp 12),(2,.tmp 14)]) rfl zero_109 places_109 rfl) rfl rfl rfl (.cons (.there (.there .here)) rfl .nil) rfl ?_
  refine RunA.one (i:=12) (by kernel_rfl) (by kernel_rfl) ?_
  refine RunI.new rfl (New.buildSlice (parts:=[(0,.tmp 15)]) rfl sl_31 zero_109 rfl rfl rfl rfl) rfl rfl rfl (fun b16=>(RunK.toA (.cons (.there (.there (.there .here))) rfl .nil) (.cons .here rfl .nil) rfl ?_))
  refine RunA.one (i:=13) (by kernel_rfl) (by kernel_rfl) ?_
  refine RunI.append (A:=[(b16,_),(wb,_),(sb,_),(xb,_)]) (B:=_) (x:=x.terms.1) (ys:=(⟨z10,z12,z14⟩:Tm).cells) rfl ap_31 rfl rfl rfl hx.terms rfl (fun h=>by cases h) (fun w hm=>src_blk (hm.at (.head _))) (one_of rfl) (by simp only [maxLen];omega) (by omega) rfl (fun z17 hz17=>(RunK.toA (.cons (.there (.there (.there .here))) rfl .nil) (.cons .here rfl .nil) rfl ?_))
  refine RunA.toB (by kernel_rfl) ?_
  refine RunB.one (i:=14) (by kernel_rfl) ?_
  refine RunI.val rfl (Val.pure rfl) rfl rfl rfl (RunK.toB ?_)
  refine RunB.one (i:=15) (by kernel_rfl) ?_
  refine RunI.val rfl (Val.fieldAddr rfl fld_35_0) rfl rfl rfl (RunK.toB ?_)
  refine RunB.one (i:=16) (by kernel_rfl) ?_
  refine RunI.sto rfl (Sto.storeOwn rfl rfl (.there (.there (.there .here))) ty_31 rfl rfl) rfl rfl (RunK.toB ?_)
  refine RunB.done (by kernel_rfl) ?_
  refine st ?_
  refine RunC.draw 9 fol_ (.cons (.there (.there (.there .here))) rfl .nil) ?_
  refine va 0 rfl (Val.pure rfl) rfl rfl rfl (.cons (.there (.there (.there .here))) rfl .nil) rfl ?_
  refine va 1 rfl (Val.pure rfl) rfl rfl rfl (.cons (.there (.there (.there .here))) rfl .nil) rfl ?_
  refine va 2 rfl (Val.pure rfl) rfl rfl rfl (.cons (.there (.there (.there .here))) rfl .nil) rfl ?_
  refine va 3 rfl (Val.fieldAddr rfl fld_35_4) rfl rfl rfl (.cons (.there (.there (.there .here))) rfl .nil) rfl ?_
  refine va 4 rfl (Val.load_one rfl (.head _) ty_27 rfl) rfl rfl rfl (.cons (.there (.there (.there .here))) rfl .nil) rfl ?_
  refine va 5 rfl (Val.pure rfl) rfl rfl rfl (.cons (.there (.there (.there .here))) rfl .nil) rfl ?_
  refine RunA.one (i:=6) (by kernel_rfl) (by kernel_rfl) ?_
  refine RunI.callGT rfl (isCall_func rfl ent_92) rfl rfl rfl (fun w hm=>(calls_reG (nw':=fun _=>(xb,.cells (x.cells.set (0 + 0) (ownV z17 (x.terms.2.length + 1))).toArray 35 (0,0))::(inB x.paid++(ownB 109 z17 ((x.terms.2.map Tm.cells).flatten++(⟨z10,z12,z14⟩:Tm).cells)++(inB x.prices++(shB x.shares++(inRows x.shares.2++(rpB x.reports++(rest++[])))))))) (np':=fun _=>(xb,.cells (x.cells.set (0 + 0) (ownV z17 (x.terms.2.length + 1))).toArray 35 (0,0))::(inB x.paid++(ownB 109 z17 ((x.terms.2.map Tm.cells).flatten++(⟨z10,z12,z14⟩:Tm).cells)++(inB x.prices++(shB x.shares++(inRows x.shares.2++(rpB x.reports++(rest++[])))))))) (number_calls wb sb all (1 + 1 + 1 + 1) ((xb,.cells (x.cells.set (0 + 0) (ownV z17 (x.terms.2.length + 1))).toArray 35 (0,0))::(inB x.paid++(ownB 109 z17 ((x.terms.2.map Tm.cells).flatten++(⟨z10,z12,z14⟩:Tm).cells)++(inB x.prices++(shB x.shares++(inRows x.shares.2++(rpB x.reports++rest))))))) W0 w hL (hm.pick (Pick.cnt fun x=>by simp only [nC,tmB,inB,shB,rpB];omega)) (((hj.next hz10.1).next hz12.1).next hz14.1)) (fun _=>(Pick.cnt fun x=>by simp only [nC,tmB,inB,shB,rpB];omega)) (fun _=>(Pick.cnt fun x=>by simp only [nC,tmB,inB,shB,rpB];omega)))) (fun p26 hp26=>?_) (fun z26 hz26=>(RunK.toA (.cons .here rfl .nil) (.cons .here rfl .nil) rfl ?_))
  ·exact RunE.panGT { x with terms:=(z17,x.terms.2++[⟨z10,z12,z14⟩]) } ⟨hx.term hz17,by unfold agentAt;rw [numAt_ok hz10,numAt_ok hz12,numAt_ok hz14,numAt_no hp26]⟩ rfl (by simp only [ryM,ryXO,tmB,inB,shB,rpB,inRows_snoc,RyX.cells,List.length_append,List.length_singleton,List.map_append,List.flatten_append,List.map_cons,List.map_nil,List.flatten_cons,List.flatten_nil,List.append_nil];exact (.cons .here rfl (Pick.cnt fun x=>by simp only [nC,tmB,inB,shB,rpB];omega)))
  refine RunA.one (i:=7) (by kernel_rfl) (by kernel_rfl) ?_
  refine RunI.new rfl (New.buildSlice (parts:=[(0,.tmp 26)]) rfl sl_27 zero_3 rfl rfl rfl rfl) rfl rfl rfl (fun b27=>(RunK.toA (.cons .here rfl (.cons .here rfl .nil)) (.cons (.there .here) rfl .nil) rfl ?_))
  refine RunA.one (i:=8) (by kernel_rfl) (by kernel_rfl) ?_
  refine RunI.append (A:=[(b27,_),(xb,_)]) (B:=_) (x:=x.paid.1) (ys:=intC z26) rfl ap_27 rfl rfl rfl hx.paid rfl (fun h=>by cases h) (fun w hm=>src_blk (hm.at (.head _))) (one_of rfl) (by simp only [maxLen];omega) (by omega) rfl (fun z28 hz28=>(RunK.toA (.cons .here rfl (.cons .here rfl .nil)) (.cons .here rfl (.cons .here rfl .nil)) rfl ?_))
  refine RunA.toB (by kernel_rfl) ?_
  refine RunB.one (i:=9) (by kernel_rfl) ?_
  refine RunI.val rfl (Val.pure rfl) rfl rfl rfl (RunK.toB ?_)
  refine RunB.one (i:=10) (by kernel_rfl) ?_
  refine RunI.val rfl (Val.fieldAddr rfl fld_35_4) rfl rfl rfl (RunK.toB ?_)
  refine RunB.one (i:=11) (by kernel_rfl) ?_
  refine RunI.sto rfl (Sto.storeOwn rfl rfl (.there .here) ty_27 rfl rfl) rfl rfl (RunK.toB ?_)
  refine RunB.done (by kernel_rfl) ?_
  exact RunE.finGT { x with terms:=(z17,x.terms.2++[⟨z10,z12,z14⟩]),paid:=(z28,x.paid.2++[z26]) } ⟨hx.agent hz17 hz28,by unfold agentAt;rw [numAt_ok hz10,numAt_ok hz12,numAt_ok hz14,numAt_ok hz26];rfl⟩ (.r0 rfl) rfl (by simp only [ryM,ryXO,tmB,inB,shB,rpB,inRows_snoc,RyX.cells,List.length_append,List.length_singleton,List.map_append,List.flatten_append,List.map_cons,List.map_nil,List.flatten_cons,List.flatten_nil,List.append_nil];exact (.cons (.there .here) rfl (Pick.cnt fun x=>by simp only [nC,tmB,inB,shB,rpB];omega)))
theorem hKind_calls:Calls Tryz.prog 124 #[pV xb,pV wb] w (LineR W0 xb n (kindAt x.pl all) rest):=by
  have h1:=hx.f1
  have h2:=hx.f2
  have h3:=hx.f3
  have h4:=hx.f4
  have h5:=hx.f5
  refine calls_from hm0 Tryz.func124 rfl rfl ?_
  refine st ?_
  refine RunC.draw 9 fol_ (.cons (.there (.there .here)) rfl .nil) ?_
  refine va 0 rfl (Val.pure rfl) rfl rfl rfl (.cons (.there (.there .here)) rfl .nil) rfl ?_
  refine va 1 rfl (Val.pure rfl) rfl rfl rfl (.cons (.there (.there .here)) rfl .nil) rfl ?_
  refine va 2 rfl (Val.pure rfl) rfl rfl rfl (.cons (.there (.there .here)) rfl .nil) rfl ?_
  refine va 3 rfl (Val.fieldAddr rfl fld_35_1) rfl rfl rfl (.cons (.there (.there .here)) rfl .nil) rfl ?_
  refine va 4 rfl (Val.load_one rfl (.head _) ty_27 rfl) rfl rfl rfl (.cons (.there (.there .here)) rfl .nil) rfl ?_
  refine va 5 rfl (Val.pure rfl) rfl rfl rfl (.cons (.there (.there .here)) rfl .nil) rfl ?_
  refine RunA.one (i:=6) (by kernel_rfl) (by kernel_rfl) ?_
  refine RunI.callGT rfl (isCall_func rfl ent_92) rfl rfl rfl (fun w hm=>(calls_reG (nw':=fun _=>(wb,wdO sb all.length (1 + 1))::(sb,stO all)::(xb,ryXO x)::(inB x.prices++(tmB x.terms++(shB x.shares++(inRows x.shares.2++(rpB x.reports++(inB x.paid++(rest++[])))))))) (np':=fun _=>(xb,ryXO x)::(inB x.prices++(tmB x.terms++(shB x.shares++(inRows x.shares.2++(rpB x.reports++(inB x.paid++(rest++[])))))))) (number_calls wb sb all (1) ((xb,ryXO x)::(inB x.prices++(tmB x.terms++(shB x.shares++(inRows x.shares.2++(rpB x.reports++(inB x.paid++rest))))))) W0 w hL (hm.pick (Pick.cnt fun x=>by simp only [nC,tmB,inB,shB,rpB];omega)) hj) (fun _=>(Pick.cnt fun x=>by simp only [nC,tmB,inB,shB,rpB];omega)) (fun _=>(Pick.cnt fun x=>by simp only [nC,tmB,inB,shB,rpB];omega)))) (fun p10 hp10=>?_) (fun z10 hz10=>(RunK.toA (.cons (.there (.there .here)) rfl .nil) (.cons .here rfl .nil) rfl ?_))
  ·refine RunE.pass_panic ?_
   exact RunE.panGT x ⟨hx.more,by unfold kindAt;rw [numAt_no hp10]⟩ rfl (Pick.cnt fun x=>by simp only [nC,tmB,inB,shB,rpB];omega)
  refine RunA.one (i:=7) (by kernel_rfl) (by kernel_rfl) ?_
  refine RunI.new rfl (New.buildSlice (parts:=[(0,.tmp 10)]) rfl sl_27 zero_3 rfl rfl rfl rfl) rfl rfl rfl (fun b11=>(RunK.toA (.cons (.there (.there (.there .here))) rfl .nil) (.cons .here rfl .nil) rfl ?_))
  refine RunA.one (i:=8) (by kernel_rfl) (by kernel_rfl) ?_
  refine RunI.append (A:=[(b11,_),(wb,_),(sb,_),(xb,_)]) (B:=_) (x:=x.prices.1) (ys:=intC z10) rfl ap_27 rfl rfl rfl hx.prices rfl (fun h=>by cases h) (fun w hm=>src_blk (hm.at (.head _))) (one_of rfl) (by simp only [maxLen];omega) (by omega) rfl (fun z12 hz12=>(RunK.toA (.cons (.there (.there (.there .here))) rfl .nil) (.cons .here rfl .nil) rfl ?_))
  refine RunA.toB (by kernel_rfl) ?_
  refine RunB.one (i:=9) (by kernel_rfl) ?_
  refine RunI.val rfl (Val.pure rfl) rfl rfl rfl (RunK.toB ?_)
  refine RunB.one (i:=10) (by kernel_rfl) ?_
  refine RunI.val rfl (Val.fieldAddr rfl fld_35_1) rfl rfl rfl (RunK.toB ?_)
  refine RunB.one (i:=11) (by kernel_rfl) ?_
  refine RunI.sto rfl (Sto.storeOwn rfl rfl (.there (.there (.there .here))) ty_27 rfl rfl) rfl rfl (RunK.toB ?_)
  refine RunB.done (by kernel_rfl) ?_
  refine st ?_
  refine RunC.draw 11 fol_ (.cons (.there (.there (.there .here))) rfl .nil) ?_
  refine va 0 rfl (Val.pure rfl) rfl rfl rfl (.cons (.there (.there (.there .here))) rfl .nil) rfl ?_
  refine va 1 rfl (Val.pure rfl) rfl rfl rfl (.cons (.there (.there (.there .here))) rfl .nil) rfl ?_
  refine va 2 rfl (Val.pure rfl) rfl rfl rfl (.cons (.there (.there (.there .here))) rfl .nil) rfl ?_
  refine va 3 rfl (Val.fieldAddr rfl fld_35_2) rfl rfl rfl (.cons (.there (.there (.there .here))) rfl .nil) rfl ?_
  refine va 4 rfl (Val.load_one rfl (.head _) ty_32 rfl) rfl rfl rfl (.cons (.there (.there (.there .here))) rfl .nil) rfl ?_
  refine va 5 rfl (Val.pure rfl) rfl rfl rfl (.cons (.there (.there (.there .here))) rfl .nil) rfl ?_
  refine va 6 rfl (Val.pure rfl) rfl rfl rfl (.cons (.there (.there (.there .here))) rfl .nil) rfl ?_
  refine va 7 rfl (Val.pure rfl) rfl rfl rfl (.cons (.there (.there (.there .here))) rfl .nil) rfl ?_
  refine RunA.one (i:=8) (by kernel_rfl) (by kernel_rfl) ?_
  refine RunI.callGT rfl (isCall_func rfl ent_113) rfl rfl rfl (fun w hm=>(calls_reG (nw':=fun z=>(xb,.cells (x.cells.set (0 + 1) (ownV z12 (x.prices.2.length + 1))).toArray 35 (0,0))::(shB x.shares++(inB z++(tmB x.terms++(ownB 3 z12 ((x.prices.2.map intC).flatten++intC z10)++(inRows x.shares.2++(rpB x.reports++(inB x.paid++(rest++[]))))))))) (np':=fun _=>(xb,.cells (x.cells.set (0 + 1) (ownV z12 (x.prices.2.length + 1))).toArray 35 (0,0))::(shB x.shares++(tmB x.terms++(ownB 3 z12 ((x.prices.2.map intC).flatten++intC z10)++(inRows x.shares.2++(rpB x.reports++(inB x.paid++(rest++[])))))))) (allI_calls wb sb all (1 + 1) ((xb,.cells (x.cells.set (0 + 1) (ownV z12 (x.prices.2.length + 1))).toArray 35 (0,0))::(shB x.shares++(tmB x.terms++(ownB 3 z12 ((x.prices.2.map intC).flatten++intC z10)++(inRows x.shares.2++(rpB x.reports++(inB x.paid++rest))))))) W0 w hL (hm.pick (Pick.cnt fun x=>by simp only [nC,tmB,inB,shB,rpB];omega)) (hj.next hz10.1)) (fun _=>(Pick.cnt fun x=>by simp only [nC,tmB,inB,shB,rpB];omega)) (fun _=>(Pick.cnt fun x=>by simp only [nC,tmB,inB,shB,rpB];omega)))) (fun p23 hp23=>?_) (fun z23 hz23=>(RunK.toA (.cons .here rfl .nil) (.cons .here rfl .nil) rfl ?_))
  ·exact RunE.panGT { x with prices:=(z12,x.prices.2++[z10]) } ⟨hx.price hz12,by unfold kindAt;rw [numAt_ok hz10,hp23]⟩ rfl (by simp only [ryM,ryXO,tmB,inB,shB,rpB,inRows_snoc,RyX.cells,List.length_append,List.length_singleton,List.map_append,List.flatten_append,List.map_cons,List.map_nil,List.flatten_cons,List.flatten_nil,List.append_nil];exact (.cons .here rfl (Pick.cnt fun x=>by simp only [nC,tmB,inB,shB,rpB];omega)))
  refine RunA.one (i:=9) (by kernel_rfl) (by kernel_rfl) ?_
  refine RunI.new rfl (New.buildSliceOwn (x:=.tmp 23) rfl sl_32 zero_27) rfl rfl rfl (fun b24=>(RunK.toA (.cons .here rfl (.cons .here rfl .nil)) (.cons (.there .here) rfl .nil) rfl ?_))
  refine RunA.one (i:=10) (by kernel_rfl) (by kernel_rfl) ?_
  refine RunI.append (A:=[(b24,_),(xb,_)]) (B:=_) (x:=x.shares.1) (ys:=rowC z23) rfl ap_32 rfl rfl rfl hx.shares rfl (fun h=>by cases h) (fun w hm=>src_blk (hm.at (.head _))) (fun u hu=>by simp only [rowC,List.mem_singleton] at hu;subst hu;exact own_one' _ _) (by simp only [maxLen];omega) (by omega) rfl (fun z25 hz25=>(RunK.toA (.cons .here rfl (.cons .here rfl .nil)) (.cons .here rfl (.cons .here rfl .nil)) rfl ?_))
  refine RunA.toB (by kernel_rfl) ?_
  refine RunB.one (i:=11) (by kernel_rfl) ?_
  refine RunI.val rfl (Val.pure rfl) rfl rfl rfl (RunK.toB ?_)
  refine RunB.one (i:=12) (by kernel_rfl) ?_
  refine RunI.val rfl (Val.fieldAddr rfl fld_35_2) rfl rfl rfl (RunK.toB ?_)
  refine RunB.one (i:=13) (by kernel_rfl) ?_
  refine RunI.sto rfl (Sto.storeOwn rfl rfl (.there .here) ty_32 rfl rfl) rfl rfl (RunK.toB ?_)
  refine RunB.done (by kernel_rfl) ?_
  exact RunE.finGT { x with prices:=(z12,x.prices.2++[z10]),shares:=(z25,x.shares.2++[z23]) } ⟨hx.kind hz12 hz25 hz23.1 (by rw [allP_len hz23.2,List.length_drop];have:=hj.few;omega),by unfold kindAt;rw [numAt_ok hz10,hz23.2];simp [RyX.pl]⟩ (.r0 rfl) rfl (by simp only [ryM,ryXO,tmB,inB,shB,rpB,inRows_snoc,RyX.cells,List.length_append,List.length_singleton,List.map_append,List.flatten_append,List.map_cons,List.map_nil,List.flatten_cons,List.flatten_nil,List.append_nil];exact (.cons (.there .here) rfl (Pick.cnt fun x=>by simp only [nC,tmB,inB,shB,rpB];omega)))
end
end Go.Proofs.YtleamcmljcdapaaGreatDoor
namespace Go.Proofs.YtleamcmljcdapaaGreatDoor
open Go Go.Eng
theorem ent_111:Enters Tryz.prog 111:=enters_of Tryz.func111 (by kernel_rfl) rfl
theorem ent_112:Enters Tryz.prog 112:=enters_of Tryz.func112 (by kernel_rfl) rfl
theorem ent_114:Enters Tryz.prog 114:=enters_of Tryz.func114 (by kernel_rfl) rfl
theorem ent_118:Enters Tryz.prog 118:=enters_of Tryz.func118 (by kernel_rfl) rfl
theorem ent_119:Enters Tryz.prog 119:=enters_of Tryz.func119 (by kernel_rfl) rfl
theorem ent_122:Enters Tryz.prog 122:=enters_of Tryz.func122 (by kernel_rfl) rfl
theorem ent_123:Enters Tryz.prog 123:=enters_of Tryz.func123 (by kernel_rfl) rfl
theorem ent_124:Enters Tryz.prog 124:=enters_of Tryz.func124 (by kernel_rfl) rfl
theorem ent_125:Enters Tryz.prog 125:=enters_of Tryz.func125 (by kernel_rfl) rfl
theorem ent_127:Enters Tryz.prog 127:=enters_of Tryz.func127 (by kernel_rfl) rfl
theorem fld_106_1:fieldB Tryz.prog 106 1=some 1:=by kernel_rfl
theorem ty_104:tyB Tryz.prog 104=some (false,1):=by kernel_rfl
theorem zeroV_173:zeroV Tryz.prog 173=some (.nilFunc):=by kernel_rfl
theorem zeroV_182:zeroV Tryz.prog 182=some (.nilFunc):=by kernel_rfl
end Go.Proofs.YtleamcmljcdapaaGreatDoor
