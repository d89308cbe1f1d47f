/- Walks of the law of layer 14: the document's examples. -/
import Derived.Test.YtleamcmljcdapaaGreatDoorT04
import Derived.Test.YtleamcmljcdapaaGreatDoorRows
import Derived.Lib.LaidTab
import Derived.Stop.LaidErr
import Derived.MakeChecks
import Derived.Shelf.Vars
import Derived.Handed
import Derived.HandedShaped
import Derived.Lay
import Derived.Lib.LastIndexLaws
set_option linter.unusedSimpArgs false
set_option linter.unusedVariables false
namespace Go.Proofs.YtleamcmljcdapaaGreatDoor
open Go Go.Eng Go.Bk Go.RowKit

abbrev cO (cs:List Value) (T:TypeId):Obj:=.cells cs.toArray T (0,0)
theorem cO_ok {α:Type} {w:World} {b c:Nat} {T:TypeId} {f:α→List Value} {sz:Nat} (l:List α) (h:w.heap[b]? = some (cO (l.map f).flatten T)) (hf:∀ x,(f x).length=sz):(⟨l,some ⟨b,0,none⟩,b,0,c⟩:SA α).ok f sz w :=
  Sl.rowsR (xs:=l.map f) (t:=[]) (by rw [List.append_nil];exact h) (fun x hx=>by obtain ⟨y,_,rfl⟩:=List.mem_map.1 hx;exact hf y)
abbrev atB {α:Type} (l:List α) (b:Nat):SA α:=⟨l,some ⟨b,0,none⟩,b,0,l.length⟩
structure ExT where
  a:Nat
  b:Nat
  c:Nat
  d:Nat
  e:Nat
  f:Nat
  g:Nat
def exTR (z:ExT):List (SA Sp):=[atB [⟨0,0⟩,⟨15,20⟩,⟨45,50⟩] z.b,atB [⟨15,20⟩,⟨0,0⟩,⟨30,35⟩] z.c,atB [⟨45,50⟩,⟨30,35⟩,⟨0,0⟩] z.d]
def exTA (z:ExT):TrA:=⟨360,atB exT.fr z.a,atB (exTR z) z.e,atB exT.stay z.f,atB exT.light z.g⟩
theorem exTA_pl (z:ExT):(exTA z).pl=exT:=rfl
def exTB (z:ExT):Blks:=[(z.a,cO (exT.fr.map Sp.cells).flatten 38),(z.b,cO (([⟨0,0⟩,⟨15,20⟩,⟨45,50⟩]:List Sp).map Sp.cells).flatten 38),(z.c,cO (([⟨15,20⟩,⟨0,0⟩,⟨30,35⟩]:List Sp).map Sp.cells).flatten 38),(z.d,cO (([⟨45,50⟩,⟨30,35⟩,⟨0,0⟩]:List Sp).map Sp.cells).flatten 38),(z.e,cO ((exTR z).map SA.cell).flatten 22),(z.f,cO (exT.stay.map Sp.cells).flatten 38),(z.g,cO (exT.light.map Sp.cells).flatten 38)]
theorem exTA_ok {z:ExT} {w W:World} {tl:Blks} (hm:Mem W [] (exTB z++tl) w):TrOk w (exTA z):=by
  have h:∀ b o,(b,o)∈exTB z→w.heap[b]? = some o:=fun b o hb=>hm.at (List.mem_append_right _ (List.mem_append_left _ hb))
  refine ⟨cO_ok _ (h _ _ (.head _)) (fun _=>rfl),cO_ok _ (h _ _ (.tail _ (.tail _ (.tail _ (.tail _ (.head _)))))) (fun _=>rfl),fun x hx=>?_,cO_ok _ (h _ _ (.tail _ (.tail _ (.tail _ (.tail _ (.tail _ (.head _))))))) (fun _=>rfl),cO_ok _ (h _ _ (.tail _ (.tail _ (.tail _ (.tail _ (.tail _ (.tail _ (.head _)))))))) (fun _=>rfl),fun e=>by cases e⟩
  simp only [exTA,exTR,List.mem_cons,List.not_mem_nil,or_false] at hx
  rcases hx with rfl | rfl | rfl
  · exact cO_ok _ (h _ _ (.tail _ (.head _))) (fun _=>rfl)
  · exact cO_ok _ (h _ _ (.tail _ (.tail _ (.head _)))) (fun _=>rfl)
  · exact cO_ok _ (h _ _ (.tail _ (.tail _ (.tail _ (.head _))))) (fun _=>rfl)
theorem exTA_sm (z:ExT):TrSm (exTA z):=⟨by show (3:Nat)≤_;decide,by show (3:Nat)≤_;decide,fun x hx=>by
  simp only [exTA,exTR,List.mem_cons,List.not_mem_nil,or_false] at hx
  rcases hx with rfl | rfl | rfl <;> (show (3:Nat)≤_;decide),by show (3:Nat)≤_;decide,by show (3:Nat)≤_;decide⟩
theorem tour_calls (W:World):Calls Tryz.prog 37 #[] W (News (fun z:ExT=>(exTA z).v) exTB W):=by
  refine calls_start Tryz.func37 rfl rfl ?_
  refine st ?_
  refine RunL.new (New.alloc zero_25) rfl rfl rfl (fun b0=>?_)
  refine st ?_
  iterate 4 refine RunL.callP (isCall_func rfl ent_85) rfl rfl rfl (fun w hm=>lspan_calls _ _ w) ?_
  refine RunL.new (New.alloc zero_38) rfl rfl rfl (fun b1=>?_)
  refine RunL.new (New.alloc zero_38) rfl rfl rfl (fun b2=>?_)
  refine RunL.new (New.alloc zero_38) rfl rfl rfl (fun b3=>?_)
  refine RunL.new (New.alloc zero_38) rfl rfl rfl (fun b4=>?_)
  refine RunL.sto (Sto.store rfl rfl (.there (.there (.there .here))) ty_38 rfl rfl) rfl rfl ?_
  refine RunL.sto (Sto.store rfl rfl (.there (.there .here)) ty_38 rfl rfl) rfl rfl ?_
  refine RunL.sto (Sto.store rfl rfl (.there .here) ty_38 rfl rfl) rfl rfl ?_
  refine RunL.sto (Sto.store rfl rfl .here ty_38 rfl rfl) rfl rfl ?_
  refine st ?_
  refine RunC.freeN (O:=Nat) [⟨9,[],[],fun _=>.agg #[.int .i64 30,.int .i64 40],fun _=>[]⟩,⟨10,[0],[],fun _=>.agg #[.int .i64 20,.int .i64 20],fun _=>[]⟩,⟨11,[0,1],[],fun _=>.agg #[.int .i64 60,.int .i64 70],fun _=>[]⟩,⟨12,[0,1,2],[3],fun l=>match l with | [b12]=>.slice (some ⟨b12,0,none⟩) 3 3 | _=>undef,fun l=>match l with | [b12]=>[(b12,.cells [.int .i64 30,.int .i64 40,.int .i64 20,.int .i64 20,.int .i64 60,.int .i64 70].toArray 38 (0,0))] | _=>[]⟩,⟨13,[],[],fun _=>.agg #[.int .i64 0,.int .i64 0],fun _=>[]⟩,⟨14,[],[],fun _=>.agg #[.int .i64 15,.int .i64 20],fun _=>[]⟩,⟨15,[],[],fun _=>.agg #[.int .i64 45,.int .i64 50],fun _=>[]⟩,⟨16,[4,5,6],[7],fun l=>match l with | [b16]=>.slice (some ⟨b16,0,none⟩) 3 3 | _=>undef,fun l=>match l with | [b16]=>[(b16,.cells [.int .i64 0,.int .i64 0,.int .i64 15,.int .i64 20,.int .i64 45,.int .i64 50].toArray 38 (0,0))] | _=>[]⟩,⟨17,[],[],fun _=>.agg #[.int .i64 15,.int .i64 20],fun _=>[]⟩,⟨18,[],[],fun _=>.agg #[.int .i64 0,.int .i64 0],fun _=>[]⟩,⟨19,[],[],fun _=>.agg #[.int .i64 30,.int .i64 35],fun _=>[]⟩,⟨20,[8,9,10],[11],fun l=>match l with | [b20]=>.slice (some ⟨b20,0,none⟩) 3 3 | _=>undef,fun l=>match l with | [b20]=>[(b20,.cells [.int .i64 15,.int .i64 20,.int .i64 0,.int .i64 0,.int .i64 30,.int .i64 35].toArray 38 (0,0))] | _=>[]⟩,⟨21,[],[],fun _=>.agg #[.int .i64 45,.int .i64 50],fun _=>[]⟩,⟨22,[],[],fun _=>.agg #[.int .i64 30,.int .i64 35],fun _=>[]⟩,⟨23,[],[],fun _=>.agg #[.int .i64 0,.int .i64 0],fun _=>[]⟩,⟨24,[12,13,14],[15],fun l=>match l with | [b24]=>.slice (some ⟨b24,0,none⟩) 3 3 | _=>undef,fun l=>match l with | [b24]=>[(b24,.cells [.int .i64 45,.int .i64 50,.int .i64 30,.int .i64 35,.int .i64 0,.int .i64 0].toArray 38 (0,0))] | _=>[]⟩,⟨25,[4,5,6,7,8,9,10,11,12,13,14,15],[7,11,15,16],fun l=>match l with | [b16,b20,b24,b25]=>.slice (some ⟨b25,0,none⟩) 3 3 | _=>undef,fun l=>match l with | [b16,b20,b24,b25]=>[(b25,.cells [.slice (some ⟨b16,0,none⟩) 3 3,.slice (some ⟨b20,0,none⟩) 3 3,.slice (some ⟨b24,0,none⟩) 3 3].toArray 22 (0,0))] | _=>[]⟩,⟨26,[0,1,2],[],fun _=>.agg #[.int .i64 10,.int .i64 15],fun _=>[]⟩,⟨27,[0,1,2,17],[],fun _=>.agg #[.int .i64 20,.int .i64 20],fun _=>[]⟩,⟨28,[0,1,2,17,18],[],fun _=>.agg #[.int .i64 5,.int .i64 10],fun _=>[]⟩,⟨29,[0,1,2,17,18,19],[20],fun l=>match l with | [b29]=>.slice (some ⟨b29,0,none⟩) 3 3 | _=>undef,fun l=>match l with | [b29]=>[(b29,.cells [.int .i64 10,.int .i64 15,.int .i64 20,.int .i64 20,.int .i64 5,.int .i64 10].toArray 38 (0,0))] | _=>[]⟩,⟨30,[0,1,2,17,18,19],[],fun _=>.agg #[.int .i64 420,.int .i64 480],fun _=>[]⟩,⟨31,[0,1,2,17,18,19,21],[],fun _=>.agg #[.int .i64 380,.int .i64 600],fun _=>[]⟩,⟨32,[0,1,2,17,18,19,21,22],[],fun _=>.agg #[.int .i64 500,.int .i64 540],fun _=>[]⟩,⟨33,[0,1,2,17,18,19,21,22,23],[24],fun l=>match l with | [b33]=>.slice (some ⟨b33,0,none⟩) 3 3 | _=>undef,fun l=>match l with | [b33]=>[(b33,.cells [.int .i64 420,.int .i64 480,.int .i64 380,.int .i64 600,.int .i64 500,.int .i64 540].toArray 38 (0,0))] | _=>[]⟩] 27 25 2 fol_ (by kernel_rfl) (by rfl) rfl rfl rfl ?_ ?_
  ·refine AllOk.cons (fun x=>?_) ?_
   ·show OpOk _ _ _ _ _ (_) (_) 0 9 (fun _=>.agg #[.int .i64 30,.int .i64 40]) (fun _=>[])
    exact OpOk.callP rfl (isCall_func rfl ent_85) rfl rfl (fun w hm=>lspan_calls _ _ w)
   refine AllOk.cons (fun x=>?_) ?_
   ·show OpOk _ _ _ _ _ ((9,.agg #[.int .i64 30,.int .i64 40])::_) (_) 1 10 (fun _=>.agg #[.int .i64 20,.int .i64 20]) (fun _=>[])
    exact OpOk.callP rfl (isCall_func rfl ent_85) rfl rfl (fun w hm=>lspan_calls _ _ w)
   refine AllOk.cons (fun x=>?_) ?_
   ·show OpOk _ _ _ _ _ ((9,.agg #[.int .i64 30,.int .i64 40])::(10,.agg #[.int .i64 20,.int .i64 20])::_) (_) 2 11 (fun _=>.agg #[.int .i64 60,.int .i64 70]) (fun _=>[])
    exact OpOk.callP rfl (isCall_func rfl ent_85) rfl rfl (fun w hm=>lspan_calls _ _ w)
   refine AllOk.cons (fun x=>?_) ?_
   ·show OpOk _ _ _ _ _ ((9,.agg #[.int .i64 30,.int .i64 40])::(10,.agg #[.int .i64 20,.int .i64 20])::(11,.agg #[.int .i64 60,.int .i64 70])::_) (_) 3 12 (fun b12=>.slice (some ⟨b12,0,none⟩) 3 3) (fun b12=>[(b12,.cells [.int .i64 30,.int .i64 40,.int .i64 20,.int .i64 20,.int .i64 60,.int .i64 70].toArray 38 (0,0))])
    exact OpOk.new rfl (New.buildSlice (parts:=[(0,.tmp 9),(1,.tmp 10),(2,.tmp 11)]) rfl sl_22 zero_38 rfl rfl rfl rfl) rfl rfl
   refine AllOk.cons (fun x=>?_) ?_
   ·show OpOk _ _ _ _ _ (_) (_) 4 13 (fun _=>.agg #[.int .i64 0,.int .i64 0]) (fun _=>[])
    exact OpOk.val rfl (Val.load_agg rfl (.head _) ty_38 rfl) rfl rfl
   refine AllOk.cons (fun x=>?_) ?_
   ·show OpOk _ _ _ _ _ (_) (_) 5 14 (fun _=>.agg #[.int .i64 15,.int .i64 20]) (fun _=>[])
    exact OpOk.val rfl (Val.load_agg rfl (.tail _ (.tail _ (.tail _ (.head _)))) ty_38 rfl) rfl rfl
   refine AllOk.cons (fun x=>?_) ?_
   ·show OpOk _ _ _ _ _ (_) (_) 6 15 (fun _=>.agg #[.int .i64 45,.int .i64 50]) (fun _=>[])
    exact OpOk.val rfl (Val.load_agg rfl (.tail _ (.tail _ (.head _))) ty_38 rfl) rfl rfl
   refine AllOk.cons (fun x=>?_) ?_
   ·show OpOk _ _ _ _ _ ((13,.agg #[.int .i64 0,.int .i64 0])::(14,.agg #[.int .i64 15,.int .i64 20])::(15,.agg #[.int .i64 45,.int .i64 50])::_) (_) 7 16 (fun b16=>.slice (some ⟨b16,0,none⟩) 3 3) (fun b16=>[(b16,.cells [.int .i64 0,.int .i64 0,.int .i64 15,.int .i64 20,.int .i64 45,.int .i64 50].toArray 38 (0,0))])
    exact OpOk.new rfl (New.buildSlice (parts:=[(0,.tmp 13),(1,.tmp 14),(2,.tmp 15)]) rfl sl_22 zero_38 rfl rfl rfl rfl) rfl rfl
   refine AllOk.cons (fun x=>?_) ?_
   ·show OpOk _ _ _ _ _ (_) (_) 8 17 (fun _=>.agg #[.int .i64 15,.int .i64 20]) (fun _=>[])
    exact OpOk.val rfl (Val.load_agg rfl (.tail _ (.tail _ (.tail _ (.head _)))) ty_38 rfl) rfl rfl
   refine AllOk.cons (fun x=>?_) ?_
   ·show OpOk _ _ _ _ _ (_) (_) 9 18 (fun _=>.agg #[.int .i64 0,.int .i64 0]) (fun _=>[])
    exact OpOk.val rfl (Val.load_agg rfl (.head _) ty_38 rfl) rfl rfl
   refine AllOk.cons (fun x=>?_) ?_
   ·show OpOk _ _ _ _ _ (_) (_) 10 19 (fun _=>.agg #[.int .i64 30,.int .i64 35]) (fun _=>[])
    exact OpOk.val rfl (Val.load_agg rfl (.tail _ (.head _)) ty_38 rfl) rfl rfl
   refine AllOk.cons (fun x=>?_) ?_
   ·show OpOk _ _ _ _ _ ((17,.agg #[.int .i64 15,.int .i64 20])::(18,.agg #[.int .i64 0,.int .i64 0])::(19,.agg #[.int .i64 30,.int .i64 35])::_) (_) 11 20 (fun b20=>.slice (some ⟨b20,0,none⟩) 3 3) (fun b20=>[(b20,.cells [.int .i64 15,.int .i64 20,.int .i64 0,.int .i64 0,.int .i64 30,.int .i64 35].toArray 38 (0,0))])
    exact OpOk.new rfl (New.buildSlice (parts:=[(0,.tmp 17),(1,.tmp 18),(2,.tmp 19)]) rfl sl_22 zero_38 rfl rfl rfl rfl) rfl rfl
   refine AllOk.cons (fun x=>?_) ?_
   ·show OpOk _ _ _ _ _ (_) (_) 12 21 (fun _=>.agg #[.int .i64 45,.int .i64 50]) (fun _=>[])
    exact OpOk.val rfl (Val.load_agg rfl (.tail _ (.tail _ (.head _))) ty_38 rfl) rfl rfl
   refine AllOk.cons (fun x=>?_) ?_
   ·show OpOk _ _ _ _ _ (_) (_) 13 22 (fun _=>.agg #[.int .i64 30,.int .i64 35]) (fun _=>[])
    exact OpOk.val rfl (Val.load_agg rfl (.tail _ (.head _)) ty_38 rfl) rfl rfl
   refine AllOk.cons (fun x=>?_) ?_
   ·show OpOk _ _ _ _ _ (_) (_) 14 23 (fun _=>.agg #[.int .i64 0,.int .i64 0]) (fun _=>[])
    exact OpOk.val rfl (Val.load_agg rfl (.head _) ty_38 rfl) rfl rfl
   refine AllOk.cons (fun x=>?_) ?_
   ·show OpOk _ _ _ _ _ ((21,.agg #[.int .i64 45,.int .i64 50])::(22,.agg #[.int .i64 30,.int .i64 35])::(23,.agg #[.int .i64 0,.int .i64 0])::_) (_) 15 24 (fun b24=>.slice (some ⟨b24,0,none⟩) 3 3) (fun b24=>[(b24,.cells [.int .i64 45,.int .i64 50,.int .i64 30,.int .i64 35,.int .i64 0,.int .i64 0].toArray 38 (0,0))])
    exact OpOk.new rfl (New.buildSlice (parts:=[(0,.tmp 21),(1,.tmp 22),(2,.tmp 23)]) rfl sl_22 zero_38 rfl rfl rfl rfl) rfl rfl
   refine AllOk.cons (fun x=>?_) ?_
   ·show OpOk _ _ _ _ _ ((13,.agg #[.int .i64 0,.int .i64 0])::(14,.agg #[.int .i64 15,.int .i64 20])::(15,.agg #[.int .i64 45,.int .i64 50])::(16,.slice (some ⟨(x 7),0,none⟩) 3 3)::(17,.agg #[.int .i64 15,.int .i64 20])::(18,.agg #[.int .i64 0,.int .i64 0])::(19,.agg #[.int .i64 30,.int .i64 35])::(20,.slice (some ⟨(x 11),0,none⟩) 3 3)::(21,.agg #[.int .i64 45,.int .i64 50])::(22,.agg #[.int .i64 30,.int .i64 35])::(23,.agg #[.int .i64 0,.int .i64 0])::(24,.slice (some ⟨(x 15),0,none⟩) 3 3)::_) (((x 7),.cells [.int .i64 0,.int .i64 0,.int .i64 15,.int .i64 20,.int .i64 45,.int .i64 50].toArray 38 (0,0))::((x 11),.cells [.int .i64 15,.int .i64 20,.int .i64 0,.int .i64 0,.int .i64 30,.int .i64 35].toArray 38 (0,0))::((x 15),.cells [.int .i64 45,.int .i64 50,.int .i64 30,.int .i64 35,.int .i64 0,.int .i64 0].toArray 38 (0,0))::_) 16 25 (fun b25=>.slice (some ⟨b25,0,none⟩) 3 3) (fun b25=>[(b25,.cells [.slice (some ⟨(x 7),0,none⟩) 3 3,.slice (some ⟨(x 11),0,none⟩) 3 3,.slice (some ⟨(x 15),0,none⟩) 3 3].toArray 22 (0,0))])
    generalize x 7=b16
    generalize x 11=b20
    generalize x 15=b24
    exact OpOk.new rfl (New.buildSlice (parts:=[(0,.tmp 16),(1,.tmp 20),(2,.tmp 24)]) rfl sl_23 zero_22 rfl rfl rfl rfl) rfl rfl
   refine AllOk.cons (fun x=>?_) ?_
   ·show OpOk _ _ _ _ _ ((9,.agg #[.int .i64 30,.int .i64 40])::(10,.agg #[.int .i64 20,.int .i64 20])::(11,.agg #[.int .i64 60,.int .i64 70])::_) (_) 17 26 (fun _=>.agg #[.int .i64 10,.int .i64 15]) (fun _=>[])
    exact OpOk.callP rfl (isCall_func rfl ent_85) rfl rfl (fun w hm=>lspan_calls _ _ w)
   refine AllOk.cons (fun x=>?_) ?_
   ·show OpOk _ _ _ _ _ ((9,.agg #[.int .i64 30,.int .i64 40])::(10,.agg #[.int .i64 20,.int .i64 20])::(11,.agg #[.int .i64 60,.int .i64 70])::(26,.agg #[.int .i64 10,.int .i64 15])::_) (_) 18 27 (fun _=>.agg #[.int .i64 20,.int .i64 20]) (fun _=>[])
    exact OpOk.callP rfl (isCall_func rfl ent_85) rfl rfl (fun w hm=>lspan_calls _ _ w)
   refine AllOk.cons (fun x=>?_) ?_
   ·show OpOk _ _ _ _ _ ((9,.agg #[.int .i64 30,.int .i64 40])::(10,.agg #[.int .i64 20,.int .i64 20])::(11,.agg #[.int .i64 60,.int .i64 70])::(26,.agg #[.int .i64 10,.int .i64 15])::(27,.agg #[.int .i64 20,.int .i64 20])::_) (_) 19 28 (fun _=>.agg #[.int .i64 5,.int .i64 10]) (fun _=>[])
    exact OpOk.callP rfl (isCall_func rfl ent_85) rfl rfl (fun w hm=>lspan_calls _ _ w)
   refine AllOk.cons (fun x=>?_) ?_
   ·show OpOk _ _ _ _ _ ((9,.agg #[.int .i64 30,.int .i64 40])::(10,.agg #[.int .i64 20,.int .i64 20])::(11,.agg #[.int .i64 60,.int .i64 70])::(26,.agg #[.int .i64 10,.int .i64 15])::(27,.agg #[.int .i64 20,.int .i64 20])::(28,.agg #[.int .i64 5,.int .i64 10])::_) (_) 20 29 (fun b29=>.slice (some ⟨b29,0,none⟩) 3 3) (fun b29=>[(b29,.cells [.int .i64 10,.int .i64 15,.int .i64 20,.int .i64 20,.int .i64 5,.int .i64 10].toArray 38 (0,0))])
    exact OpOk.new rfl (New.buildSlice (parts:=[(0,.tmp 26),(1,.tmp 27),(2,.tmp 28)]) rfl sl_22 zero_38 rfl rfl rfl rfl) rfl rfl
   refine AllOk.cons (fun x=>?_) ?_
   ·show OpOk _ _ _ _ _ ((9,.agg #[.int .i64 30,.int .i64 40])::(10,.agg #[.int .i64 20,.int .i64 20])::(11,.agg #[.int .i64 60,.int .i64 70])::(26,.agg #[.int .i64 10,.int .i64 15])::(27,.agg #[.int .i64 20,.int .i64 20])::(28,.agg #[.int .i64 5,.int .i64 10])::_) (_) 21 30 (fun _=>.agg #[.int .i64 420,.int .i64 480]) (fun _=>[])
    exact OpOk.callP rfl (isCall_func rfl ent_85) rfl rfl (fun w hm=>lspan_calls _ _ w)
   refine AllOk.cons (fun x=>?_) ?_
   ·show OpOk _ _ _ _ _ ((9,.agg #[.int .i64 30,.int .i64 40])::(10,.agg #[.int .i64 20,.int .i64 20])::(11,.agg #[.int .i64 60,.int .i64 70])::(26,.agg #[.int .i64 10,.int .i64 15])::(27,.agg #[.int .i64 20,.int .i64 20])::(28,.agg #[.int .i64 5,.int .i64 10])::(30,.agg #[.int .i64 420,.int .i64 480])::_) (_) 22 31 (fun _=>.agg #[.int .i64 380,.int .i64 600]) (fun _=>[])
    exact OpOk.callP rfl (isCall_func rfl ent_85) rfl rfl (fun w hm=>lspan_calls _ _ w)
   refine AllOk.cons (fun x=>?_) ?_
   ·show OpOk _ _ _ _ _ ((9,.agg #[.int .i64 30,.int .i64 40])::(10,.agg #[.int .i64 20,.int .i64 20])::(11,.agg #[.int .i64 60,.int .i64 70])::(26,.agg #[.int .i64 10,.int .i64 15])::(27,.agg #[.int .i64 20,.int .i64 20])::(28,.agg #[.int .i64 5,.int .i64 10])::(30,.agg #[.int .i64 420,.int .i64 480])::(31,.agg #[.int .i64 380,.int .i64 600])::_) (_) 23 32 (fun _=>.agg #[.int .i64 500,.int .i64 540]) (fun _=>[])
    exact OpOk.callP rfl (isCall_func rfl ent_85) rfl rfl (fun w hm=>lspan_calls _ _ w)
   refine AllOk.cons (fun x=>?_) ?_
   ·show OpOk _ _ _ _ _ ((9,.agg #[.int .i64 30,.int .i64 40])::(10,.agg #[.int .i64 20,.int .i64 20])::(11,.agg #[.int .i64 60,.int .i64 70])::(26,.agg #[.int .i64 10,.int .i64 15])::(27,.agg #[.int .i64 20,.int .i64 20])::(28,.agg #[.int .i64 5,.int .i64 10])::(30,.agg #[.int .i64 420,.int .i64 480])::(31,.agg #[.int .i64 380,.int .i64 600])::(32,.agg #[.int .i64 500,.int .i64 540])::_) (_) 24 33 (fun b33=>.slice (some ⟨b33,0,none⟩) 3 3) (fun b33=>[(b33,.cells [.int .i64 420,.int .i64 480,.int .i64 380,.int .i64 600,.int .i64 500,.int .i64 540].toArray 38 (0,0))])
    exact OpOk.new rfl (New.buildSlice (parts:=[(0,.tmp 30),(1,.tmp 31),(2,.tmp 32)]) rfl sl_22 zero_38 rfl rfl rfl rfl) rfl rfl
   exact AllOk.nil
  intro x
  show RunB _ _ _ _ 2 (listedK 25 27) ((9,.agg #[.int .i64 30,.int .i64 40])::(10,.agg #[.int .i64 20,.int .i64 20])::(11,.agg #[.int .i64 60,.int .i64 70])::(12,.slice (some ⟨(x 3),0,none⟩) 3 3)::(13,.agg #[.int .i64 0,.int .i64 0])::(14,.agg #[.int .i64 15,.int .i64 20])::(15,.agg #[.int .i64 45,.int .i64 50])::(16,.slice (some ⟨(x 7),0,none⟩) 3 3)::(17,.agg #[.int .i64 15,.int .i64 20])::(18,.agg #[.int .i64 0,.int .i64 0])::(19,.agg #[.int .i64 30,.int .i64 35])::(20,.slice (some ⟨(x 11),0,none⟩) 3 3)::(21,.agg #[.int .i64 45,.int .i64 50])::(22,.agg #[.int .i64 30,.int .i64 35])::(23,.agg #[.int .i64 0,.int .i64 0])::(24,.slice (some ⟨(x 15),0,none⟩) 3 3)::(25,.slice (some ⟨(x 16),0,none⟩) 3 3)::(26,.agg #[.int .i64 10,.int .i64 15])::(27,.agg #[.int .i64 20,.int .i64 20])::(28,.agg #[.int .i64 5,.int .i64 10])::(29,.slice (some ⟨(x 20),0,none⟩) 3 3)::(30,.agg #[.int .i64 420,.int .i64 480])::(31,.agg #[.int .i64 380,.int .i64 600])::(32,.agg #[.int .i64 500,.int .i64 540])::(33,.slice (some ⟨(x 24),0,none⟩) 3 3)::_) _ _ _ (((x 3),.cells [.int .i64 30,.int .i64 40,.int .i64 20,.int .i64 20,.int .i64 60,.int .i64 70].toArray 38 (0,0))::((x 7),.cells [.int .i64 0,.int .i64 0,.int .i64 15,.int .i64 20,.int .i64 45,.int .i64 50].toArray 38 (0,0))::((x 11),.cells [.int .i64 15,.int .i64 20,.int .i64 0,.int .i64 0,.int .i64 30,.int .i64 35].toArray 38 (0,0))::((x 15),.cells [.int .i64 45,.int .i64 50,.int .i64 30,.int .i64 35,.int .i64 0,.int .i64 0].toArray 38 (0,0))::((x 16),.cells [.slice (some ⟨(x 7),0,none⟩) 3 3,.slice (some ⟨(x 11),0,none⟩) 3 3,.slice (some ⟨(x 15),0,none⟩) 3 3].toArray 22 (0,0))::((x 20),.cells [.int .i64 10,.int .i64 15,.int .i64 20,.int .i64 20,.int .i64 5,.int .i64 10].toArray 38 (0,0))::((x 24),.cells [.int .i64 420,.int .i64 480,.int .i64 380,.int .i64 600,.int .i64 500,.int .i64 540].toArray 38 (0,0))::(b4,_)::(b3,_)::(b2,_)::(b1,_)::(b0,_)::_)
  generalize x 3=b12
  generalize x 7=b16
  generalize x 11=b20
  generalize x 15=b24
  generalize x 16=b25
  generalize x 20=b29
  generalize x 24=b33
  refine RunB.one (i:=25) (by kernel_rfl) ?_
  refine RunI.val rfl (Val.build (parts:=[(0,.const (.int .i64 360)),(1,.tmp 12),(2,.tmp 25),(3,.tmp 29),(4,.tmp 33)]) rfl zero_25 places_25 rfl) rfl rfl rfl (RunK.toB ?_)
  refine RunB.one (i:=26) (by kernel_rfl) ?_
  refine RunI.sto rfl (Sto.store rfl rfl (.there (.there (.there (.there (.there (.there (.there (.there (.there (.there (.there .here))))))))))) ty_25 rfl rfl) rfl rfl (RunK.toB ?_)
  refine RunB.done (by kernel_rfl) ?_
  refine st ?_
  refine RunC.ret ?_
  exact RunE.ret (chg:=[]) (.r1 rfl (.agg rfl (.tail _ (.tail _ (.tail _ (.tail _ (.tail _ (.tail _ (.tail _ (.tail _ (.tail _ (.tail _ (.tail _ (.head _)))))))))))) ty_25 rfl)) (fun _ hm=>⟨⟨b12,b16,b20,b24,b25,b29,b33⟩,rfl,hm.pick (.cons .here rfl (.cons .here rfl (.cons .here rfl (.cons .here rfl (.cons .here rfl (.cons .here rfl (.cons .here rfl .nil)))))))⟩)
structure ExC where
  a:Nat
  b:Nat
def exCA (z:ExC):CbA:=⟨4,atB exC.homes z.a,1,atB exC.loans z.b⟩
def exCB (z:ExC):Blks:=[(z.a,cO (exC.homes.map intC).flatten 3),(z.b,cO (exC.loans.map Ln.cells).flatten 98)]
theorem exCA_pl (z:ExC):(exCA z).pl=exC:=rfl
theorem exCA_ok {z:ExC} {w W:World} {tl:Blks} (hm:Mem W [] (exCB z++tl) w):CbOk w (exCA z):=by
  have h:∀ b o,(b,o)∈exCB z→w.heap[b]? = some o:=fun b o hb=>hm.at (List.mem_append_right _ (List.mem_append_left _ hb))
  exact ⟨cO_ok _ (h _ _ (.head _)) (fun _=>rfl),cO_ok _ (h _ _ (.tail _ (.head _))) (fun _=>rfl)⟩
theorem exCA_s (z:ExC):CbS (exCA z):=⟨by show (3:Nat)≤_;decide,by show (5:Nat)≤_;decide⟩
theorem cabinet_calls (W:World):Calls Tryz.prog 38 #[] W (News (fun z:ExC=>(exCA z).v) exCB W):=by
  refine calls_start Tryz.func38 rfl rfl ?_
  refine st ?_
  refine RunL.new (New.alloc zero_30) rfl rfl rfl (fun b0=>?_)
  refine st ?_
  refine RunL.new (New.buildSlice (parts:=[(0,.const (.int .i64 0)),(1,.const (.int .i64 1)),(2,.const (.int .i64 2))]) rfl sl_27 zero_3 rfl rfl rfl rfl) rfl rfl rfl (fun b1=>?_)
  refine lv (Val.build (parts:=[(1,.const (.int .i64 0)),(2,.const (.int .i64 0))]) rfl zero_98 places_98 rfl) ?_
  refine lv (Val.build (parts:=[(1,.const (.int .i64 1)),(2,.const (.int .i64 1))]) rfl zero_98 places_98 rfl) ?_
  refine lv (Val.build (parts:=[(0,.const (.int .i64 1)),(1,.const (.int .i64 0)),(2,.const (.int .i64 0))]) rfl zero_98 places_98 rfl) ?_
  refine lv (Val.build (parts:=[(0,.const (.int .i64 1)),(1,.const (.int .i64 1)),(2,.const (.int .i64 1))]) rfl zero_98 places_98 rfl) ?_
  refine lv (Val.build (parts:=[(0,.const (.int .i64 2)),(1,.const (.int .i64 0)),(3,.const (.int .i64 1))]) rfl zero_98 places_98 rfl) ?_
  refine RunL.new (New.buildSlice (parts:=[(0,.tmp 2),(1,.tmp 3),(2,.tmp 4),(3,.tmp 5),(4,.tmp 6)]) rfl sl_28 zero_98 rfl rfl rfl rfl) rfl rfl rfl (fun b7=>?_)
  refine lv (Val.build (parts:=[(0,.const (.int .i64 4)),(1,.tmp 1),(2,.const (.int .i64 1)),(3,.tmp 7)]) rfl zero_30 places_30 rfl) ?_
  refine RunL.sto (Sto.store rfl rfl (.there (.there .here)) ty_30 rfl rfl) rfl rfl ?_
  refine st ?_
  refine RunC.ret ?_
  exact RunE.ret (chg:=[]) (.r1 rfl (.agg rfl (.tail _ (.tail _ (.head _))) ty_30 rfl)) (fun _ hm=>⟨⟨b1,b7⟩,rfl,hm.pick (.cons (.there .here) rfl (.cons .here rfl .nil))⟩)
structure ExR where
  a:Nat
  b:Nat
  c:Nat
  d:Nat
  e:Nat
  f:Nat
def exRA (z:ExR):RyA:=⟨atB exR.terms z.a,atB exR.prices z.b,atB [atB [334,333,333] z.c] z.d,atB exR.reports z.e,atB exR.paid z.f⟩
def exRB (z:ExR):Blks:=[(z.a,cO (exR.terms.map Tm.cells).flatten 109),(z.b,cO (exR.prices.map intC).flatten 3),(z.c,cO (([334,333,333]:List Int).map intC).flatten 3),(z.d,cO (([atB [334,333,333] z.c]:List (SA Int)).map SA.cell).flatten 27),(z.e,cO (exR.reports.map Rp.cells).flatten 111),(z.f,cO (exR.paid.map intC).flatten 3)]
theorem exRA_pl (z:ExR):(exRA z).pl=exR:=rfl
theorem exRA_ok {z:ExR} {w W:World} {tl:Blks} (hm:Mem W [] (exRB z++tl) w):RyOk w (exRA z):=by
  have h:∀ b o,(b,o)∈exRB z→w.heap[b]? = some o:=fun b o hb=>hm.at (List.mem_append_right _ (List.mem_append_left _ hb))
  refine ⟨cO_ok _ (h _ _ (.head _)) (fun _=>rfl),cO_ok _ (h _ _ (.tail _ (.head _))) (fun _=>rfl),cO_ok _ (h _ _ (.tail _ (.tail _ (.tail _ (.head _))))) (fun _=>rfl),fun x hx=>?_,cO_ok _ (h _ _ (.tail _ (.tail _ (.tail _ (.tail _ (.head _)))))) (fun _=>rfl),cO_ok _ (h _ _ (.tail _ (.tail _ (.tail _ (.tail _ (.tail _ (.head _))))))) (fun _=>rfl)⟩
  simp only [exRA,List.mem_cons,List.not_mem_nil,or_false] at hx
  subst hx
  exact cO_ok _ (h _ _ (.tail _ (.tail _ (.head _)))) (fun _=>rfl)
theorem exRA_sm (z:ExR):RySm (exRA z):=⟨by show (2:Nat)≤_;decide,by show (1:Nat)≤_;decide,by show (1:Nat)≤_;decide,fun x hx=>by
  simp only [exRA,List.mem_cons,List.not_mem_nil,or_false] at hx
  subst hx
  show (3:Nat)≤_;decide,by show (2:Nat)≤_;decide,by show (2:Nat)≤_;decide⟩
theorem royal_calls (W:World):Calls Tryz.prog 39 #[] W (News (fun z:ExR=>(exRA z).v) exRB W):=by
  refine calls_start Tryz.func39 rfl rfl ?_
  refine st ?_
  refine RunL.new (New.alloc zero_35) rfl rfl rfl (fun b0=>?_)
  refine st ?_
  refine lv (Val.build (parts:=[(0,.const (.int .i64 20)),(1,.const (.int .i64 3)),(2,.const (.int .i64 30))]) rfl zero_109 places_109 rfl) ?_
  refine lv (Val.build (parts:=[(0,.const (.int .i64 25)),(1,.const (.int .i64 12)),(2,.const (.int .i64 25))]) rfl zero_109 places_109 rfl) ?_
  refine RunL.new (New.buildSlice (parts:=[(0,.tmp 1),(1,.tmp 2)]) rfl sl_31 zero_109 rfl rfl rfl rfl) rfl rfl rfl (fun b3=>?_)
  refine RunL.new (New.buildSlice (parts:=[(0,.const (.int .i64 99))]) rfl sl_27 zero_3 rfl rfl rfl rfl) rfl rfl rfl (fun b4=>?_)
  refine RunL.new (New.buildSlice (parts:=[(0,.const (.int .i64 334)),(1,.const (.int .i64 333)),(2,.const (.int .i64 333))]) rfl sl_27 zero_3 rfl rfl rfl rfl) rfl rfl rfl (fun b5=>?_)
  refine RunL.new (New.buildSlice (parts:=[(0,.tmp 5)]) rfl sl_32 zero_27 rfl rfl rfl rfl) rfl rfl rfl (fun b6=>?_)
  refine lv (Val.build (parts:=[(0,.const (.int .i64 0)),(2,.const (.int .i64 0)),(3,.const (.int .i64 5))]) rfl zero_111 places_111 rfl) ?_
  refine lv (Val.build (parts:=[(0,.const (.int .i64 1)),(2,.const (.int .i64 4)),(3,.const (.int .i64 7))]) rfl zero_111 places_111 rfl) ?_
  refine RunL.new (New.buildSlice (parts:=[(0,.tmp 7),(1,.tmp 8)]) rfl sl_33 zero_111 rfl rfl rfl rfl) rfl rfl rfl (fun b9=>?_)
  refine RunL.new (New.buildSlice (parts:=[(0,.const (.int .i64 0)),(1,.const (.int .i64 0))]) rfl sl_27 zero_3 rfl rfl rfl rfl) rfl rfl rfl (fun b10=>?_)
  refine lv (Val.build (parts:=[(0,.tmp 3),(1,.tmp 4),(2,.tmp 6),(3,.tmp 9),(4,.tmp 10)]) rfl zero_35 places_35 rfl) ?_
  refine RunL.sto (Sto.store rfl rfl (.there (.there (.there (.there (.there (.there .here)))))) ty_35 rfl rfl) rfl rfl ?_
  refine st ?_
  refine RunC.ret ?_
  exact RunE.ret (chg:=[]) (.r1 rfl (.agg rfl (.tail _ (.tail _ (.tail _ (.tail _ (.tail _ (.tail _ (.head _))))))) ty_35 rfl)) (fun _ hm=>⟨⟨b3,b4,b5,b6,b9,b10⟩,rfl,hm.pick (.cons (.there (.there (.there (.there (.there .here))))) rfl (.cons (.there (.there (.there (.there .here)))) rfl (.cons (.there (.there (.there .here))) rfl (.cons (.there (.there .here)) rfl (.cons (.there .here) rfl (.cons .here rfl .nil))))))⟩)
def exPA (z:Nat):PsA:=⟨atB exP.cards z,exP.less,exP.loss⟩
def exPB (z:Nat):Blks:=[(z,cO (exP.cards.map Pt.cells).flatten 120)]
theorem exPA_pl (z:Nat):(exPA z).pl=exP:=rfl
theorem exPA_ok {z:Nat} {w W:World} {tl:Blks} (hm:Mem W [] (exPB z++tl) w):(exPA z).cards.ok Pt.cells 5 w:=by
  have h:∀ b o,(b,o)∈exPB z→w.heap[b]? = some o:=fun b o hb=>hm.at (List.mem_append_right _ (List.mem_append_left _ hb))
  exact cO_ok _ (h _ _ (.head _)) (fun _=>rfl)
theorem prints_calls (W:World):Calls Tryz.prog 40 #[] W (News (fun z:Nat=>(exPA z).v) exPB W):=by
  refine calls_start Tryz.func40 rfl rfl ?_
  refine st ?_
  refine RunL.new (New.alloc zero_40) rfl rfl rfl (fun b0=>?_)
  refine st ?_
  refine RunL.callP (isCall_func rfl ent_85) rfl rfl rfl (fun w hm=>lspan_calls _ _ w) ?_
  refine RunL.callP (isCall_func rfl ent_85) rfl rfl rfl (fun w hm=>lspan_calls _ _ w) ?_
  refine lv (Val.build (parts:=[(0,.tmp 1),(1,.tmp 2)]) rfl zero_120 places_120 rfl) ?_
  refine RunL.new (New.buildSlice (parts:=[(0,.tmp 3)]) rfl sl_36 zero_120 rfl rfl rfl rfl) rfl rfl rfl (fun b4=>?_)
  refine RunL.callP (isCall_func rfl ent_85) rfl rfl rfl (fun w hm=>lspan_calls _ _ w) ?_
  refine RunL.callP (isCall_func rfl ent_85) rfl rfl rfl (fun w hm=>lspan_calls _ _ w) ?_
  refine lv (Val.build (parts:=[(0,.tmp 4),(1,.tmp 5),(2,.tmp 6)]) rfl zero_40 places_40 rfl) ?_
  refine RunL.sto (Sto.store rfl rfl (.there .here) ty_40 rfl rfl) rfl rfl ?_
  refine st ?_
  refine RunC.ret ?_
  exact RunE.ret (chg:=[]) (.r1 rfl (.agg rfl (.tail _ (.head _)) ty_40 rfl)) (fun _ hm=>⟨b4,rfl,hm.pick (.cons .here rfl .nil)⟩)
end Go.Proofs.YtleamcmljcdapaaGreatDoor
namespace Go.Proofs.YtleamcmljcdapaaGreatDoor
open Go Go.Eng
theorem ent_10:Enters Tryz.prog 10:=enters_of Tryz.func10 (by kernel_rfl) rfl
theorem ent_12:Enters Tryz.prog 12:=enters_of Tryz.func12 (by kernel_rfl) rfl
theorem ent_14:Enters Tryz.prog 14:=enters_of Tryz.func14 (by kernel_rfl) rfl
theorem ent_15:Enters Tryz.prog 15:=enters_of Tryz.func15 (by kernel_rfl) rfl
theorem ent_17:Enters Tryz.prog 17:=enters_of Tryz.func17 (by kernel_rfl) rfl
theorem ent_19:Enters Tryz.prog 19:=enters_of Tryz.func19 (by kernel_rfl) rfl
theorem ent_21:Enters Tryz.prog 21:=enters_of Tryz.func21 (by kernel_rfl) rfl
theorem ent_23:Enters Tryz.prog 23:=enters_of Tryz.func23 (by kernel_rfl) rfl
theorem ent_24:Enters Tryz.prog 24:=enters_of Tryz.func24 (by kernel_rfl) rfl
theorem ent_25:Enters Tryz.prog 25:=enters_of Tryz.func25 (by kernel_rfl) rfl
theorem ent_27:Enters Tryz.prog 27:=enters_of Tryz.func27 (by kernel_rfl) rfl
theorem ent_29:Enters Tryz.prog 29:=enters_of Tryz.func29 (by kernel_rfl) rfl
theorem ent_30:Enters Tryz.prog 30:=enters_of Tryz.func30 (by kernel_rfl) rfl
theorem ent_37:Enters Tryz.prog 37:=enters_of Tryz.func37 (by kernel_rfl) rfl
theorem ent_38:Enters Tryz.prog 38:=enters_of Tryz.func38 (by kernel_rfl) rfl
theorem ent_39:Enters Tryz.prog 39:=enters_of Tryz.func39 (by kernel_rfl) rfl
theorem ent_40:Enters Tryz.prog 40:=enters_of Tryz.func40 (by kernel_rfl) rfl
end Go.Proofs.YtleamcmljcdapaaGreatDoor
namespace Go.Bk
open Go Go.Eng Go.RowKit
theorem grow_news {β:Type} {P:Program} {f:FuncId} {args:Array Value} {w:World} {v:β→Value} {nw:β→Blks} {I:β→Prop} (h:Calls P f args w (Grow w [] v nw I)):Calls P f args w (News (fun z:{ b // I b }=>v z.1) (fun z=>nw z.1) w) :=
  calls_mono h (by rintro e w' ⟨b,h1,h2,h3⟩;exact ⟨⟨b,h1⟩,h2,h3⟩)
theorem rd_ok {α β:Type} {x:Except Int α} {pl:β→α} {ok:β→Prop} {z0 z:β} {e:Int} {t:α} (h:RdX x pl ok z0 (z,e)) (hx:x = .ok t):pl z=t∧e=0∧ok z:=by
  rcases h with ⟨t',h1,h2,h3,h4⟩ | ⟨k,h1,_⟩
  · rw [hx] at h1;cases h1;exact ⟨h2,h3,h4⟩
  · rw [hx] at h1;cases h1
end Go.Bk
namespace Go.Proofs.YtleamcmljcdapaaGreatDoor
open Go Go.Eng Go.Bk Go.RowKit

theorem wT (z:ExT):writeV (tourX (exTA z).pl) (tourS (exTA z).pl) = .tuple #[.string (bs exTS),.int .i64 0]:=by rw [exTA_pl,← exT_text];rfl
theorem wC (z:ExC):writeV (cabX (exCA z).pl) (cabS (exCA z).pl) = .tuple #[.string (bs exCS),.int .i64 0]:=by rw [exCA_pl,← exC_text];rfl
theorem wR (z:ExR):writeV (royalX (exRA z).pl) (royalS (exRA z).pl) = .tuple #[.string (bs exRS),.int .i64 0]:=by rw [exRA_pl,← exR_text];rfl
theorem sameTX_calls (x:TrX) (h:TrXOk 10000 x) (u:TrA) (hs:TrSm u) (tl:Blks) (W0 w:World) (hm:Mem W0 [] (trB x++tl) w) (hU:TrOk w u):Calls Tryz.prog 14 #[.agg x.cells.toArray,u.v] w (Pure (.bool (decide (x.pl=u.pl))) w):=by
  have h1:=rsameTour_calls x.toA u (h.sm (Nat.le_refl _)) hs w (trX_ok h hm) hU
  rw [TrX.toA_pl] at h1
  have e:x.toA.v = .agg x.cells.toArray:=by unfold TrA.v;rw [h.cells]
  rw [e] at h1
  exact h1
theorem sameCX_calls (x:CbX) (h:CbXOk 10000 x) (u:CbA) (hs:CbS u) (tl:Blks) (W0 w:World) (hm:Mem W0 [] (cbB x++tl) w) (hU:CbOk w u):Calls Tryz.prog 23 #[.agg x.cells.toArray,u.v] w (Pure (.bool (decide (x.pl=u.pl))) w):=by
  have h1:=rsameCabinet_calls x.toA u (h.sm (Nat.le_refl _)) hs w (cbX_ok h hm) hU
  rw [CbX.toA_pl] at h1
  have e:x.toA.v = .agg x.cells.toArray:=by unfold CbA.v;rw [h.cells]
  rw [e] at h1
  exact h1
theorem sameRX_calls (x:RyX) (h:RyXOk 10000 x) (u:RyA) (hs:RySm u) (tl:Blks) (W0 w:World) (hm:Mem W0 [] (ryB x++tl) w) (hU:RyOk w u):Calls Tryz.prog 24 #[.agg x.cells.toArray,u.v] w (Pure (.bool (decide (x.pl=u.pl))) w):=by
  have h1:=rsameRoyal_calls x.toA u (h.sm (Nat.le_refl _)) hs w (ryX_ok h hm) hU
  rw [RyX.toA_pl] at h1
  have e:x.toA.v = .agg x.cells.toArray:=by unfold RyA.v;rw [h.cells]
  rw [e] at h1
  exact h1
theorem samePX_calls (x:PsX) (h:PsXOk x) (hl:x.cards.2.length≤1000000) (u:PsA) (hs:u.cards.l.length≤1000000) (tl:Blks) (W0 w:World) (hm:Mem W0 [] (ptB x.cards++tl) w) (hU:u.cards.ok Pt.cells 5 w):Calls Tryz.prog 30 #[.agg x.cells.toArray,u.v] w (Pure (.bool (decide (x.pl=u.pl))) w):=by
  have h1:=rsamePrints_calls x.toA u w (own_sl (f:=Pt.cells) (e:=120) (fun _=>rfl) (by decide) h (fun b o hb=>(hm.newd b o (List.mem_append_left _ hb)).2)) hU hl hs
  have e:x.toA.v = .agg x.cells.toArray:=by
    show Value.agg [(OL.sa x.cards).v,_,_,_,_].toArray=_
    rw [OL.sa_v h]
    rfl
  rw [e] at h1
  exact h1
theorem one_psX (x:PsX):∀ v∈x.cells,isOne v=true:=fun v hv=>by
  simp only [PsX.cells,List.mem_cons,List.not_mem_nil,or_false] at hv
  rcases hv with rfl | rfl | rfl | rfl | rfl <;> first | rfl | exact own_one _ _
theorem pure_true {P:Program} {f:FuncId} {args:Array Value} {w:World} {p:Prop} [Decidable p] (h:Calls P f args w (Pure (.bool (decide p)) w)) (hp:p):Calls P f args w (Pure (.bool true) w):=by rw [decide_eq_true hp] at h;exact h
set_option maxHeartbeats 1000000 in
theorem alive_calls (W:World) (hL:Lw Tryz.prog W):Calls Tryz.prog 9 #[] W (Pure (.bool true) W):=by
  refine calls_start Tryz.func9 rfl rfl ?_
  refine csr ?_
  refine vp rfl rfl rfl rfl ?_
  refine nsr ?_
  refine RunL.callN (isCall_func rfl ent_37) rfl rfl rfl (fun w hm=>tour_calls w) (fun b18=>?_)
  refine RunL.callP (isCall_func rfl ent_10) rfl rfl rfl (fun w hm=>(by have h9:=WriteTour_calls (exTA b18) (exTA_sm b18) w (hL.mono hm) (exTA_ok hm);rw [wT] at h9;exact h9)) ?_
  iterate 5 refine vp rfl rfl rfl rfl ?_
  refine nnx ?_
  refine RunC.seq ?_
  refine RunC.keep (Sub.cons (t:=0) rfl (Sub.cons (t:=1) rfl (Sub.cons (t:=2) rfl (Sub.nil _)))) .nil ?_
  refine RunC.region ?_
  refine RunL.callN (isCall_func rfl ent_38) rfl rfl rfl (fun w hm=>cabinet_calls w) (fun b23=>?_)
  refine RunL.callP (isCall_func rfl ent_15) rfl rfl rfl (fun w hm=>(by have h9:=WriteCabinet_calls (exCA b23) (exCA_s b23) w (hL.mono hm) (exCA_ok hm);rw [wC] at h9;exact h9)) ?_
  iterate 5 refine vp rfl rfl rfl rfl ?_
  refine nnx ?_
  refine RunC.seq ?_
  refine RunC.keep (Sub.cons (t:=0) rfl (Sub.cons (t:=1) rfl (Sub.cons (t:=2) rfl (Sub.cons (t:=3) rfl (Sub.cons (t:=4) rfl (Sub.nil _)))))) .nil ?_
  refine RunC.region ?_
  refine RunL.callN (isCall_func rfl ent_39) rfl rfl rfl (fun w hm=>royal_calls w) (fun b28=>?_)
  refine RunL.callP (isCall_func rfl ent_19) rfl rfl rfl (fun w hm=>(by have h9:=WriteRoyal_calls (exRA b28) (exRA_sm b28) w (hL.mono hm) (exRA_ok hm);rw [wR] at h9;exact h9)) ?_
  iterate 5 refine vp rfl rfl rfl rfl ?_
  refine nnx ?_
  refine RunC.seq ?_
  refine RunC.keep (Sub.cons (t:=0) rfl (Sub.cons (t:=1) rfl (Sub.cons (t:=2) rfl (Sub.cons (t:=3) rfl (Sub.cons (t:=4) rfl (Sub.cons (t:=5) rfl (Sub.cons (t:=6) rfl (Sub.nil _)))))))) .nil ?_
  refine RunC.region ?_
  refine RunL.callN (isCall_func rfl ent_40) rfl rfl rfl (fun w hm=>prints_calls w) (fun b33=>?_)
  refine RunL.callNT (isCall_func rfl ent_25) rfl rfl rfl (fun w hm=>(by have h9:=writePrints_ok (exPA b33) w (exPA_ok hm) exP_ok;simp only [exPA_pl,exP_bytes] at h9;exact grow_news h9)) (fun z34=>?_)
  obtain ⟨y34,hy34⟩:=z34
  dsimp only
  iterate 5 refine vp rfl rfl rfl rfl ?_
  refine nnx ?_
  refine RunC.seq ?_
  refine RunC.seq ?_
  refine RunC.keep (Sub.cons (t:=0) rfl (Sub.cons (t:=1) rfl (Sub.cons (t:=2) rfl (Sub.cons (t:=3) rfl (Sub.cons (t:=4) rfl (Sub.cons (t:=5) rfl (Sub.cons (t:=6) rfl (Sub.cons (t:=7) rfl (Sub.cons (t:=8) rfl (Sub.nil _)))))))))) (Pick.skip (Pick.refl _)) ?_
  refine RunC.region ?_
  refine vp rfl rfl rfl rfl ?_
  refine RunL.val (Val.neqStr rfl rfl) rfl rfl rfl ?_
  refine vp rfl rfl rfl rfl ?_
  refine RunL.sure (dj:=39) false rfl (ndec rfl) ?_
  iterate 4 refine vp rfl rfl rfl rfl ?_
  refine RunL.sure (dj:=43) false rfl (by decide) ?_
  refine vp rfl rfl rfl rfl ?_
  refine RunL.val (Val.neqStr rfl rfl) rfl rfl rfl ?_
  refine vp rfl rfl rfl rfl ?_
  refine vp rfl rfl rfl rfl ?_
  refine RunL.sure (dj:=47) false rfl (ndec rfl) ?_
  iterate 4 refine vp rfl rfl rfl rfl ?_
  refine RunL.sure (dj:=51) false rfl (by decide) ?_
  refine vp rfl rfl rfl rfl ?_
  refine RunL.val (Val.neqStr rfl rfl) rfl rfl rfl ?_
  refine vp rfl rfl rfl rfl ?_
  refine vp rfl rfl rfl rfl ?_
  refine RunL.sure (dj:=55) false rfl (ndec rfl) ?_
  iterate 4 refine vp rfl rfl rfl rfl ?_
  refine RunL.sure (dj:=59) false rfl (by decide) ?_
  refine vp rfl rfl rfl rfl ?_
  refine RunL.new (New.buildSlice (parts:=[(0,.const (.int .u8 80)),(1,.const (.int .u8 1)),(2,.const (.int .u8 0)),(3,.const (.int .u8 100)),(4,.const (.int .u8 0)),(5,.const (.int .u8 1)),(6,.const (.int .u8 1)),(7,.const (.int .u8 244)),(8,.const (.int .u8 0)),(9,.const (.int .u8 5)),(10,.const (.int .u8 0)),(11,.const (.int .u8 0)),(12,.const (.int .u8 0)),(13,.const (.int .u8 3)),(14,.const (.int .u8 0)),(15,.const (.int .u8 2)),(16,.const (.int .u8 0)),(17,.const (.int .u8 10)),(18,.const (.int .u8 0)),(19,.const (.int .u8 10)),(20,.const (.int .u8 29)),(21,.const (.int .u8 39))]) rfl sl_58 zero_5 rfl rfl rfl rfl) rfl rfl rfl (fun b61=>?_)
  refine RunL.callP (isCall_func rfl ent_29) rfl rfl rfl (fun w hm=>(pure_true (by rw [ownV_slice hy34];exact rsameBytes_calls ⟨exPS,ownQ y34,ownK y34,0,ownC y34⟩ (atB exPS b61) w (own_bytes hy34 (fun b o h=>hm.at (.tail _ ((by first | exact List.mem_append_left _ h | exact List.mem_append_right _ (List.mem_append_left _ h)))))) (cO_ok (f:=byC) exPS (hm.at (.head _)) (fun _=>rfl))) rfl)) ?_
  iterate 3 refine vp rfl rfl rfl rfl ?_
  refine RunL.sure (dj:=65) false rfl rfl ?_
  iterate 3 refine vp rfl rfl rfl rfl ?_
  refine nnx ?_
  refine RunC.cond rfl (fun h=>absurd h (by decide)) ?_
  intro c0
  clear c0
  refine RunC.skip ?_
  refine RunE.next ?_
  refine csr ?_
  refine vp rfl rfl rfl rfl ?_
  refine RunL.callNA [(b61,_)] _ rfl (isCall_func rfl ent_12) rfl rfl rfl (fun w hm=>grow_news (ReadTour_calls exTS w (hL.mono hm) (by rw [exT_len];decide))) (fun z71=>?_)
  obtain ⟨⟨x71,e71⟩,h71⟩:=z71
  obtain ⟨p71,e171,o71⟩:=rd_ok h71 exT_read
  subst e171
  dsimp only
  iterate 3 refine vp rfl rfl rfl rfl ?_
  refine RunL.new (New.alloc zero_25) rfl rfl rfl (fun b9=>?_)
  refine RunL.sto (Sto.store (cs:=zsrdT) (cs':=x71.cells) rfl rfl .here ty_25 rfl (paste_over rfl (one_trX _))) rfl rfl ?_
  refine vp rfl rfl rfl rfl ?_
  refine nsr ?_
  refine vp rfl rfl rfl rfl ?_
  refine RunL.callNA [(b9,_),(b61,_)] _ rfl (isCall_func rfl ent_17) rfl rfl rfl (fun w hm=>grow_news (ReadCabinet_calls exCS w (hL.mono hm) (by rw [exC_len];decide))) (fun z76=>?_)
  obtain ⟨⟨x76,e76⟩,h76⟩:=z76
  obtain ⟨p76,e176,o76⟩:=rd_ok h76 exC_read
  subst e176
  dsimp only
  iterate 3 refine vp rfl rfl rfl rfl ?_
  refine RunL.new (New.alloc zero_30) rfl rfl rfl (fun b11=>?_)
  refine RunL.sto (Sto.store (cs:=zsrdC) (cs':=x76.cells) rfl rfl .here ty_30 rfl (paste_over rfl (one_cbX _))) rfl rfl ?_
  refine vp rfl rfl rfl rfl ?_
  refine nsr ?_
  refine vp rfl rfl rfl rfl ?_
  refine RunL.callNA [(b11,_),(b9,_),(b61,_)] _ rfl (isCall_func rfl ent_21) rfl rfl rfl (fun w hm=>grow_news (ReadRoyal_calls exRS w (hL.mono hm) (by rw [exR_len];decide))) (fun z81=>?_)
  obtain ⟨⟨x81,e81⟩,h81⟩:=z81
  obtain ⟨p81,e181,o81⟩:=rd_ok h81 exR_read
  subst e181
  dsimp only
  iterate 3 refine vp rfl rfl rfl rfl ?_
  refine RunL.new (New.alloc zero_35) rfl rfl rfl (fun b13=>?_)
  refine RunL.sto (Sto.store (cs:=zsrdR) (cs':=x81.cells) rfl rfl .here ty_35 rfl (paste_over rfl (one_ryX _))) rfl rfl ?_
  refine vp rfl rfl rfl rfl ?_
  refine nsr ?_
  refine vp rfl rfl rfl rfl ?_
  refine RunL.callNA [(b13,_),(b11,_),(b9,_),(b61,_)] _ rfl (isCall_func rfl ent_27) rfl rfl rfl (fun w hm=>(by rw [ownV_slice hy34];exact grow_news (ReadPrints_calls exPS (ownQ y34) (ownK y34) 0 (ownC y34) w (own_bytes hy34 (fun b o h=>hm.at (.tail _ (.tail _ (.tail _ (.tail _ ((by first | exact List.mem_append_right _ (List.mem_append_right _ (List.mem_append_right _ (List.mem_append_left _ h))) | exact List.mem_append_right _ (List.mem_append_right _ (List.mem_append_right _ (List.mem_append_right _ (List.mem_append_left _ h)))))))))))) (by decide)))) (fun z86=>?_)
  obtain ⟨⟨x86,e86⟩,h86⟩:=z86
  obtain ⟨p86,e186,o86⟩:=rd_ok h86 exP_read
  subst e186
  dsimp only
  iterate 3 refine vp rfl rfl rfl rfl ?_
  refine RunL.new (New.alloc zero_40) rfl rfl rfl (fun b15=>?_)
  refine RunL.sto (Sto.store (cs:=zeroPX.cells) (cs':=x86.cells) rfl rfl .here ty_40 rfl (paste_over rfl (one_psX _))) rfl rfl ?_
  refine vp rfl rfl rfl rfl ?_
  refine nnx ?_
  refine RunC.seq ?_
  refine RunC.draw 28 fol_ (.cons .here rfl (.cons .here rfl (.cons .here rfl (.cons .here rfl (.cons .here rfl .nil))))) ?_
  refine va 0 rfl (Val.load_agg rfl (.tail _ (.tail _ (.tail _ (.head _)))) ty_25 rfl) rfl rfl rfl (.cons .here rfl (.cons .here rfl (.cons .here rfl (.cons .here rfl (.cons .here rfl .nil))))) rfl ?_
  refine RunA.one (i:=1) (by kernel_rfl) (by kernel_rfl) ?_
  refine RunI.callN rfl (isCall_func rfl ent_37) rfl rfl rfl (fun w hm=>tour_calls w) (fun b90=>(RunK.toA (.cons .here rfl (.cons .here rfl (.cons .here rfl (.cons .here rfl (.cons .here rfl (.cons .here rfl (.cons .here rfl (.cons .here rfl (.cons .here rfl (.cons .here rfl (.cons .here rfl (.cons .here rfl .nil)))))))))))) (.cons (.there (.there (.there (.there (.there (.there (.there .here))))))) rfl (.cons (.there (.there (.there (.there (.there (.there (.there .here))))))) rfl (.cons (.there (.there (.there (.there (.there (.there (.there .here))))))) rfl (.cons (.there (.there (.there (.there (.there (.there (.there .here))))))) rfl (.cons (.there (.there (.there (.there (.there (.there (.there .here))))))) rfl .nil))))) rfl ?_))
  refine RunA.one (i:=2) (by kernel_rfl) (by kernel_rfl) ?_
  refine RunI.callP rfl (isCall_func rfl ent_14) rfl rfl rfl (fun w hm=>(pure_true (sameTX_calls x71 o71 (exTA b90) (exTA_sm b90) [] W w (hm.pick (news':=trB x71++[]) (Pick.cnt fun x=>by simp only [nC];omega)) (exTA_ok hm)) p71)) (RunK.toA (.cons .here rfl (.cons .here rfl (.cons .here rfl (.cons .here rfl (.cons .here rfl (.cons .here rfl (.cons .here rfl (.cons .here rfl (.cons .here rfl (.cons .here rfl (.cons .here rfl (.cons .here rfl .nil)))))))))))) (.cons .here rfl (.cons .here rfl (.cons .here rfl (.cons .here rfl (.cons .here rfl (.cons .here rfl (.cons .here rfl (.cons .here rfl (.cons .here rfl (.cons .here rfl (.cons .here rfl (.cons .here rfl .nil)))))))))))) rfl ?_)
  refine va 3 rfl (Val.pure rfl) rfl rfl rfl (.cons .here rfl (.cons .here rfl (.cons .here rfl (.cons .here rfl (.cons .here rfl (.cons .here rfl (.cons .here rfl (.cons .here rfl (.cons .here rfl (.cons .here rfl (.cons .here rfl (.cons .here rfl .nil)))))))))))) rfl ?_
  refine RunA.sure (dj:=92) true rfl (by rfl) ?_
  refine va 4 rfl (Val.pure rfl) rfl rfl rfl (.cons .here rfl (.cons .here rfl (.cons .here rfl (.cons .here rfl (.cons .here rfl (.cons .here rfl (.cons .here rfl (.cons .here rfl (.cons .here rfl (.cons .here rfl (.cons .here rfl (.cons .here rfl .nil)))))))))))) rfl ?_
  refine va 5 rfl (Val.pure rfl) rfl rfl rfl (.cons .here rfl (.cons .here rfl (.cons .here rfl (.cons .here rfl (.cons .here rfl (.cons .here rfl (.cons .here rfl (.cons .here rfl (.cons .here rfl (.cons .here rfl (.cons .here rfl (.cons .here rfl .nil)))))))))))) rfl ?_
  refine va 6 rfl (Val.pure rfl) rfl rfl rfl (.cons .here rfl (.cons .here rfl (.cons .here rfl (.cons .here rfl (.cons .here rfl (.cons .here rfl (.cons .here rfl (.cons .here rfl (.cons .here rfl (.cons .here rfl (.cons .here rfl (.cons .here rfl .nil)))))))))))) rfl ?_
  refine va 7 rfl (Val.pure rfl) rfl rfl rfl (.cons .here rfl (.cons .here rfl (.cons .here rfl (.cons .here rfl (.cons .here rfl (.cons .here rfl (.cons .here rfl (.cons .here rfl (.cons .here rfl (.cons .here rfl (.cons .here rfl (.cons .here rfl .nil)))))))))))) rfl ?_
  refine RunA.sure (dj:=96) true rfl (by rfl) ?_
  refine va 8 rfl (Val.load_agg rfl (.tail _ (.tail _ (.tail _ (.tail _ (.tail _ (.tail _ (.tail _ (.tail _ (.tail _ (.head _)))))))))) ty_30 rfl) rfl rfl rfl (.cons .here rfl (.cons .here rfl (.cons .here rfl (.cons .here rfl (.cons .here rfl (.cons .here rfl (.cons .here rfl (.cons .here rfl (.cons .here rfl (.cons .here rfl (.cons .here rfl (.cons .here rfl .nil)))))))))))) rfl ?_
  refine RunA.one (i:=9) (by kernel_rfl) (by kernel_rfl) ?_
  refine RunI.callN rfl (isCall_func rfl ent_38) rfl rfl rfl (fun w hm=>cabinet_calls w) (fun b98=>(RunK.toA (.cons .here rfl (.cons .here rfl (.cons .here rfl (.cons .here rfl (.cons .here rfl (.cons .here rfl (.cons .here rfl (.cons .here rfl (.cons .here rfl (.cons .here rfl (.cons .here rfl (.cons .here rfl (.cons .here rfl (.cons .here rfl .nil)))))))))))))) (.cons (.there (.there .here)) rfl (.cons (.there (.there .here)) rfl (.cons (.there (.there .here)) rfl (.cons (.there (.there .here)) rfl (.cons (.there (.there .here)) rfl (.cons (.there (.there .here)) rfl (.cons (.there (.there .here)) rfl (.cons (.there (.there .here)) rfl (.cons (.there (.there .here)) rfl (.cons (.there (.there .here)) rfl (.cons (.there (.there .here)) rfl (.cons (.there (.there .here)) rfl .nil)))))))))))) rfl ?_))
  refine RunA.one (i:=10) (by kernel_rfl) (by kernel_rfl) ?_
  refine RunI.callP rfl (isCall_func rfl ent_23) rfl rfl rfl (fun w hm=>(pure_true (sameCX_calls x76 o76 (exCA b98) (exCA_s b98) [] W w (hm.pick (news':=cbB x76++[]) (Pick.cnt fun x=>by simp only [nC];omega)) (exCA_ok hm)) p76)) (RunK.toA (.cons .here rfl (.cons .here rfl (.cons .here rfl (.cons .here rfl (.cons .here rfl (.cons .here rfl (.cons .here rfl (.cons .here rfl (.cons .here rfl (.cons .here rfl (.cons .here rfl (.cons .here rfl (.cons .here rfl (.cons .here rfl .nil)))))))))))))) (.cons .here rfl (.cons .here rfl (.cons .here rfl (.cons .here rfl (.cons .here rfl (.cons .here rfl (.cons .here rfl (.cons .here rfl (.cons .here rfl (.cons .here rfl (.cons .here rfl (.cons .here rfl (.cons .here rfl (.cons .here rfl .nil)))))))))))))) rfl ?_)
  refine va 11 rfl (Val.pure rfl) rfl rfl rfl (.cons .here rfl (.cons .here rfl (.cons .here rfl (.cons .here rfl (.cons .here rfl (.cons .here rfl (.cons .here rfl (.cons .here rfl (.cons .here rfl (.cons .here rfl (.cons .here rfl (.cons .here rfl (.cons .here rfl (.cons .here rfl .nil)))))))))))))) rfl ?_
  refine va 12 rfl (Val.pure rfl) rfl rfl rfl (.cons .here rfl (.cons .here rfl (.cons .here rfl (.cons .here rfl (.cons .here rfl (.cons .here rfl (.cons .here rfl (.cons .here rfl (.cons .here rfl (.cons .here rfl (.cons .here rfl (.cons .here rfl (.cons .here rfl (.cons .here rfl .nil)))))))))))))) rfl ?_
  refine RunA.sure (dj:=101) true rfl (by rfl) ?_
  refine va 13 rfl (Val.pure rfl) rfl rfl rfl (.cons .here rfl (.cons .here rfl (.cons .here rfl (.cons .here rfl (.cons .here rfl (.cons .here rfl (.cons .here rfl (.cons .here rfl (.cons .here rfl (.cons .here rfl (.cons .here rfl (.cons .here rfl (.cons .here rfl (.cons .here rfl .nil)))))))))))))) rfl ?_
  refine va 14 rfl (Val.pure rfl) rfl rfl rfl (.cons .here rfl (.cons .here rfl (.cons .here rfl (.cons .here rfl (.cons .here rfl (.cons .here rfl (.cons .here rfl (.cons .here rfl (.cons .here rfl (.cons .here rfl (.cons .here rfl (.cons .here rfl (.cons .here rfl (.cons .here rfl .nil)))))))))))))) rfl ?_
  refine va 15 rfl (Val.pure rfl) rfl rfl rfl (.cons .here rfl (.cons .here rfl (.cons .here rfl (.cons .here rfl (.cons .here rfl (.cons .here rfl (.cons .here rfl (.cons .here rfl (.cons .here rfl (.cons .here rfl (.cons .here rfl (.cons .here rfl (.cons .here rfl (.cons .here rfl .nil)))))))))))))) rfl ?_
  refine va 16 rfl (Val.pure rfl) rfl rfl rfl (.cons .here rfl (.cons .here rfl (.cons .here rfl (.cons .here rfl (.cons .here rfl (.cons .here rfl (.cons .here rfl (.cons .here rfl (.cons .here rfl (.cons .here rfl (.cons .here rfl (.cons .here rfl (.cons .here rfl (.cons .here rfl .nil)))))))))))))) rfl ?_
  refine RunA.sure (dj:=105) true rfl (by rfl) ?_
  refine va 17 rfl (Val.load_agg rfl (.tail _ (.tail _ (.tail _ (.tail _ (.tail _ (.tail _ (.tail _ (.tail _ (.tail _ (.tail _ (.head _))))))))))) ty_35 rfl) rfl rfl rfl (.cons .here rfl (.cons .here rfl (.cons .here rfl (.cons .here rfl (.cons .here rfl (.cons .here rfl (.cons .here rfl (.cons .here rfl (.cons .here rfl (.cons .here rfl (.cons .here rfl (.cons .here rfl (.cons .here rfl (.cons .here rfl .nil)))))))))))))) rfl ?_
  refine RunA.one (i:=18) (by kernel_rfl) (by kernel_rfl) ?_
  refine RunI.callN rfl (isCall_func rfl ent_39) rfl rfl rfl (fun w hm=>royal_calls w) (fun b107=>(RunK.toA (.cons .here rfl (.cons .here rfl (.cons .here rfl (.cons .here rfl (.cons .here rfl (.cons .here rfl (.cons .here rfl (.cons .here rfl (.cons .here rfl (.cons .here rfl (.cons .here rfl (.cons .here rfl (.cons .here rfl (.cons .here rfl (.cons .here rfl (.cons .here rfl (.cons .here rfl (.cons .here rfl (.cons .here rfl (.cons .here rfl .nil)))))))))))))))))))) (.cons (.there (.there (.there (.there (.there (.there .here)))))) rfl (.cons (.there (.there (.there (.there (.there (.there .here)))))) rfl (.cons (.there (.there (.there (.there (.there (.there .here)))))) rfl (.cons (.there (.there (.there (.there (.there (.there .here)))))) rfl (.cons (.there (.there (.there (.there (.there (.there .here)))))) rfl (.cons (.there (.there (.there (.there (.there (.there .here)))))) rfl (.cons (.there (.there (.there (.there (.there (.there .here)))))) rfl (.cons (.there (.there (.there (.there (.there (.there .here)))))) rfl (.cons (.there (.there (.there (.there (.there (.there .here)))))) rfl (.cons (.there (.there (.there (.there (.there (.there .here)))))) rfl (.cons (.there (.there (.there (.there (.there (.there .here)))))) rfl (.cons (.there (.there (.there (.there (.there (.there .here)))))) rfl (.cons (.there (.there (.there (.there (.there (.there .here)))))) rfl (.cons (.there (.there (.there (.there (.there (.there .here)))))) rfl .nil)))))))))))))) rfl ?_))
  refine RunA.one (i:=19) (by kernel_rfl) (by kernel_rfl) ?_
  refine RunI.callP rfl (isCall_func rfl ent_24) rfl rfl rfl (fun w hm=>(pure_true (sameRX_calls x81 o81 (exRA b107) (exRA_sm b107) [] W w (hm.pick (news':=ryB x81++[]) (Pick.cnt fun x=>by simp only [nC];omega)) (exRA_ok hm)) p81)) (RunK.toA (.cons .here rfl (.cons .here rfl (.cons .here rfl (.cons .here rfl (.cons .here rfl (.cons .here rfl (.cons .here rfl (.cons .here rfl (.cons .here rfl (.cons .here rfl (.cons .here rfl (.cons .here rfl (.cons .here rfl (.cons .here rfl (.cons .here rfl (.cons .here rfl (.cons .here rfl (.cons .here rfl (.cons .here rfl (.cons .here rfl .nil)))))))))))))))))))) (.cons .here rfl (.cons .here rfl (.cons .here rfl (.cons .here rfl (.cons .here rfl (.cons .here rfl (.cons .here rfl (.cons .here rfl (.cons .here rfl (.cons .here rfl (.cons .here rfl (.cons .here rfl (.cons .here rfl (.cons .here rfl (.cons .here rfl (.cons .here rfl (.cons .here rfl (.cons .here rfl (.cons .here rfl (.cons .here rfl .nil)))))))))))))))))))) rfl ?_)
  refine va 20 rfl (Val.pure rfl) rfl rfl rfl (.cons .here rfl (.cons .here rfl (.cons .here rfl (.cons .here rfl (.cons .here rfl (.cons .here rfl (.cons .here rfl (.cons .here rfl (.cons .here rfl (.cons .here rfl (.cons .here rfl (.cons .here rfl (.cons .here rfl (.cons .here rfl (.cons .here rfl (.cons .here rfl (.cons .here rfl (.cons .here rfl (.cons .here rfl (.cons .here rfl .nil)))))))))))))))))))) rfl ?_
  refine va 21 rfl (Val.pure rfl) rfl rfl rfl (.cons .here rfl (.cons .here rfl (.cons .here rfl (.cons .here rfl (.cons .here rfl (.cons .here rfl (.cons .here rfl (.cons .here rfl (.cons .here rfl (.cons .here rfl (.cons .here rfl (.cons .here rfl (.cons .here rfl (.cons .here rfl (.cons .here rfl (.cons .here rfl (.cons .here rfl (.cons .here rfl (.cons .here rfl (.cons .here rfl .nil)))))))))))))))))))) rfl ?_
  refine RunA.sure (dj:=110) true rfl (by rfl) ?_
  refine va 22 rfl (Val.pure rfl) rfl rfl rfl (.cons .here rfl (.cons .here rfl (.cons .here rfl (.cons .here rfl (.cons .here rfl (.cons .here rfl (.cons .here rfl (.cons .here rfl (.cons .here rfl (.cons .here rfl (.cons .here rfl (.cons .here rfl (.cons .here rfl (.cons .here rfl (.cons .here rfl (.cons .here rfl (.cons .here rfl (.cons .here rfl (.cons .here rfl (.cons .here rfl .nil)))))))))))))))))))) rfl ?_
  refine va 23 rfl (Val.pure rfl) rfl rfl rfl (.cons .here rfl (.cons .here rfl (.cons .here rfl (.cons .here rfl (.cons .here rfl (.cons .here rfl (.cons .here rfl (.cons .here rfl (.cons .here rfl (.cons .here rfl (.cons .here rfl (.cons .here rfl (.cons .here rfl (.cons .here rfl (.cons .here rfl (.cons .here rfl (.cons .here rfl (.cons .here rfl (.cons .here rfl (.cons .here rfl .nil)))))))))))))))))))) rfl ?_
  refine va 24 rfl (Val.pure rfl) rfl rfl rfl (.cons .here rfl (.cons .here rfl (.cons .here rfl (.cons .here rfl (.cons .here rfl (.cons .here rfl (.cons .here rfl (.cons .here rfl (.cons .here rfl (.cons .here rfl (.cons .here rfl (.cons .here rfl (.cons .here rfl (.cons .here rfl (.cons .here rfl (.cons .here rfl (.cons .here rfl (.cons .here rfl (.cons .here rfl (.cons .here rfl .nil)))))))))))))))))))) rfl ?_
  refine va 25 rfl (Val.pure rfl) rfl rfl rfl (.cons .here rfl (.cons .here rfl (.cons .here rfl (.cons .here rfl (.cons .here rfl (.cons .here rfl (.cons .here rfl (.cons .here rfl (.cons .here rfl (.cons .here rfl (.cons .here rfl (.cons .here rfl (.cons .here rfl (.cons .here rfl (.cons .here rfl (.cons .here rfl (.cons .here rfl (.cons .here rfl (.cons .here rfl (.cons .here rfl .nil)))))))))))))))))))) rfl ?_
  refine RunA.sure (dj:=114) true rfl (by rfl) ?_
  refine va 26 rfl (Val.load_agg rfl (.tail _ (.tail _ (.tail _ (.tail _ (.tail _ (.tail _ (.tail _ (.tail _ (.tail _ (.tail _ (.tail _ (.tail _ (.tail _ (.tail _ (.tail _ (.head _)))))))))))))))) ty_40 rfl) rfl rfl rfl (.cons .here rfl (.cons .here rfl (.cons .here rfl (.cons .here rfl (.cons .here rfl (.cons .here rfl (.cons .here rfl (.cons .here rfl (.cons .here rfl (.cons .here rfl (.cons .here rfl (.cons .here rfl (.cons .here rfl (.cons .here rfl (.cons .here rfl (.cons .here rfl (.cons .here rfl (.cons .here rfl (.cons .here rfl (.cons .here rfl .nil)))))))))))))))))))) rfl ?_
  refine RunA.one (i:=27) (by kernel_rfl) (by kernel_rfl) ?_
  refine RunI.callN rfl (isCall_func rfl ent_40) rfl rfl rfl (fun w hm=>prints_calls w) (fun b116=>(RunK.toA (.cons .here rfl (.cons .here rfl (.cons .here rfl (.cons .here rfl (.cons .here rfl (.cons .here rfl (.cons .here rfl (.cons .here rfl (.cons .here rfl (.cons .here rfl (.cons .here rfl (.cons .here rfl (.cons .here rfl (.cons .here rfl (.cons .here rfl (.cons .here rfl (.cons .here rfl (.cons .here rfl (.cons .here rfl (.cons .here rfl (.cons .here rfl .nil))))))))))))))))))))) (.cons (.there .here) rfl (.cons (.there .here) rfl (.cons (.there .here) rfl (.cons (.there .here) rfl (.cons (.there .here) rfl (.cons (.there .here) rfl (.cons (.there .here) rfl (.cons (.there .here) rfl (.cons (.there .here) rfl (.cons (.there .here) rfl (.cons (.there .here) rfl (.cons (.there .here) rfl (.cons (.there .here) rfl (.cons (.there .here) rfl (.cons (.there .here) rfl (.cons (.there .here) rfl (.cons (.there .here) rfl (.cons (.there .here) rfl (.cons (.there .here) rfl (.cons (.there .here) rfl .nil)))))))))))))))))))) rfl ?_))
  refine RunA.toB (by kernel_rfl) ?_
  refine RunB.one (i:=28) (by kernel_rfl) ?_
  refine RunI.callP rfl (isCall_func rfl ent_30) rfl rfl rfl (fun w hm=>(pure_true (samePX_calls x86 o86 (by have h9:=congrArg (fun q:Ps=>q.cards.length) p86;have h8:x86.cards.2.length=1:=h9;omega) (exPA b116) (by show (1:Nat)≤_;decide) [] W w (hm.pick (news':=ptB x86.cards++[]) (Pick.cnt fun x=>by simp only [nC];omega)) (exPA_ok hm)) p86)) (RunK.toB ?_)
  refine RunB.one (i:=29) (by kernel_rfl) ?_
  refine RunI.val rfl (Val.pure rfl) rfl rfl rfl (RunK.toB ?_)
  refine RunB.one (i:=30) (by kernel_rfl) ?_
  refine RunI.val rfl (Val.pure rfl) rfl rfl rfl (RunK.toB ?_)
  refine RunB.sure (dj:=119) true rfl (by rfl) ?_
  refine RunB.one (i:=31) (by kernel_rfl) ?_
  refine RunI.val rfl (Val.pure rfl) rfl rfl rfl (RunK.toB ?_)
  refine RunB.one (i:=32) (by kernel_rfl) ?_
  refine RunI.val rfl (Val.pure rfl) rfl rfl rfl (RunK.toB ?_)
  refine RunB.one (i:=33) (by kernel_rfl) ?_
  refine RunI.val rfl (Val.pure rfl) rfl rfl rfl (RunK.toB ?_)
  refine RunB.one (i:=34) (by kernel_rfl) ?_
  refine RunI.val rfl (Val.pure rfl) rfl rfl rfl (RunK.toB ?_)
  refine RunB.done (by kernel_rfl) ?_
  refine RunE.next ?_
  refine RunC.ret ?_
  exact RunE.retP (.r1 rfl (.tmp rfl)) (by first | rfl | simp)
end Go.Proofs.YtleamcmljcdapaaGreatDoor
namespace Go.Proofs.YtleamcmljcdapaaGreatDoor
open Go Go.Eng
theorem ent_9:Enters Tryz.prog 9:=enters_of Tryz.func9 (by kernel_rfl) rfl
end Go.Proofs.YtleamcmljcdapaaGreatDoor
namespace Go.Eng
open Go Go.RowKit Go.ChangeShapes Go.WideShapes Go.ChangeAt
theorem handed_shaped_and {H:Type} {enc:TypeId×Value→H} {a:Assume} {C:Checked} {os:Os} {f:FuncId} {fn:Func} {s:ChangeSpec} {conds:List PathCond} {apart fresh handsOn again:Bool} {X:World→Array Value→Prop}
    (hX:∀ (w w':World) (args:Array Value),w.heap=w'.heap→X w args→X w' args)
    (own:ownKnob C.prog.godebug=none) (started:os.Started) (noInit:C.prog.inits.idxOf? f=none) (hfn:C.prog.funcs[f]? = some fn)
    (witness:∃ (w:World) (tape:Tape) (i:Input),w.os=os∧(w.forCall tape i).Shaped C.prog∧i.vars=[]∧Input.okWide C.prog (w.forCall tape i) .any w.heap.size f i ∧
      ((s.pre enc C.prog fn conds apart (w.forCall tape i).memory i.args∧X (w.forCall tape i).memory i.args)∧sizedMet enc C.prog fn (OpenSpec.ofChange s) apart (w.forCall tape i).memory i.args)∧a.holds C.prog (lone (Frame.enter C.prog f i.args .normal) [] (w.forCall tape i)))
    (contract:∀ (W:World) (base:Nat) (args:Array Value) (ds gs:List (DataW H)) (before:List MemPlace),
      (∀ (j:Nat) t v,fn.params[j]? = some t→args[j]? = some v→Value.okWide C.prog W .any base t v) →
      DataW.Whole enc C.prog fn.params.toList s.vars apart W args.toList ds gs before→W.ShapedOpen C.prog→X W args →
      Calls C.prog f args W fun e W'=>∃ v,e = .returned v∧s.post enc C.prog fn apart fresh handsOn again W args v W') :
    ReturnsInHanded a C os f .any (fun w args=>(s.pre enc C.prog fn conds apart w args∧X w args)∧sizedMet enc C.prog fn (OpenSpec.ofChange s) apart w args) (s.post enc C.prog fn apart fresh handsOn again):=by
  refine returnsInHanded_of_calls own started noInit witness ?_
  intro w tape i _ hsh _ hok hpre hholds
  obtain ⟨_,_,_,fn',hfn',_,_,_,_,hval⟩:=hok
  have e:fn'=fn:=Option.some.inj (hfn'.symm.trans hfn)
  subst e
  obtain ⟨⟨⟨ds,gs,before,hw,hc⟩,hx⟩,hz⟩:=hpre
  have hw':=DataW.Whole.of_heap (w':=w.forCall tape i) (by rfl) hw
  refine (contract (w.forCall tape i) w.heap.size i.args ds gs before hval hw' hsh (hX _ _ _ (by rfl) hx)).mono fun e W' ⟨v,he,hp⟩=>?_
  subst he
  exact ChangeSpec.post_blind hp
theorem law_contractW {H:Type} {enc:TypeId×Value→H} {P:Program} {f:Func} {s:ChangeSpec} {n:Nat} {shs:List Sh} {tb:TypeId} {F:FuncId} (hl:laidOutB P=true) (hsh:f.params.toList.mapM (shapeB P n)=some shs)
    (hp:f.params.toList.all (fun t=>P.readableRec t && decide (t < P.types.size))=true) (hr:f.resultTypes = #[tb]) (hb:P.underlying tb=some .bool) (hvars:s.vars=[])
    (hfn:∀ ds:List (DataW H),ds.length=f.params.toList.length→s.fn H (ds++[])={ results:=[.lit (.bool true)],args:=ds })
    {W:World} (walk:∀ vs:List Value,RdAll W shs vs→Calls P F vs.toArray W (Pure (.bool true) W)) {base:Nat} {args:Array Value} {ds gs:List (DataW H)} {before:List MemPlace} (hval:∀ (j:Nat) t v,f.params[j]? = some t→args[j]? = some v→Value.okWide P W .any base t v)
    (hW:DataW.Whole enc P f.params.toList s.vars false W args.toList ds gs before) :
    Calls P F args W fun e W'=>∃ v,e = .returned v∧s.post enc P f false true false false W args v W':=by
  have hW':=hW
  obtain ⟨p,q,hA,hV,rfl,hfz,hnd⟩:=hW
  rw [hvars] at hV
  obtain ⟨rfl,rfl⟩:=trodVars_none hV
  have hrd:RdAll W shs args.toList:=rdAll_of hsh (fun j t v hj hv=>hval j t v (by simpa using hj) (by simpa using hv)) hA
  have hlen:ds.length=f.params.toList.length:=by
    clear hW' hval hrd hfn hp hsh hfz hnd hV
    generalize f.params.toList=ts at hA
    generalize args.toList=vs at hA
    induction ts generalizing vs ds p with
    | nil=>obtain ⟨_,rfl,_⟩:=trodAll_nil hA;rfl
    | cons t ts ih =>
      obtain ⟨v,vs',d,ds',p,q,rfl,rfl,rfl,h0,hr⟩:=trodAll_cons hA
      simp [ih _ _ hr]
  refine (walk args.toList hrd).mono fun e W' ⟨he,hm⟩=>?_
  subst he
  have bel:=hm.below
  refine ⟨_,rfl,ds,[],p++[],[],p,[],hW',?_,?_,?_,bel.frame _,fun h=>by cases h⟩
  · rw [hfn ds hlen,hr]
    exact trodAll_mk1 (shut_bool hb _)
  · rw [hfn ds hlen]
    exact trodAll_below hl bel hp hA
  · rw [hvars,hfn ds hlen]
    rfl
theorem laid_iface {P:Program} {n nm:String} {d:DataW Unit} {r:List (String×DataW Unit)} {W:World} {g:Nat} {ti:TypeId} {ms:Array (String×TypeId)}
    (h:laidMet P ((n,.iface nm d)::r) W) (hg:P.globalNamed n=some g) (ht:(P.globals[g]?).map (·.type)=some ti) (hi:P.underlying ti=some (.interface ms)):∃ te pe,W.cell? ⟨g,0,none⟩=some (.iface te pe):=by
  obtain ⟨ps,⟨g0,t0,cs0,f0,p0,q0,hg0,ht0,hv0,hd0,_,e0⟩,_,hrows⟩:=h
  obtain rfl:=Option.some.inj (hg.symm.trans hg0)
  obtain rfl:=Option.some.inj (ht.symm.trans ht0)
  obtain ⟨f',u,v,hcs,_,_⟩:=iface_of_trod hi hd0
  have h1:=World.var?_cell hg0 hv0 0
  have e:cs0 = #[.iface u v]:=by
    obtain ⟨l⟩:=cs0
    simp only at hcs
    rw [hcs]
  rw [e] at h1
  exact ⟨u,v,by simpa using h1⟩
end Go.Eng
namespace Go.Proofs.YtleamcmljcdapaaGreatDoor
open Go Go.Eng Go.Bk Go.RowKit

abbrev laidL:List (String×DataW Unit):=[("math/bits.deBruijn32tab",Rows.laid_math_bits_deBruijn32tab),("math/bits.deBruijn64tab",Rows.laid_math_bits_deBruijn64tab),("internal/strconv.uint64pow10",Rows.laid_internal_strconv_uint64pow10),("unicode/utf8.acceptRanges",Rows.laid_unicode_utf8_acceptRanges),("strconv.ErrRange",Rows.laid_strconv_ErrRange),("strconv.ErrSyntax",Rows.laid_strconv_ErrSyntax),("unicode/utf8.first",Rows.laid_unicode_utf8_first)]
theorem gMax:((begin Tryz.prog (fun _ _=>0) default).world.heap[0]?).bind Obj.row? = some (#[.int .i64 0],3):=by kernel_rfl
theorem lw_of {W:World} (hsh:W.ShapedOpen Tryz.prog) (hL:laidMetH Tryz.prog laidL W):Lw Tryz.prog W:=by
  rw [MakeChecks.laidMetH_plain _ _ _ (by kernel_rfl)] at hL
  have h3:=hL.tail.tail
  have h5:=h3.tail.tail
  obtain ⟨te,pe,h1⟩:=laid_iface h5 (g:=3) (by kernel_rfl) (by kernel_rfl) Tryz.underlying150
  obtain ⟨te2,pe2,h2⟩:=laid_iface h5.tail (g:=2) (by kernel_rfl) (by kernel_rfl) Tryz.underlying150
  exact ⟨cell_of_shapedOpen_int hsh (by decide) gMax rfl (by kernel_rfl) (by kernel_rfl) Tryz.underlying3,
    Lib.tabIs_of_head (g:=1) (t:=256) (n:=20) (e:=241) (by kernel_rfl) (by kernel_rfl) (by kernel_rfl) (by kernel_rfl) (by kernel_rfl) (by kernel_rfl) h3,
    ⟨_,h2,.inr ⟨_,_,rfl⟩⟩,⟨_,h1,.inr ⟨_,_,rfl⟩⟩⟩
theorem laid_fits (os:Os):(World.holding Tryz.prog os ⟨#[],#[],[]⟩).layFits Tryz.prog laidL []=true:=by kernel_rfl
theorem laid_ifaces (os:Os):(World.holding Tryz.prog os ⟨#[],#[],[]⟩).layIfaces Tryz.prog laidL (World.laidAll Tryz.prog os laidL)=true:=by kernel_rfl
end Go.Proofs.YtleamcmljcdapaaGreatDoor
namespace Go.Bk
open Go Go.Eng Go.RowKit
theorem lineS_m {m:Nat} {ws:List Str} (h:∀ x∈ws,x.length≤m):(lineS ws).length≤ws.length * (m + 1) + 1:=by
  have h1:=join_le (sep:=[32]) h
  unfold lineS
  rw [List.length_append]
  simp only [nl,List.length_singleton] at h1 ⊢
  omega
theorem rowS_m {w:Str} {l:List Sp} (hw:w.length≤42) (hl:l.length≤6) (h:∀ s∈l,In64 s.lo∧In64 s.hi):(rowS w l).length≤302:=by
  have h1:=lineS_m (m:=42) (ws:=w::l.map spS) (fun x hx=>by
    rcases List.mem_cons.1 hx with rfl | hx
    · exact hw
    · obtain ⟨s,hs,rfl⟩:=List.mem_map.1 hx
      exact spS_len (h s hs))
  simp only [List.length_cons,List.length_map] at h1
  unfold rowS
  omega
theorem tour_small {t:Tr} (h:tourX t=true):(tourS t).length≤4096:=by
  have hv:=tour_v (t:=t.toA) (by rw [Tr.toA_pl];exact h)
  have h1:=lineS_m (m:=20) (ws:=[wTour,Lib.itoa t.dawn]) (fun x hx=>by
    simp only [List.mem_cons,List.not_mem_nil,or_false] at hx
    rcases hx with rfl | rfl
    · decide
    · exact itoa_len hv.dawn)
  have r1:=rowS_m (w:=wFrom) (by decide) (hv.all t.toA.fr (all_fr _)).1 (hv.all t.toA.fr (all_fr _)).2
  have r2:=rowS_m (w:=wStay) (by decide) (hv.all t.toA.stay (all_stay _)).1 (hv.all t.toA.stay (all_stay _)).2
  have r3:=rowS_m (w:=wLight) (by decide) (hv.all t.toA.light (all_light _)).1 (hv.all t.toA.light (all_light _)).2
  have r4:=flat_len_le (f:=rowS wWays) (m:=302) (l:=t.ways) (fun l hl=>by
    have h2:=hv.all ⟨l,none,0,0,0⟩ (all_way (List.mem_map.2 ⟨l,hl,rfl⟩))
    exact rowS_m (by decide) h2.1 h2.2)
  have hw:t.ways.length≤6:=by have:=hv.ways;simpa [Tr.toA] using this
  unfold tourS
  simp only [List.length_append,List.length_cons,List.length_nil] at h1 ⊢
  have e1:t.toA.fr.l=t.fr:=rfl
  have e2:t.toA.stay.l=t.stay:=rfl
  have e3:t.toA.light.l=t.light:=rfl
  rw [e1] at r1
  rw [e2] at r2
  rw [e3] at r3
  omega
theorem loanS_m {l:Ln} (h:LnV l):(loanS l).length≤64:=by
  have k3:∀ a b c:Str,a.length≤20→b.length≤20→c.length≤20→(lineS [a,b,c]).length≤64:=fun a b c ha hb hc=>by
    have:=lineS_m (m:=20) (ws:=[a,b,c]) (fun x hx=>by
      simp only [List.mem_cons,List.not_mem_nil,or_false] at hx
      rcases hx with rfl | rfl | rfl <;> assumption)
    simpa using this
  have kw:(if l.kind=1 then wBack else wTake).length≤20:=by split <;> decide
  unfold loanS
  split
  · split
    · exact k3 _ _ _ (by decide) (itoa_len h.slot) (by decide)
    · exact k3 _ _ _ (by decide) (itoa_len h.slot) (itoa_len h.card)
  · exact k3 _ _ _ kw (itoa_len h.card) (itoa_len h.person)
theorem cab_small {c:Cb} (h:cabX c=true):(cabS c).length≤4096:=by
  have hv:=cab_v (c:=c.toA) h
  have h1:=lineS_m (m:=20) (ws:=[wCab,Lib.itoa c.slots,Lib.itoa c.wrong]) (fun x hx=>by
    simp only [List.mem_cons,List.not_mem_nil,or_false] at hx
    rcases hx with rfl | rfl | rfl
    · decide
    · exact itoa_len hv.slots
    · exact itoa_len hv.wrong)
  have h2:=lineS_m (m:=20) (ws:=wHomes::c.homes.map Lib.itoa) (fun x hx=>by
    rcases List.mem_cons.1 hx with rfl | hx
    · decide
    · obtain ⟨n,hn,rfl⟩:=List.mem_map.1 hx
      exact itoa_len (hv.hom64 n hn))
  have h3:=flat_len_le (f:=loanS) (m:=64) (l:=c.loans) (fun l hl=>loanS_m (hv.each l hl))
  have h4:c.homes.length≤5:=hv.homes
  have h5:c.loans.length≤12:=hv.loans
  unfold cabS
  simp only [List.length_append,List.length_cons,List.length_map,List.length_nil] at h1 h2 ⊢
  omega
theorem five_m {a b c d e:Str} (ha:a.length≤20) (hb:b.length≤20) (hc:c.length≤20) (hd:d.length≤20) (he:e.length≤20):(lineS [a,b,c,d,e]).length≤106:=by
  have:=lineS_m (m:=20) (ws:=[a,b,c,d,e]) (fun x hx=>by
    simp only [List.mem_cons,List.not_mem_nil,or_false] at hx
    rcases hx with rfl | rfl | rfl | rfl | rfl <;> assumption)
  simpa using this
theorem roy_small {r:Ry} (h:royalX r=true):(royalS r).length≤4096:=by
  have hv:=roy_v (r:=r.toA) (by rw [Ry.toA_pl];exact h)
  have h1:=flat_len_le (f:=fun x:Tm×Int=>agentS x.1 x.2) (m:=106) (l:=r.terms.zip r.paid) (fun x hx=>by
    have h2:=List.of_mem_zip (a:=x.1) (b:=x.2) hx
    have h3:=hv.tm _ h2.1
    exact five_m (by decide) (itoa_len h3.1) (itoa_len h3.2.1) (itoa_len h3.2.2) (itoa_len (hv.pd _ h2.2)))
  have h2:=flat_len_le (f:=fun x:Int×List Int=>kindS x.1 x.2) (m:=148) (l:=r.prices.zip r.shares) (fun x hx=>by
    have h2:=List.of_mem_zip (a:=x.1) (b:=x.2) hx
    have h3:=hv.sh ⟨x.2,none,0,0,0⟩ (List.mem_map.2 ⟨x.2,h2.2,rfl⟩)
    have h4:=lineS_m (m:=20) (ws:=wKind::Lib.itoa x.1::x.2.map Lib.itoa) (fun y hy=>by
      rcases List.mem_cons.1 hy with rfl | hy
      · decide
      · rcases List.mem_cons.1 hy with rfl | hy
        · exact itoa_len (hv.pr _ h2.1)
        · obtain ⟨n,hn,rfl⟩:=List.mem_map.1 hy
          exact itoa_len (h3.2 n hn))
    have h5:x.2.length≤5:=h3.1
    simp only [List.length_cons,List.length_map] at h4
    unfold kindS
    omega)
  have h3:=flat_len_le (f:=reportS) (m:=106) (l:=r.reports) (fun x hx=>by
    have h3:=hv.rp x hx
    exact five_m (by decide) (itoa_len h3.1) (itoa_len h3.2.1) (itoa_len h3.2.2.1) (itoa_len h3.2.2.2))
  have h4:r.terms.length≤4:=hv.terms
  have h5:r.prices.length≤4:=hv.prices
  have h6:r.reports.length≤20:=hv.reports
  have e:(lineS [wRoyal]).length=6:=by decide
  have z1:(r.terms.zip r.paid).length≤4:=by rw [List.length_zip];omega
  have z2:(r.prices.zip r.shares).length≤4:=by rw [List.length_zip];omega
  unfold royalS
  simp only [List.length_append,e]
  omega
end Go.Bk
namespace Go.Bk
open Go Go.Eng Go.RowKit
theorem reads_no {α:Type} {step:α→List Str→Option α} {z:α} {ok:α→Bool} {text:α→Str} {s:Str} (hl:s.length≤4096) (hn:∀ x,ok x=true→text x ≠ s):readX step z ok text s = .error 8:=by
  cases h:readX step z ok text s with
  | ok x =>
    obtain ⟨h1,h2,_⟩:=readX_inv h
    exact absurd h2 (hn x h1)
  | error k =>
    unfold readX at h
    rw [if_neg (by omega)] at h
    split at h
    · split at h
      · cases h
      · cases h;rfl
    · cases h;rfl
/-! ## Tours -/
/-! ## Cabinets -/
theorem cab_ne (c:Cb):cabLs c ≠ []:=by simp [cabLs]
/-! ## Royalties -/
theorem roy_ne (r:Ry):royLs r ≠ []:=by simp [royLs]
end Go.Bk
namespace Go.Bk
open Go Go.Eng Go.RowKit
/-! ## Parts -/
def cutL (a:UInt8):Str→List Str
  | []=>[[]]
  | c::s=>if c=a then []::cutL a s else match cutL a s with
    | []=>[[c]]
    | w::r=>(c::w)::r
theorem cutL_ne (a:UInt8):∀ s,cutL a s ≠ []
  | []=>by simp [cutL]
  | c::s=>by
    unfold cutL
    split
    · simp
    · split <;> simp
theorem cutL_cons {a c:UInt8} {s w:Str} {r:List Str} (h:c ≠ a) (e:cutL a s=w::r):cutL a (c::s)=(c::w)::r:=by
  unfold cutL
  rw [if_neg h,e]
theorem cutL_hit {a:UInt8} {s:Str}:cutL a (a::s)=[]::cutL a s:=by
  rw [cutL,if_pos rfl]
theorem cutL_app {a:UInt8}:∀ {u s w:Str} {r:List Str},a ∉ u→cutL a s=w::r→cutL a (u++s)=(u++w)::r
  | [],_,_,_,_,e=>e
  | c::u,s,w,r,h,e=>by
    have hc:c ≠ a:=fun e=>h (by rw [e];exact List.mem_cons_self ..)
    exact cutL_cons hc (cutL_app (u:=u) (fun hm=>h (List.mem_cons_of_mem _ hm)) e)
theorem cutL_join {a:UInt8}:∀ {ws:List Str},ws ≠ []→(∀ w∈ws,a ∉ w)→cutL a (Lib.join ws [a])=ws
  | [],h,_=>absurd rfl h
  | [w],_,h=>by
    rw [Lib.join_one]
    have h1:=cutL_app (a:=a) (u:=w) (s:=[]) (w:=[]) (r:=[]) (h w (by simp)) rfl
    simpa using h1
  | w::v::ws,_,h=>by
    have e:Lib.join (w::v::ws) [a]=w++a::Lib.join (v::ws) [a]:=by simp [Lib.join,List.intercalate]
    have h1:=cutL_join (a:=a) (ws:=v::ws) (by simp) (fun x hx=>h x (List.mem_cons_of_mem _ hx))
    rw [e,cutL_app (h w (by simp)) (cutL_hit.trans (by rw [h1]))]
    simp
theorem cutL_inv (a:UInt8):∀ s,Lib.join (cutL a s) [a]=s
  | []=>rfl
  | c::s=>by
    have ih:=cutL_inv a s
    by_cases h:c=a
    · subst h
      rw [cutL_hit]
      cases hc:cutL c s with
      | nil=>exact absurd hc (cutL_ne _ _)
      | cons w r =>
        rw [hc] at ih
        have e:Lib.join ([]::w::r) [c]=[]++c::Lib.join (w::r) [c]:=by simp [Lib.join,List.intercalate]
        rw [e,ih]
        rfl
    · cases hc:cutL a s with
      | nil=>exact absurd hc (cutL_ne _ _)
      | cons w r =>
        rw [cutL_cons h hc]
        rw [hc] at ih
        cases r with
        | nil=>rw [Lib.join_one] at ih ⊢;rw [ih]
        | cons v r =>
          have e:∀ w:Str,Lib.join (w::v::r) [a]=w++a::Lib.join (v::r) [a]:=fun w=>by simp [Lib.join,List.intercalate]
          rw [e] at ih ⊢
          rw [List.cons_append,ih]
theorem cutL_free (a:UInt8):∀ s,∀ w∈cutL a s,a ∉ w
  | [],w,h=>by simp [cutL] at h;subst h;simp
  | c::s,w,h=>by
    have ih:=cutL_free a s
    by_cases hc:c=a
    · subst hc
      rw [cutL_hit] at h
      rcases List.mem_cons.1 h with rfl | h
      · simp
      · exact ih w h
    · cases e:cutL a s with
      | nil=>exact absurd e (cutL_ne _ _)
      | cons v r =>
        rw [cutL_cons hc e] at h
        rw [e] at ih
        rcases List.mem_cons.1 h with rfl | h
        · intro hm
          rcases List.mem_cons.1 hm with h1 | h1
          · exact hc h1.symm
          · exact ih v (by simp) h1
        · exact ih w (List.mem_cons_of_mem _ h)
theorem cutL_sub (a:UInt8) {b:UInt8}:∀ s,b ∉ s→∀ w∈cutL a s,b ∉ w
  | [],_,w,h=>by simp [cutL] at h;subst h;simp
  | c::s,hb,w,h=>by
    have ih:=cutL_sub a s (fun hm=>hb (List.mem_cons_of_mem _ hm))
    by_cases hc:c=a
    · subst hc
      rw [cutL_hit] at h
      rcases List.mem_cons.1 h with rfl | h
      · simp
      · exact ih w h
    · cases e:cutL a s with
      | nil=>exact absurd e (cutL_ne _ _)
      | cons v r =>
        rw [cutL_cons hc e] at h
        rw [e] at ih
        rcases List.mem_cons.1 h with rfl | h
        · intro hm
          rcases List.mem_cons.1 hm with h1 | h1
          · exact hb (by rw [h1];exact List.mem_cons_self ..)
          · exact ih v (by simp) h1
        · exact ih w (List.mem_cons_of_mem _ h)
theorem cutL_snoc_at {a:UInt8}:∀ {s:Str},cutL a (s++[a])=cutL a s++[[]]
  | []=>by simp [cutL]
  | c::s=>by
    have ih:=cutL_snoc_at (a:=a) (s:=s)
    rw [List.cons_append]
    by_cases h:c=a
    · subst h
      rw [cutL_hit,cutL_hit,ih]
      rfl
    · cases e:cutL a s with
      | nil=>exact absurd e (cutL_ne _ _)
      | cons w r =>
        rw [e] at ih
        rw [cutL_cons h e,cutL_cons h (ih.trans (List.cons_append ..))]
        rfl
theorem cutL_snoc {a c:UInt8} (hc:c ≠ a):∀ {s:Str} {p:List Str} {w:Str},cutL a s=p++[w]→cutL a (s++[c])=p++[w++[c]]
  | [],p,w,h=>by
    have h0:cutL a []=[[]]:=rfl
    rw [h0] at h
    have h1:p=[]∧w=[]:=by
      cases p with
      | nil=>simpa using h.symm
      | cons x p=>simp at h
    rw [h1.1,h1.2,List.nil_append,cutL_cons hc h0]
    rfl
  | d::s,p,w,h=>by
    rw [List.cons_append]
    by_cases hd:d=a
    · subst hd
      rw [cutL_hit] at h ⊢
      cases p with
      | nil =>
        have h1:cutL d s=[]:=by
          have:=congrArg List.tail h
          simpa using this
        exact absurd h1 (cutL_ne _ _)
      | cons x p =>
        simp only [List.cons_append,List.cons.injEq] at h
        rw [cutL_snoc hc h.2,← h.1]
        rfl
    · cases e:cutL a s with
      | nil=>exact absurd e (cutL_ne _ _)
      | cons v r =>
        rw [cutL_cons hd e] at h
        cases p with
        | nil =>
          simp only [List.nil_append,List.cons.injEq] at h
          obtain ⟨rfl,rfl⟩:=h
          have ih:=cutL_snoc (a:=a) hc (s:=s) (p:=[]) (w:=v) e
          rw [cutL_cons hd ih]
          rfl
        | cons x p =>
          simp only [List.cons_append,List.cons.injEq] at h
          obtain ⟨rfl,rfl⟩:=h
          have ih:=cutL_snoc (a:=a) hc (s:=s) (p:=v::p) (w:=w) e
          rw [cutL_cons hd (ih.trans (List.cons_append ..))]
          rfl
def CutI (a:UInt8) (s:Str) (k fr:Nat) (out:List Str):Prop :=
  (k≤s.length→fr≤k∧cutL a (s.take k)=out++[(s.take k).drop fr])∧(s.length < k→out=cutL a s)
theorem CutI.zero (a:UInt8) (s:Str):CutI a s 0 0 []:=⟨fun _=>⟨Nat.le_refl _,by simp [cutL]⟩,fun h=>absurd h (Nat.not_lt_zero _)⟩
theorem CutI.last {a:UInt8} {s:Str} {fr:Nat} {out:List Str} (h:CutI a s s.length fr out):fr≤s.length∧CutI a s (s.length + 1) (s.length + 1) (out++[s.drop fr]):=by
  have h1:=h.1 (Nat.le_refl _)
  rw [List.take_length] at h1
  exact ⟨h1.1,fun h=>absurd h (by omega),fun _=>h1.2.symm⟩
theorem CutI.hit {a:UInt8} {s:Str} {k fr:Nat} {out:List Str} (h:CutI a s k fr out) (hk:k < s.length) (hs:s[k]=a):CutI a s (k + 1) (k + 1) (out++[(s.take k).drop fr]):=by
  have h1:=h.1 (by omega)
  refine ⟨fun _=>⟨Nat.le_refl _,?_⟩,fun h=>absurd h (by omega)⟩
  rw [List.take_succ_eq_append_getElem hk,hs,cutL_snoc_at,h1.2]
  have e:(s.take k++[a]).drop (k + 1)=[]:=List.drop_of_length_le (by rw [List.length_append,List.length_take];show _ + 1≤_;omega)
  rw [e]
theorem CutI.miss {a:UInt8} {s:Str} {k fr:Nat} {out:List Str} (h:CutI a s k fr out) (hk:k < s.length) (hs:s[k] ≠ a):CutI a s (k + 1) fr out:=by
  have h1:=h.1 (by omega)
  refine ⟨fun _=>⟨by omega,?_⟩,fun h=>absurd h (by omega)⟩
  rw [List.take_succ_eq_append_getElem hk,cutL_snoc hs h1.2,List.drop_append_of_le_length (by rw [List.length_take];omega)]
/-! ## Numbers -/
def digB (c:UInt8):Bool:=decide (48≤c.toNat) && decide (c.toNat≤57)
def valN (s:Str):Nat:=s.foldl (fun n c=>10 * n + (c.toNat - 48)) 0
def numV (s:Str):Int×Bool:=if s.length < 1∨13 < s.length then (0,false) else if s.all digB then ((valN s:Int),decide (Lib.itoa (valN s:Int)=s)) else (0,false)
theorem valN_snoc (s:Str) (c:UInt8):valN (s++[c])=10 * valN s + (c.toNat - 48):=by unfold valN;rw [List.foldl_append];rfl
theorem valN_lt:∀ {k:Nat} {s:Str},s.all digB=true→s.length≤k→valN s < 10 ^ k:=by
  intro k
  induction k with
  | zero=>intro s _ h;rw [List.length_eq_zero_iff.1 (Nat.le_zero.1 h)];decide
  | succ k ih =>
    intro s hs h
    rcases List.eq_nil_or_concat s with rfl | ⟨u,c,rfl⟩
    · show 0 < _;exact Nat.pos_of_ne_zero (by simp)
    · rw [List.concat_eq_append] at hs h ⊢
      rw [List.all_append,Bool.and_eq_true] at hs
      have h1:=ih hs.1 (by rw [List.length_append] at h;simp at h;omega)
      have h2:digB c=true:=by simpa using hs.2
      simp only [digB,Bool.and_eq_true,decide_eq_true_eq] at h2
      rw [valN_snoc,Nat.pow_succ]
      omega
theorem valN_dec:∀ u:Nat,valN (Lib.decDigits u)=u:=by
  intro u
  induction u using Nat.strongRecOn with
  | _ u ih =>
    rw [Lib.decDigits]
    split
    · have:=dig_byte (m:=u) (by omega)
      simp only [valN,List.foldl_cons,List.foldl_nil,this]
      omega
    · rw [valN_snoc,ih _ (by omega),dig_byte (by omega)]
      omega
theorem dec_all (u:Nat):(Lib.decDigits u).all digB=true:=List.all_eq_true.2 fun c hc=>by
  have:=dec_dig u c hc
  simp only [digB,Bool.and_eq_true,decide_eq_true_eq]
  exact this
theorem dec_len {u:Nat} (h:u < 10 ^ 13):1≤(Lib.decDigits u).length∧(Lib.decDigits u).length≤13:=by
  have key:∀ (k u:Nat),u < 10 ^ (k + 1)→Lib.nDigits u≤k + 1:=by
    intro k
    induction k with
    | zero=>intro u h;exact Nat.le_of_eq (Lib.nDigits_small (by omega))
    | succ k ih =>
      intro u h
      by_cases h1:u < 10
      · rw [Lib.nDigits_small h1];omega
      · rw [Lib.nDigits_big h1]
        have:=ih (u / 10) (by rw [Nat.pow_succ] at h;omega)
        omega
  rw [Lib.decDigits_length]
  exact ⟨Lib.nDigits_pos u,key 12 u h⟩
def Big (n:Int):Prop:=0≤n∧n < 10 ^ 13
theorem numV_itoa {n:Int} (h:Big n):numV (Lib.itoa n)=(n,true):=by
  obtain ⟨h1,h2⟩:=h
  have e:Lib.itoa n=Lib.decDigits n.toNat:=by unfold Lib.itoa;rw [if_neg (by omega)]
  have hl:=dec_len (u:=n.toNat) (by omega)
  have e2:((valN (Lib.decDigits n.toNat):Nat):Int)=n:=by rw [valN_dec];omega
  unfold numV
  rw [e,if_neg (by omega),if_pos (dec_all _),e2,e]
  simp
theorem numV_ok {s:Str} {n:Int} (h:numV s=(n,true)):s=Lib.itoa n∧Big n:=by
  unfold numV at h
  split at h
  · cases h
  · rename_i hl
    split at h
    · rename_i hd
      have h1:=congrArg Prod.fst h
      have h2:=congrArg Prod.snd h
      dsimp only at h1 h2
      subst h1
      have h3:=valN_lt (k:=13) hd (by omega)
      exact ⟨(of_decide_eq_true h2).symm,by unfold Big;omega⟩
    · cases h
def numO (s:Str):Option Int:=if (numV s).2 then some (numV s).1 else none
theorem numO_itoa {n:Int} (h:Big n):numO (Lib.itoa n)=some n:=by unfold numO;rw [numV_itoa h];rfl
theorem numO_ok {s:Str} {n:Int} (h:numO s=some n):s=Lib.itoa n∧Big n:=by
  unfold numO at h
  split at h
  · rename_i h1
    cases h
    exact numV_ok (by rw [← h1])
  · cases h
/-! ## Spans -/
/-! ## Lines -/
def rowsR (s:Str):List (List Str)×Bool:=((cutL 10 s).dropLast.map (cutL 32),decide ((cutL 10 s).getLast? = some []) && decide (1 < (cutL 10 s).length))
theorem cut_lines:∀ {js:List Str},(∀ j∈js,(10:UInt8) ∉ j)→cutL 10 ((js.map (·++[10])).flatten)=js++[[]]
  | [],_=>rfl
  | j::js,h=>by
    have e:((j::js).map (·++[(10:UInt8)])).flatten=j++10::(js.map (·++[10])).flatten:=by simp
    rw [e,cutL_app (h j (by simp)) (cutL_hit.trans (by rw [cut_lines fun x hx=>h x (List.mem_cons_of_mem _ hx)]))]
    simp
theorem join_lines:∀ {js:List Str},Lib.join (js++[[]]) [10]=(js.map (·++[10])).flatten
  | []=>rfl
  | [j]=>by simp [Lib.join,List.intercalate]
  | j::k::js=>by
    have e:Lib.join (j::(k::js++[[]])) [10]=j++10::Lib.join (k::js++[[]]) [10]:=by simp [Lib.join,List.intercalate]
    rw [List.cons_append,e,join_lines (js:=k::js)]
    simp
theorem rows_text {ls:List (List Str)} (h:LinesOk ls) (hne:ls ≠ []):rowsR ((ls.map lineS).flatten)=(ls,true):=by
  have e:(ls.map lineS).flatten=((ls.map fun ws=>Lib.join ws [32]).map (·++[10])).flatten:=by
    rw [List.map_map];rfl
  have hc:=cut_lines (js:=ls.map fun ws=>Lib.join ws [32]) (fun j hj=>by
    obtain ⟨ws,hw,rfl⟩:=List.mem_map.1 hj
    exact join_no ws (h ws hw).2)
  unfold rowsR
  rw [e,hc]
  have e2:(ls.map fun ws=>Lib.join ws [32]).map (cutL 32)=ls:=by
    rw [List.map_map]
    conv=>rhs;rw [← List.map_id ls]
    exact List.map_congr_left fun ws hw=>cutL_join (h ws hw).1 fun w hw2=>((h ws hw).2 w hw2).1
  rw [List.dropLast_concat,e2]
  have hl:0 < ls.length:=List.length_pos_iff.2 hne
  have:1 < (ls.map (fun ws=>Lib.join ws [32])++[[]]).length:=by simp;omega
  simp [hl]
theorem rows_ok {s:Str} {ls:List (List Str)} (h:rowsR s=(ls,true)):s=(ls.map lineS).flatten∧LinesOk ls∧ls ≠ []:=by
  unfold rowsR at h
  have h1:=congrArg Prod.fst h
  have h2:=congrArg Prod.snd h
  dsimp only at h1 h2
  rw [Bool.and_eq_true,decide_eq_true_eq,decide_eq_true_eq] at h2
  obtain ⟨h2,h3⟩:=h2
  have hne:=cutL_ne 10 s
  have e:cutL 10 s=(cutL 10 s).dropLast++[[]]:=by
    have h4:=List.dropLast_concat_getLast hne
    rw [List.getLast?_eq_some_getLast hne] at h2
    rw [Option.some.inj h2] at h4
    exact h4.symm
  have hs:=cutL_inv 10 s
  rw [e,join_lines] at hs
  have hf:∀ j∈(cutL 10 s).dropLast,(10:UInt8) ∉ j:=fun j hj=>cutL_free 10 s j (List.dropLast_subset _ hj)
  subst h1
  refine ⟨?_,fun ws hw=>?_,fun h0=>?_⟩
  · rw [List.map_map]
    refine hs.symm.trans ?_
    congr 1
    exact List.map_congr_left fun j _=>by
      show j++[10]=Lib.join (cutL 32 j) [32]++nl
      rw [cutL_inv];rfl
  · obtain ⟨j,hj,rfl⟩:=List.mem_map.1 hw
    exact ⟨cutL_ne _ _,fun w hw2=>⟨cutL_free 32 j w hw2,cutL_sub 32 j (hf j hj) w hw2⟩⟩
  · have h5:=congrArg List.length h0
    rw [List.length_map,List.length_dropLast,List.length_nil] at h5
    omega
theorem rows_ne (s:Str):∀ ws∈(rowsR s).1,ws ≠ []:=fun ws hw=>by
  unfold rowsR at hw
  obtain ⟨j,_,rfl⟩:=List.mem_map.1 hw
  exact cutL_ne _ _
structure LinesSay {α:Type} (ok:α→Bool) (L:α→List (List Str)) (ls:List (List Str)) (x:α) (is:Bool):Prop where
  yes:is=true→ok x=true∧L x=ls
  no:is=false→∀ y,ok y=true→L y ≠ ls
theorem ref_yes {α:Type} {step:α→List Str→Option α} {z x:α} {ok:α→Bool} {text:α→Str} {L:α→List (List Str)} {s:Str} (hp:∀ x,ok x=true→parseX step z (text x)=some x) (hT:∀ x,text x=((L x).map lineS).flatten) (hl:s.length≤4096) (hr:(rowsR s).2=true) (h:LinesSay ok L (rowsR s).1 x true):readX step z ok text s = .ok x:=by
  obtain ⟨h1,h2⟩:=h.yes rfl
  have h3:=rows_ok (s:=s) (ls:=(rowsR s).1) (by rw [← hr])
  exact readX_ok hp h1 (by rw [hT,h2,← h3.1]) (by omega)
theorem ref_no {α:Type} {step:α→List Str→Option α} {z x:α} {ok:α→Bool} {text:α→Str} {L:α→List (List Str)} {s:Str} (hT:∀ x,text x=((L x).map lineS).flatten) (hok:∀ x,LinesOk (L x)) (hne:∀ x,L x ≠ []) (hl:s.length≤4096) (h:(rowsR s).2=false∨LinesSay ok L (rowsR s).1 x false):readX step z ok text s = .error 8:=by
  refine reads_no hl (fun y hy he=>?_)
  have h1:=rows_text (hok y) (hne y)
  rw [← hT,he] at h1
  rcases h with h | h
  · rw [h1] at h;cases h
  · exact h.no rfl y hy (by rw [h1])
end Go.Bk
namespace Go.Proofs.YtleamcmljcdapaaGreatDoor
open Go Go.Eng
theorem ent_8:Enters Tryz.prog 8:=enters_of Tryz.func8 (by kernel_rfl) rfl
end Go.Proofs.YtleamcmljcdapaaGreatDoor
namespace Go.Proofs.YtleamcmljcdapaaGreatDoor
open Go Go.Eng
theorem ent_134:Enters Tryz.prog 134:=enters_of Tryz.func134 (by kernel_rfl) rfl
theorem ent_76:Enters Tryz.prog 76:=enters_of Tryz.func76 (by kernel_rfl) rfl
theorem ent_77:Enters Tryz.prog 77:=enters_of Tryz.func77 (by kernel_rfl) rfl
theorem ent_78:Enters Tryz.prog 78:=enters_of Tryz.func78 (by kernel_rfl) rfl
end Go.Proofs.YtleamcmljcdapaaGreatDoor
namespace Go.Proofs.YtleamcmljcdapaaGreatDoor
open Go Go.Eng
theorem ent_79:Enters Tryz.prog 79:=enters_of Tryz.func79 (by kernel_rfl) rfl
theorem ent_80:Enters Tryz.prog 80:=enters_of Tryz.func80 (by kernel_rfl) rfl
theorem ent_81:Enters Tryz.prog 81:=enters_of Tryz.func81 (by kernel_rfl) rfl
end Go.Proofs.YtleamcmljcdapaaGreatDoor
namespace Go.Proofs.YtleamcmljcdapaaGreatDoor
open Go Go.Eng
theorem ent_33:Enters Tryz.prog 33:=enters_of Tryz.func33 (by kernel_rfl) rfl
theorem ent_34:Enters Tryz.prog 34:=enters_of Tryz.func34 (by kernel_rfl) rfl
theorem ent_35:Enters Tryz.prog 35:=enters_of Tryz.func35 (by kernel_rfl) rfl
end Go.Proofs.YtleamcmljcdapaaGreatDoor
namespace Go.Proofs.YtleamcmljcdapaaGreatDoor
open Go Go.Eng
theorem ent_150:Enters Tryz.prog 150:=enters_of Tryz.func150 (by kernel_rfl) rfl
end Go.Proofs.YtleamcmljcdapaaGreatDoor
namespace Go.Bk
open Go Go.Eng Go.RowKit
theorem six_get {s:Str} {k:Nat} (h:k < s.length):s[(k:Int).toNat]? = some (s.getD k 0):=by
  rw [Int.toNat_natCast,List.getD_eq_getElem?_getD,List.getElem?_eq_getElem h]
  rfl
theorem getD_get {s:Str} {k:Nat} (h:k < s.length):s[k]=s.getD k 0:=by
  rw [List.getD_eq_getElem?_getD,List.getElem?_eq_getElem h]
  rfl
theorem CutI.cut {a:UInt8} {s:Str} {k fr:Nat} {out:List Str} (h:CutI a s k fr out) (hk:k≤s.length) (hs:(k:Int)=(s.length:Int)∨((s.getD k 0).toNat:Int)=(a.toNat:Int)):CutI a s (k + 1) (k + 1) (out++[(s.drop fr).take (k - fr)]):=by
  rw [← List.drop_take]
  by_cases h1:k=s.length
  · subst h1
    have h2:=h.last
    rw [List.take_length]
    exact h2.2
  · have h2:k < s.length:=by omega
    refine h.hit h2 ?_
    rw [getD_get h2]
    exact UInt8.toNat_inj.1 (by omega)
theorem CutI.skip {a:UInt8} {s:Str} {k fr:Nat} {out:List Str} (h:CutI a s k fr out) (hk:k≤s.length) (h1:¬ (k:Int)=(s.length:Int)) (h2:¬ ((s.getD k 0).toNat:Int)=(a.toNat:Int)):CutI a s (k + 1) fr out:=by
  have h3:k < s.length:=by omega
  refine h.miss h3 ?_
  rw [getD_get h3]
  intro e
  exact h2 (by rw [e])
theorem valN_s {s:Str} {k:Nat} (hk:k < s.length) {y:UInt8} (hy:s[k]=y) (h48:48≤y.toNat):10 * (valN (s.take k):Int) + ((y.toNat:Int) - 48)=(valN (s.take (k + 1)):Int):=by
  rw [List.take_succ_eq_append_getElem hk,hy,valN_snoc]
  push_cast
  omega
theorem dig_yes {y:UInt8} (h1:¬ (y.toNat:Int) < 48) (h2:¬ (57:Int) < y.toNat):digB y=true:=by
  simp only [digB,Bool.and_eq_true,decide_eq_true_eq]
  omega
theorem dig_no {y:UInt8} (h:(y.toNat:Int) < 48∨(57:Int) < y.toNat):digB y=false:=by
  simp only [digB,Bool.and_eq_false_iff,decide_eq_false_iff_not]
  omega
theorem numV_bad {s:Str} (h:s.length < 1∨13 < s.length):numV s=(0,false):=if_pos h
theorem numV_no {s:Str} (h:¬ (s.length < 1∨13 < s.length)) {k:Nat} (hk:k < s.length) {y:UInt8} (hy:s[k]=y) (hd:digB y=false):numV s=(0,false):=by
  unfold numV
  rw [if_neg h,if_neg]
  intro h2
  have h3:=List.all_eq_true.1 h2 y (hy ▸ List.getElem_mem hk)
  rw [hd] at h3
  cases h3
theorem numV_end {s:Str} (h:¬ (s.length < 1∨13 < s.length)) (hd:s.all digB=true):numV s=((valN s:Int),decide (Lib.itoa (valN s:Int)=s)):=by
  unfold numV
  rw [if_neg h,if_pos hd]
theorem numO_no {s:Str} (h:(numV s).2=false):numO s=none:=by unfold numO;rw [h];rfl
theorem numO_yes {s:Str} (h:(numV s).2=true):numO s=some (numV s).1:=by unfold numO;rw [h];rfl
def lineV {α:Type} (f:Str→Option α) (ls:List Str) (w:Str):List α×Bool:=match allP f (ls.drop 1) with
  | some l=>(l,decide (ls.getD 0 []=w))
  | none=>([],false)
theorem lineV_no {α:Type} {f:Str→Option α} {ls:List Str} {w:Str} {k:Nat} (hk:k + 1 < ls.length) (hy:f (ls.getD (k + 1) [])=none):lineV f ls w=([],false):=by
  unfold lineV
  rw [allP_no (k:=k) (by rw [List.length_drop];omega) (by rw [drop_getD,Nat.add_comm];exact hy)]
theorem lineV_s {α:Type} {f:Str→Option α} {ls:List Str} {k:Nat} (hk:k + 1 < ls.length) {r:List α} (h:allP f ((ls.drop 1).take k)=some r) {y:α} (hy:f (ls.getD (k + 1) [])=some y):allP f ((ls.drop 1).take (k + 1))=some (r++[y]) :=
  allP_s (by rw [List.length_drop];omega) h (by rw [drop_getD,Nat.add_comm];exact hy)
theorem lineV_end {α:Type} {f:Str→Option α} {ls:List Str} {w:Str} {r:List α} (h:allP f ((ls.drop 1).take (ls.length - 1))=some r):lineV f ls w=(r,decide (ls.getD 0 []=w)):=by
  unfold lineV
  rw [List.take_of_length_le (by rw [List.length_drop];omega)] at h
  rw [h]
theorem getD_of {ls:List Str} {k:Nat} (h:k < ls.length) {y:Str} (hy:ls[k]=y):ls.getD k []=y:=by
  rw [List.getD_eq_getElem?_getD,List.getElem?_eq_getElem h,← hy]
  rfl
end Go.Bk
namespace Go.Proofs.YtleamcmljcdapaaGreatDoor
open Go Go.Eng Go.Bk Go.RowKit

abbrev stB (z:OL Str):Blks:=ownB 9 z.1 (z.2.map strC).flatten
theorem cut_calls14 (s:Str) (a:UInt8) (hs:s.length≤100000) (W:World):Calls Tryz.prog 105 #[.string (bs s),byteV a] W (Grow W [] (fun z:OL Str=>OL.v z) (fun z=>stB z++[]) (fun z=>OL.ok z strC 1∧z.2=cutL a s)):=by
  refine calls_start Tryz.func105 rfl rfl ?_
  refine st ?_
  refine RunC.loopX (X:=OL Str×Nat) (n0:=[]) (s.length + 1) (fun k x q=>(7,.int .i64 (k:Int))::(6,.int .i64 (x.2:Int))::(5,ownV x.1.1 x.1.2.length)::q) (fun _ _=>_) (fun k x=>[]) (fun k x=>ownB 9 x.1.1 (x.1.2.map strC).flatten++[]) (fun k x=>CutI a s k x.2 x.1.2∧OL.ok x.1 strC 1∧x.1.2.length≤k) ((none,[]),0) ⟨CutI.zero a s,ol_nil,Nat.le_refl _⟩ rfl (Sub.consE (t:=7) rfl rfl (Sub.consE (t:=6) rfl rfl (Sub.consE (t:=5) rfl rfl (Sub.cons (t:=0) rfl (Sub.cons (t:=1) rfl (Sub.nil _)))))) (Pick.same rfl) ?_
  intro k x kN kI
  obtain ⟨⟨zo,zl⟩,fr⟩:=x
  obtain ⟨kI1,hzo,kI3⟩:=kI
  dsimp only at kI1 kI3 ⊢
  refine st ?_
  refine lv (Val.lenS rfl und_9) ?_
  refine cn rfl ?_ ?_
  ·intro c0'
   have hfr:=kI1.1 (by omega)
   refine st ?_
   refine lv (Val.lenS rfl und_9) ?_
   refine RunL.orPart (dj:=18) (dp:=24) 6 rfl (fun g18=>by
     have g18':=g18
     try simp only [nH] at g18'
     refine st ?_
     refine RunL.val (Val.strIndex rfl rfl und_9 (by omega) (six_get (by omega))) rfl rfl rfl ?_
     refine sv ?_
     exact RunL.segEnd (Sub.cons rfl (Sub.skip rfl (Sub.skip rfl (Sub.skip rfl (Sub.skip rfl (Sub.skip rfl (Sub.skip rfl (Sub.same rfl (by rw [g18]) (Sub.refl _))))))))) (List.Sublist.refl _)
   ) (fun g18=>by
     have g18':=g18
     try simp only [nH] at g18'
     iterate 5 refine RunL.no rfl rfl rfl ?_
     refine sv ?_
     exact RunL.segEnd (Sub.cons rfl (Sub.skip rfl (Sub.skip rfl (Sub.skip rfl (Sub.skip rfl (Sub.skip rfl (Sub.skip rfl (Sub.same rfl (by rw [g18]) (Sub.refl _))))))))) (List.Sublist.refl _)
   ) ?_
   refine st ?_
   refine cn rfl ?_ ?_
   ·intro c1'
    refine st ?_
    refine lv (Val.strSlice (a:=fr) (b:=k) rfl rfl rfl und_9 hfr.1 (by omega)) ?_
    refine RunL.new (New.buildSlice (parts:=[(0,.tmp 29)]) rfl sl_166 zero_9 rfl rfl rfl rfl) rfl rfl rfl (fun b30=>?_)
    refine RunL.append (A:=[(b30,_)]) (B:=_) (x:=zo) (ys:=strC ((s.drop fr).take (k - fr))) ap_166 rfl rfl rfl hzo rfl (fun h=>by cases h) (fun w hm=>src_blk (hm.at (.head _))) (one_of rfl) (by simp only [maxLen];show zl.length + 1≤_;omega) (by show (zl.length + 1) * 16≤140737488355328;omega) rfl (fun z31 hz31=>?_)
    refine st ?_
    refine lv (Val.add rfl rfl (IntWalk.i64_in _ ⟨by omega,by omega⟩)) ?_
    refine lv (Val.add rfl rfl (IntWalk.i64_in _ ⟨by omega,by omega⟩)) ?_
    exact RunE.roundX ((z31,zl++[(s.drop fr).take (k - fr)]),k + 1) (by omega) ⟨kI1.cut (by omega) c1',ol_snoc (z:=zo) (f:=strC) hz31,by show (zl++_).length≤_;rw [List.length_append];show zl.length + 1≤_;omega⟩ rfl (Sub.consE (t:=7) rfl rfl (Sub.consE (t:=6) rfl rfl (Sub.consE (t:=5) rfl (by simp) (Sub.cons (t:=0) rfl (Sub.cons (t:=1) rfl (Sub.nil _)))))) (Pick.skip (Pick.same (by simp [strC])))
   intro c1'
   refine st ?_
   refine lv (Val.add rfl rfl (IntWalk.i64_in _ ⟨by omega,by omega⟩)) ?_
   exact RunE.roundX ((zo,zl),fr) (by omega) ⟨kI1.skip (by omega) c1'.1 c1'.2,hzo,by dsimp only;omega⟩ rfl (Sub.consE (t:=7) rfl rfl (Sub.consE (t:=6) rfl rfl (Sub.consE (t:=5) rfl (by simp) (Sub.cons (t:=0) rfl (Sub.cons (t:=1) rfl (Sub.nil _)))))) (Pick.same (by simp [strC]))
  intro c0'
  obtain rfl:k=s.length + 1:=by omega
  refine RunC.exit ?_
  refine RunE.pass_exit ?_
  refine RunE.pass_exit ?_
  refine RunE.block_here ?_
  refine st ?_
  refine RunC.ret ?_
  exact RunE.retG (zo,zl) ⟨hzo,kI1.2 (Nat.lt_succ_self _)⟩ (.r1 rfl (.tmp rfl)) rfl (Pick.refl _)
theorem number_calls14 (s:Str) (W:World) (hL:Lw Tryz.prog W):Calls Tryz.prog 150 #[.string (bs s)] W (Pure (.tuple #[.int .i64 (numV s).1,.bool (numV s).2]) W):=by
  refine calls_start Tryz.func150 rfl rfl ?_
  refine st ?_
  refine lv (Val.lenS rfl und_9) ?_
  refine RunL.orPart (dj:=9) (dp:=13) 4 rfl (fun g9=>by
    have g9':=g9
    try simp only [nH] at g9'
    refine st ?_
    refine RunL.val (Val.lenS rfl und_9) rfl rfl rfl ?_
    refine sv ?_
    exact RunL.segEnd (Sub.cons rfl (Sub.skip rfl (Sub.skip rfl (Sub.skip rfl (Sub.skip rfl (Sub.same rfl (by rw [g9]) (Sub.refl _))))))) (List.Sublist.refl _)
  ) (fun g9=>by
    have g9':=g9
    try simp only [nH] at g9'
    iterate 3 refine RunL.no rfl rfl rfl ?_
    refine sv ?_
    exact RunL.segEnd (Sub.cons rfl (Sub.skip rfl (Sub.skip rfl (Sub.skip rfl (Sub.skip rfl (Sub.same rfl (by rw [g9]) (Sub.refl _))))))) (List.Sublist.refl _)
  ) ?_
  refine st ?_
  refine cn rfl ?_ ?_
  ·intro c0'
   refine st ?_
   refine RunC.ret ?_
   refine RunE.pass_ret ?_
   exact RunE.retP (.r2 rfl (.tmp rfl) (.tmp rfl)) (by rw [numV_bad (by omega)])
  intro c0'
  have hlen:¬ (s.length < 1∨13 < s.length):=(by omega)
  refine st ?_
  refine RunC.loopK (s.length) (fun k q=>(5,.int .i64 (k:Int))::(4,.int .i64 (valN (s.take k):Int))::q) (fun _=>_) (fun _=>[]) (fun k=>(s.take k).all digB=true) (by simp) rfl (Sub.consE (t:=5) rfl rfl (Sub.consE (t:=4) rfl rfl (Sub.cons (t:=0) rfl (Sub.nil _)))) .nil ?_
  intro k kN kI
  refine st ?_
  refine lv (Val.lenS rfl und_9) ?_
  refine cn rfl ?_ ?_
  ·intro c1'
   have hk:k < s.length:=by omega
   obtain ⟨y,hy⟩:∃ y,s[k]=y:=⟨_,rfl⟩
   have hy2:s[(k:Int).toNat]? = some y:=(by rw [Int.toNat_natCast,List.getElem?_eq_getElem hk,hy])
   have hy8:=y.toNat_lt
   have hv:=valN_lt (k:=13) (s:=s.take k) kI (by rw [List.length_take];omega)
   refine st ?_
   refine lv (Val.strIndex rfl rfl und_9 (by omega) hy2) ?_
   refine RunL.orPart (dj:=24) (dp:=29) 5 rfl (fun g24=>by
     have g24':=g24
     try simp only [nH] at g24'
     refine st ?_
     refine RunL.val (Val.strIndex rfl rfl und_9 (by omega) hy2) rfl rfl rfl ?_
     refine sv ?_
     exact RunL.segEnd (Sub.cons rfl (Sub.skip rfl (Sub.skip rfl (Sub.skip rfl (Sub.skip rfl (Sub.skip rfl (Sub.same rfl (by rw [g24]) (Sub.refl _)))))))) (List.Sublist.refl _)
   ) (fun g24=>by
     have g24':=g24
     try simp only [nH] at g24'
     iterate 4 refine RunL.no rfl rfl rfl ?_
     refine sv ?_
     exact RunL.segEnd (Sub.cons rfl (Sub.skip rfl (Sub.skip rfl (Sub.skip rfl (Sub.skip rfl (Sub.skip rfl (Sub.same rfl (by rw [g24]) (Sub.refl _)))))))) (List.Sublist.refl _)
   ) ?_
   refine st ?_
   refine cn rfl ?_ ?_
   ·intro c2'
    refine st ?_
    refine RunC.ret ?_
    refine RunE.pass_ret ?_
    refine RunE.block_ret ?_
    refine RunE.pass_ret ?_
    refine RunE.pass_ret ?_
    refine RunE.block_ret ?_
    refine RunE.pass_ret ?_
    exact RunE.retP (.r2 rfl (.tmp rfl) (.tmp rfl)) (by rw [numV_no hlen hk hy (dig_no (by omega))])
   intro c2'
   have hdy:=dig_yes (y:=y) (by omega) (by omega)
   refine st ?_
   refine lv (Val.mul rfl rfl (IntWalk.i64_in _ ⟨by omega,by omega⟩)) ?_
   refine lv (Val.strIndex rfl rfl und_9 (by omega) hy2) ?_
   refine lv (Val.sub' rfl rfl (by show ((y.toNat:Int) - 48) % 256=_;omega)) ?_
   refine lv (Val.convInt rfl und_5 und_3 (IntWalk.i64_in _ ⟨by omega,by omega⟩)) ?_
   refine lv (Val.add rfl rfl (IntWalk.i64_in _ ⟨by omega,by omega⟩)) ?_
   refine lv (Val.add rfl rfl (IntWalk.i64_in _ ⟨by omega,by omega⟩)) ?_
   exact RunE.round (by omega) (take_all hk hy kI hdy) rfl (Sub.consE (t:=5) rfl rfl (Sub.consE (t:=4) rfl (by rw [valN_s hk hy (by omega)]) (Sub.cons (t:=0) rfl (Sub.nil _)))) .nil
  intro c1'
  obtain rfl:k=s.length:=by omega
  rw [List.take_length] at kI
  rw [List.take_length]
  have hv:=valN_lt (k:=13) kI (by omega)
  refine RunC.exit ?_
  refine RunE.pass_exit ?_
  refine RunE.pass_exit ?_
  refine RunE.block_here ?_
  refine st ?_
  refine RunL.callP (isCall_func rfl ent_100) rfl rfl rfl (fun w hm=>rnum_calls (valN s:Int) ⟨by omega,by omega⟩ w (hL.mono hm)) ?_
  refine st ?_
  refine lv (Val.eqlStr rfl rfl) ?_
  refine RunC.ret ?_
  exact RunE.retP (.r2 rfl (.tmp rfl) (.tmp rfl)) (by rw [numV_end hlen kI])
theorem readNums_calls14 (r:SA Str) (W:World) (hr:r.ok strC 1 W) (h0:0 < r.l.length) (hl:r.l.length≤100000) (wd:Str) (hL:Lw Tryz.prog W):Calls Tryz.prog 106 #[r.v,.string (bs wd)] W (Grow W [] (fun z:OL Int×Bool=>.tuple #[OL.v z.1,.bool z.2]) (fun z=>ownB 3 z.1.1 (z.1.2.map intC).flatten++[]) (fun z=>OL.ok z.1 intC 1∧(z.1.2,z.2)=lineV numO r.l wd)):=by
  refine calls_start Tryz.func106 rfl rfl ?_
  refine st ?_
  refine RunC.loopX (X:=OL Int) (n0:=[]) (r.l.length - 1) (fun k x q=>(7,.int .i64 ((k + 1:Nat):Int))::(6,ownV x.1 x.2.length)::q) (fun _ _=>_) (fun k x=>[]) (fun k x=>ownB 3 x.1 (x.2.map intC).flatten++[]) (fun k x=>OL.ok x intC 1∧allP numO ((r.l.drop 1).take k)=some x.2∧x.2.length=k) (none,[]) ⟨ol_nil,by simp [allP],rfl⟩ rfl (Sub.consE (t:=7) rfl rfl (Sub.consE (t:=6) rfl rfl (Sub.cons (t:=0) rfl (Sub.cons (t:=1) rfl (Sub.nil _))))) (Pick.same rfl) ?_
  intro k x kN kI
  obtain ⟨zo,zl⟩:=x
  obtain ⟨hzo,kI2,kI3⟩:=kI
  dsimp only at kI2 kI3 ⊢
  refine st ?_
  refine lv (Val.len_sl rfl sl_166) ?_
  refine cn rfl ?_ ?_
  ·intro c0'
   have hk:k + 1 < r.l.length:=by omega
   obtain ⟨y,hy⟩:∃ y,r.l[k + 1]=y:=⟨_,rfl⟩
   refine st ?_
   refine lv (Val.indexAddr_slp rfl rfl sl_166 (by omega) (by omega) (Sl.ptrM hr hk)) ?_
   refine lv (Val.load_gen rfl (fun w hm=>Sl.loadM1 hr (by decide) hm (by simp) ty_9 hk (v:=.string (bs y)) (by simp [strC,hy]))) ?_
   refine RunL.callP (isCall_func rfl ent_150) rfl rfl rfl (fun w hm=>number_calls14 y w (hL.mono hm)) ?_
   refine st ?_
   refine cn rfl ?_ ?_
   ·intro c1'
    refine st ?_
    refine RunC.ret ?_
    refine RunE.pass_ret ?_
    refine RunE.block_ret ?_
    refine RunE.pass_ret ?_
    refine RunE.pass_ret ?_
    refine RunE.block_ret ?_
    refine RunE.pass_ret ?_
    exact RunE.retG ((none,[]),false) ⟨ol_nil,(lineV_no hk (by rw [getD_of hk hy];exact numO_no c1')).symm⟩ (.r2 rfl (.tmp rfl) (.tmp rfl)) rfl (show Pick [] _ from .nil)
   intro c1'
   refine st ?_
   refine RunL.new (New.buildSlice (parts:=[(0,.tmp 27)]) rfl sl_27 zero_3 rfl rfl rfl rfl) rfl rfl rfl (fun b28=>?_)
   refine RunL.append (A:=[(b28,_)]) (B:=_) (x:=zo) (ys:=intC (numV y).1) ap_27 rfl rfl rfl hzo rfl (fun h=>by cases h) (fun w hm=>src_blk (hm.at (.head _))) (one_of rfl) (by simp only [maxLen];show zl.length + 1≤_;omega) (by show (zl.length + 1) * 8≤140737488355328;omega) rfl (fun z29 hz29=>?_)
   refine st ?_
   refine lv (Val.add rfl rfl (IntWalk.i64_in _ ⟨by omega,by omega⟩)) ?_
   exact RunE.roundX (z29,zl++[(numV y).1]) (by omega) ⟨ol_snoc (z:=zo) (f:=intC) hz29,lineV_s hk kI2 (by rw [getD_of hk hy];exact numO_yes c1'),by show (zl++_).length=_;rw [List.length_append,kI3];rfl⟩ rfl (Sub.consE (t:=7) rfl rfl (Sub.consE (t:=6) rfl (by simp) (Sub.cons (t:=0) rfl (Sub.cons (t:=1) rfl (Sub.nil _))))) (Pick.skip (Pick.same (by simp [intC])))
  intro c0'
  obtain rfl:k=r.l.length - 1:=by omega
  obtain ⟨y0,hy0⟩:∃ y,r.l[0]=y:=⟨_,rfl⟩
  refine RunC.exit ?_
  refine RunE.pass_exit ?_
  refine RunE.pass_exit ?_
  refine RunE.block_here ?_
  refine st ?_
  refine RunC.draw 7 fol_ .nil ?_
  refine va 0 rfl (Val.pure rfl) rfl rfl rfl .nil rfl ?_
  refine va 1 rfl (Val.pure rfl) rfl rfl rfl .nil rfl ?_
  refine va 2 rfl (Val.indexAddr_slp rfl rfl sl_166 (by omega) (by omega) (Sl.ptrM hr h0)) rfl rfl rfl .nil rfl ?_
  refine va 3 rfl (Val.load_gen rfl (fun w hm=>Sl.loadM1 hr (by decide) hm (by simp) ty_9 h0 (v:=.string (bs y0)) (by simp [strC,hy0]))) rfl rfl rfl .nil rfl ?_
  refine va 4 rfl (Val.pure rfl) rfl rfl rfl .nil rfl ?_
  refine va 5 rfl (Val.eqlStr rfl rfl) rfl rfl rfl .nil rfl ?_
  refine va 6 rfl (Val.pure rfl) rfl rfl rfl .nil rfl ?_
  refine RunA.toB (by kernel_rfl) ?_
  refine RunB.one (i:=7) (by kernel_rfl) ?_
  refine RunI.val rfl (Val.pure rfl) rfl rfl rfl (RunK.toB ?_)
  refine RunB.done (by kernel_rfl) ?_
  refine st ?_
  refine RunC.ret ?_
  exact RunE.retG ((zo,zl),decide (y0=wd)) ⟨hzo,by rw [lineV_end kI2,getD_of h0 hy0]⟩ (.r2 rfl (.tmp rfl) (.tmp rfl)) rfl (Pick.refl _)
end Go.Proofs.YtleamcmljcdapaaGreatDoor
namespace Go.Bk
open Go Go.Eng Go.RowKit
theorem allP_inv {α:Type} {f:Str→Option α} {g:α→Str} {P:α→Prop} (hf:∀ s x,f s=some x→s=g x∧P x):∀ {ws:List Str} {l:List α},allP f ws=some l→ws=l.map g∧∀ x∈l,P x
  | [],l,h=>by cases h;exact ⟨rfl,fun x h=>by cases h⟩
  | w::ws,l,h=>by
    simp only [allP] at h
    split at h
    · rename_i a r h1 h2
      cases h
      obtain ⟨e1,p1⟩:=hf w a h1
      obtain ⟨e2,p2⟩:=allP_inv hf h2
      exact ⟨by rw [List.map_cons,← e1,← e2],fun x hx=>by rcases List.mem_cons.1 hx with rfl | hx;exact p1;exact p2 x hx⟩
    · cases h
theorem lineV_inv {α:Type} {f:Str→Option α} {g:α→Str} {P:α→Prop} (hf:∀ s x,f s=some x→s=g x∧P x) {ls:List Str} {w:Str} {l:List α} (hne:ls ≠ []) (h:lineV f ls w=(l,true)):ls=w::l.map g∧∀ x∈l,P x:=by
  unfold lineV at h
  split at h
  · rename_i r hr
    have h1:=congrArg Prod.fst h
    have h2:=congrArg Prod.snd h
    dsimp only at h1 h2
    subst h1
    have h3:=of_decide_eq_true h2
    obtain ⟨e,p⟩:=allP_inv hf hr
    cases ls with
    | nil=>exact absurd rfl hne
    | cons a b =>
      have e3:a=w:=h3
      rw [List.drop_succ_cons,List.drop_zero] at e
      rw [e3,e]
      exact ⟨rfl,p⟩
  · cases h
theorem lineV_text {α:Type} {f:Str→Option α} {g:α→Str} {l:List α} {w:Str} (h:∀ x∈l,f (g x)=some x):lineV f (w::l.map g) w=(l,true):=by
  unfold lineV
  rw [List.drop_succ_cons,List.drop_zero,allP_text h]
  simp
theorem nums_text {l:List Int} {w:Str} (h:∀ n∈l,Big n):lineV numO (w::l.map Lib.itoa) w=(l,true):=lineV_text fun n hn=>numO_itoa (h n hn)
theorem nums_inv {ls:List Str} {w:Str} {l:List Int} (hne:ls ≠ []) (h:lineV numO ls w=(l,true)):ls=w::l.map Lib.itoa∧∀ n∈l,Big n:=lineV_inv (fun _ _ h=>numO_ok h) hne h
theorem pair_eta {α:Type} {p:α×Bool} (h:p.2=true):p=(p.1,true):=by rw [← h]
theorem getD_mem {α:Type} {l:List (List α)} {i:Nat} (h:i < l.length):l.getD i []∈l:=by
  rw [List.getD_eq_getElem?_getD,List.getElem?_eq_getElem h]
  exact List.getElem_mem h
end Go.Bk
namespace Go.Bk
open Go Go.Eng Go.RowKit
theorem any_step {α:Type} {l:List α} {k:Nat} {p:α→Bool} {x:α} (hk:k < l.length) (hx:l[k]=x) (h:(l.take k).any p=false) (h2:p x=false):(l.take (k + 1)).any p=false:=by
  rw [List.take_succ_eq_append_getElem hk,List.any_append,h,hx]
  simp [h2]
theorem any_yes {α:Type} {l:List α} {k:Nat} {p:α→Bool} {x:α} (hk:k < l.length) (hx:l[k]=x) (h2:p x=true):l.any p=true :=
  List.any_eq_true.2 ⟨x,by rw [← hx];exact List.getElem_mem hk,h2⟩
theorem sum_bd {l:List Int} {k:Nat} {x:Int} (hk:k < l.length) (hx:l[k]=x) (h:0≤(l.take k).sum∧(l.take k).sum≤1000 * k) (h2:within x 0 1000=true):0≤(l.take (k + 1)).sum∧(l.take (k + 1)).sum≤1000 * (k + 1:Nat):=by
  rw [sharing_step hk hx]
  simp only [within,Bool.and_eq_true,decide_eq_true_eq] at h2
  omega
theorem royal_r (r:RyA):royalX r.pl=(decide (r.terms.l.length≤4) && decide (r.paid.l.length=r.terms.l.length) && decide (r.prices.l.length≤4) && decide (r.shares.l.length=r.prices.l.length) && decide (r.reports.l.length≤20) &&
    !r.terms.l.any badTm && !(r.paid.l.any fun n=>!within n 0 1099511627776) && !(r.prices.l.any fun n=>!within n 0 1048576) && !(r.shares.l.any fun x=>!sharingX x.l) && !r.reports.l.any (badRp r.pl)):=by
  unfold royalX
  have e:r.pl.shares.length=r.shares.l.length:=by simp [RyA.pl]
  have e2:(r.pl.shares.any fun l=>!sharingX l)=r.shares.l.any fun x=>!sharingX x.l:=by
    show ((r.shares.l.map (·.l)).any fun l=>!sharingX l)=_
    rw [any_map]
  rw [e,e2]
  rfl
end Go.Bk
namespace Go.Proofs.YtleamcmljcdapaaGreatDoor
open Go Go.Eng Go.Bk Go.RowKit

theorem rin12_calls (n lo hi:Int) (W:World):Calls Tryz.prog 80 #[.int .i64 n,.int .i64 lo,.int .i64 hi] W (Pure (.bool (within n lo hi)) W):=by
  refine calls_start Tryz.func80 rfl rfl ?_
  refine st ?_
  refine RunL.andPart (dj:=10) (dp:=14) 4 rfl (fun g10=>by
    have g10':=g10
    try simp only [nH] at g10'
    refine sv ?_
    exact RunL.segEnd (Sub.cons rfl (Sub.skip rfl (Sub.skip rfl (Sub.skip rfl (Sub.skip rfl (Sub.same rfl (by rw [g10]) (Sub.refl _))))))) (List.Sublist.refl _)
  ) (fun g10=>by
    have g10':=g10
    try simp only [nH] at g10'
    iterate 3 refine RunL.no rfl rfl rfl ?_
    refine sv ?_
    exact RunL.segEnd (Sub.cons rfl (Sub.skip rfl (Sub.skip rfl (Sub.skip rfl (Sub.skip rfl (Sub.same rfl (by rw [g10]) (Sub.refl _))))))) (List.Sublist.refl _)
  ) ?_
  refine st ?_
  refine RunC.ret ?_
  exact RunE.retP (.r1 rfl (.tmp rfl)) (by first | rfl | simp)
theorem rTerm_calls (t:Tm) (W:World):Calls Tryz.prog 79 #[.agg t.cells.toArray] W (Pure (.bool (!badTm t)) W):=by
  refine calls_start Tryz.func79 rfl rfl ?_
  refine st ?_
  refine RunL.new (New.box rfl) rfl rfl rfl (fun b1=>?_)
  refine st ?_
  refine lv (Val.fieldAddr rfl fld_109_0) ?_
  refine lv (Val.load_one rfl (.head _) ty_3 rfl) ?_
  refine RunL.callP (isCall_func rfl ent_80) rfl rfl rfl (fun w hm=>rin12_calls _ _ _ w) ?_
  refine st ?_
  refine RunL.andPart (dj:=6) (dp:=10) 4 rfl (fun g6=>by
    have g6':=g6
    try simp only [nH] at g6'
    refine lv (Val.fieldAddr rfl fld_109_2) ?_
    refine lv (Val.load_one rfl (.head _) ty_3 rfl) ?_
    refine RunL.callP (isCall_func rfl ent_80) rfl rfl rfl (fun w hm=>rin12_calls _ _ _ w) ?_
    refine sv ?_
    exact RunL.segEnd (Sub.cons rfl (Sub.skip rfl (Sub.skip rfl (Sub.skip rfl (Sub.skip rfl (Sub.same rfl (by rw [g6]) (Sub.refl _))))))) (List.Sublist.refl _)
  ) (fun g6=>by
    have g6':=g6
    try simp only [nH] at g6'
    iterate 3 refine RunL.no rfl rfl rfl ?_
    refine sv ?_
    exact RunL.segEnd (Sub.cons rfl (Sub.skip rfl (Sub.skip rfl (Sub.skip rfl (Sub.skip rfl (Sub.same rfl (by rw [g6]) (Sub.refl _))))))) (List.Sublist.refl _)
  ) ?_
  refine st ?_
  refine RunL.andPart (dj:=11) (dp:=15) 4 rfl (fun g11=>by
    have g11':=g11
    try simp only [nH] at g11'
    refine lv (Val.fieldAddr rfl fld_109_1) ?_
    refine lv (Val.load_one rfl (.head _) ty_3 rfl) ?_
    refine RunL.callP (isCall_func rfl ent_80) rfl rfl rfl (fun w hm=>rin12_calls _ _ _ w) ?_
    refine sv ?_
    exact RunL.segEnd (Sub.cons rfl (Sub.skip rfl (Sub.skip rfl (Sub.skip rfl (Sub.skip rfl (Sub.same rfl (by rw [g11]) (Sub.refl _))))))) (List.Sublist.refl _)
  ) (fun g11=>by
    have g11':=g11
    try simp only [nH] at g11'
    iterate 3 refine RunL.no rfl rfl rfl ?_
    refine sv ?_
    exact RunL.segEnd (Sub.cons rfl (Sub.skip rfl (Sub.skip rfl (Sub.skip rfl (Sub.skip rfl (Sub.same rfl (by rw [g11]) (Sub.refl _))))))) (List.Sublist.refl _)
  ) ?_
  refine st ?_
  refine RunC.ret ?_
  exact RunE.retP (.r1 rfl (.tmp rfl)) (by unfold badTm;simp)
theorem rSharing_calls (x:SA Int) (W:World) (hx:x.ok intC 1 W) (hl:x.l.length≤10000):Calls Tryz.prog 81 #[x.v] W (Pure (.bool (sharingX x.l)) W):=by
  refine calls_start Tryz.func81 rfl rfl ?_
  refine st ?_
  refine RunC.loopK (x.l.length) (fun k q=>(4,.int .i64 (k:Int))::(3,.int .i64 ((x.l.take k).sum))::q) (fun _=>_) (fun _=>[]) (fun k=>(x.l.take k).all (fun n=>within n 0 1000)=true∧0≤(x.l.take k).sum∧(x.l.take k).sum≤1000 * k) (by simp) rfl (Sub.consE (t:=4) rfl rfl (Sub.consE (t:=3) rfl rfl (Sub.cons (t:=0) rfl (Sub.nil _)))) .nil ?_
  intro k kN kI
  refine st ?_
  refine lv (Val.len_sl rfl sl_27) ?_
  refine cn rfl ?_ ?_
  ·intro c0'
   have hk:k < x.l.length:=by omega
   obtain ⟨y,hy⟩:∃ y,x.l[k]=y:=⟨_,rfl⟩
   refine st ?_
   refine lv (Val.indexAddr_slp rfl rfl sl_27 (by omega) (by omega) (Sl.ptrM hx hk)) ?_
   refine lv (Val.load_gen rfl (fun w hm=>Sl.loadM1 hx (by decide) hm (by simp) ty_3 hk (v:=.int .i64 y) (by simp [intC,hy]))) ?_
   refine RunL.callP (isCall_func rfl ent_80) rfl rfl rfl (fun w hm=>rin12_calls _ _ _ w) ?_
   refine st ?_
   refine cn rfl ?_ ?_
   ·intro c1'
    refine st ?_
    refine RunC.ret ?_
    refine RunE.pass_ret ?_
    refine RunE.block_ret ?_
    refine RunE.pass_ret ?_
    refine RunE.pass_ret ?_
    refine RunE.block_ret ?_
    refine RunE.pass_ret ?_
    exact RunE.retP (.r1 rfl (.tmp rfl)) (by unfold sharingX;rw [all_no hk hy (by simpa using c1')];rfl)
   intro c1'
   have hby:0≤y∧y≤1000:=(by simpa [within] using c1')
   refine st ?_
   refine lv (Val.indexAddr_slp rfl rfl sl_27 (by omega) (by omega) (Sl.ptrM hx hk)) ?_
   refine lv (Val.load_gen rfl (fun w hm=>Sl.loadM1 hx (by decide) hm (by simp) ty_3 hk (v:=.int .i64 y) (by simp [intC,hy]))) ?_
   refine lv (Val.add rfl rfl (IntWalk.i64_in _ ⟨by omega,by omega⟩)) ?_
   refine lv (Val.add rfl rfl (IntWalk.i64_in _ ⟨by omega,by omega⟩)) ?_
   exact RunE.round (by omega) ⟨take_all hk hy kI.1 (by simpa using c1'),sum_bd hk hy kI.2 (by simpa using c1')⟩ rfl (Sub.consE (t:=4) rfl rfl (Sub.consE (t:=3) rfl (by rw [sharing_step hk hy]) (Sub.cons (t:=0) rfl (Sub.nil _)))) .nil
  intro c0'
  obtain rfl:k=x.l.length:=by omega
  rw [List.take_length] at kI
  rw [List.take_length]
  refine RunC.exit ?_
  refine RunE.pass_exit ?_
  refine RunE.pass_exit ?_
  refine RunE.block_here ?_
  refine st ?_
  refine lv (Val.len_sl rfl sl_27) ?_
  refine RunL.callP (isCall_func rfl ent_80) rfl rfl rfl (fun w hm=>rin12_calls _ _ _ w) ?_
  refine st ?_
  refine RunL.andPart (dj:=26) (dp:=29) 3 rfl (fun g26=>by
    have g26':=g26
    try simp only [nH] at g26'
    refine sv ?_
    exact RunL.segEnd (Sub.cons rfl (Sub.skip rfl (Sub.skip rfl (Sub.skip rfl (Sub.same rfl (by rw [g26]) (Sub.refl _)))))) (List.Sublist.refl _)
  ) (fun g26=>by
    have g26':=g26
    try simp only [nH] at g26'
    refine RunL.no rfl rfl rfl ?_
    refine RunL.no rfl rfl rfl ?_
    refine sv ?_
    exact RunL.segEnd (Sub.cons rfl (Sub.skip rfl (Sub.skip rfl (Sub.skip rfl (Sub.same rfl (by rw [g26]) (Sub.refl _)))))) (List.Sublist.refl _)
  ) ?_
  refine st ?_
  refine RunC.ret ?_
  exact RunE.retP (.r1 rfl (.tmp rfl)) (by unfold sharingX;rw [kI.1];rfl)
set_option maxHeartbeats 1000000 in
theorem rRoyal_calls (r:RyA) (hs:RySm r) (W:World) (hR:RyOk W r):Calls Tryz.prog 35 #[r.v] W (Pure (.bool (royalX r.pl)) W):=by
  rw [royal_r]
  obtain ⟨s1,s2,s3,s4,s5,s6⟩:=hs
  refine calls_start Tryz.func35 rfl rfl ?_
  refine st ?_
  refine RunL.new (New.box rfl) rfl rfl rfl (fun b1=>?_)
  refine st ?_
  refine lv (Val.fieldAddr rfl fld_35_0) ?_
  refine lv (Val.load_one rfl (.head _) ty_31 rfl) ?_
  refine lv (Val.len_sl rfl sl_31) ?_
  refine RunL.orPart (dj:=11) (dp:=16) 5 rfl (fun g11=>by
    have g11':=g11
    try simp only [nH] at g11'
    refine lv (Val.fieldAddr rfl fld_35_1) ?_
    refine lv (Val.load_one rfl (.head _) ty_27 rfl) ?_
    refine RunL.val (Val.len_sl rfl sl_27) rfl rfl rfl ?_
    refine sv ?_
    exact RunL.segEnd (Sub.cons rfl (Sub.skip rfl (Sub.skip rfl (Sub.skip rfl (Sub.skip rfl (Sub.skip rfl (Sub.same rfl (by rw [g11]) (Sub.refl _)))))))) (List.Sublist.refl _)
  ) (fun g11=>by
    have g11':=g11
    try simp only [nH] at g11'
    iterate 4 refine RunL.no rfl rfl rfl ?_
    refine sv ?_
    exact RunL.segEnd (Sub.cons rfl (Sub.skip rfl (Sub.skip rfl (Sub.skip rfl (Sub.skip rfl (Sub.skip rfl (Sub.same rfl (by rw [g11]) (Sub.refl _)))))))) (List.Sublist.refl _)
  ) ?_
  refine st ?_
  refine RunL.orPart (dj:=17) (dp:=25) 8 rfl (fun g17=>by
    have g17':=g17
    try simp only [nH] at g17'
    refine lv (Val.fieldAddr rfl fld_35_2) ?_
    refine lv (Val.load_one rfl (.head _) ty_32 rfl) ?_
    refine lv (Val.len_sl rfl sl_32) ?_
    refine lv (Val.fieldAddr rfl fld_35_1) ?_
    refine lv (Val.load_one rfl (.head _) ty_27 rfl) ?_
    refine RunL.val (Val.len_sl rfl sl_27) rfl rfl rfl ?_
    refine sv ?_
    exact RunL.segEnd (Sub.cons rfl (Sub.skip rfl (Sub.skip rfl (Sub.skip rfl (Sub.skip rfl (Sub.skip rfl (Sub.skip rfl (Sub.skip rfl (Sub.skip rfl (Sub.same rfl (by rw [g17]) (Sub.refl _))))))))))) (List.Sublist.refl _)
  ) (fun g17=>by
    have g17':=g17
    try simp only [nH] at g17'
    iterate 7 refine RunL.no rfl rfl rfl ?_
    refine sv ?_
    exact RunL.segEnd (Sub.cons rfl (Sub.skip rfl (Sub.skip rfl (Sub.skip rfl (Sub.skip rfl (Sub.skip rfl (Sub.skip rfl (Sub.skip rfl (Sub.skip rfl (Sub.same rfl (by rw [g17]) (Sub.refl _))))))))))) (List.Sublist.refl _)
  ) ?_
  refine st ?_
  refine RunL.orPart (dj:=26) (dp:=31) 5 rfl (fun g26=>by
    have g26':=g26
    try simp only [nH] at g26'
    refine lv (Val.fieldAddr rfl fld_35_3) ?_
    refine lv (Val.load_one rfl (.head _) ty_33 rfl) ?_
    refine RunL.val (Val.len_sl rfl sl_33) rfl rfl rfl ?_
    refine sv ?_
    exact RunL.segEnd (Sub.cons rfl (Sub.skip rfl (Sub.skip rfl (Sub.skip rfl (Sub.skip rfl (Sub.skip rfl (Sub.same rfl (by rw [g26]) (Sub.refl _)))))))) (List.Sublist.refl _)
  ) (fun g26=>by
    have g26':=g26
    try simp only [nH] at g26'
    iterate 4 refine RunL.no rfl rfl rfl ?_
    refine sv ?_
    exact RunL.segEnd (Sub.cons rfl (Sub.skip rfl (Sub.skip rfl (Sub.skip rfl (Sub.skip rfl (Sub.skip rfl (Sub.same rfl (by rw [g26]) (Sub.refl _)))))))) (List.Sublist.refl _)
  ) ?_
  refine st ?_
  refine RunL.orPart (dj:=32) (dp:=40) 8 rfl (fun g32=>by
    have g32':=g32
    try simp only [nH] at g32'
    refine lv (Val.fieldAddr rfl fld_35_4) ?_
    refine lv (Val.load_one rfl (.head _) ty_27 rfl) ?_
    refine lv (Val.len_sl rfl sl_27) ?_
    refine lv (Val.fieldAddr rfl fld_35_0) ?_
    refine lv (Val.load_one rfl (.head _) ty_31 rfl) ?_
    refine RunL.val (Val.len_sl rfl sl_31) rfl rfl rfl ?_
    refine sv ?_
    exact RunL.segEnd (Sub.cons rfl (Sub.skip rfl (Sub.skip rfl (Sub.skip rfl (Sub.skip rfl (Sub.skip rfl (Sub.skip rfl (Sub.skip rfl (Sub.skip rfl (Sub.same rfl (by rw [g32]) (Sub.refl _))))))))))) (List.Sublist.refl _)
  ) (fun g32=>by
    have g32':=g32
    try simp only [nH] at g32'
    iterate 7 refine RunL.no rfl rfl rfl ?_
    refine sv ?_
    exact RunL.segEnd (Sub.cons rfl (Sub.skip rfl (Sub.skip rfl (Sub.skip rfl (Sub.skip rfl (Sub.skip rfl (Sub.skip rfl (Sub.skip rfl (Sub.skip rfl (Sub.same rfl (by rw [g32]) (Sub.refl _))))))))))) (List.Sublist.refl _)
  ) ?_
  refine st ?_
  refine cn rfl ?_ ?_
  ·intro c0'
   refine st ?_
   refine RunC.ret ?_
   refine RunE.pass_ret ?_
   exact RunE.retP (.r1 rfl (.tmp rfl)) (by congr 1;symm;simp only [Bool.and_eq_false_iff,decide_eq_false_iff_not];omega)
  intro c0'
  have hpl:r.paid.l.length=r.terms.l.length:=by omega
  have hsl:r.shares.l.length=r.prices.l.length:=by omega
  refine st ?_
  refine RunC.loopK (r.terms.l.length) (fun k q=>(3,.int .i64 (k:Int))::q) (fun _=>_) (fun _=>[]) (fun k=>(r.terms.l.take k).any badTm=false∧(r.paid.l.take k).any (fun n=>!within n 0 1099511627776)=false) (by simp) rfl (Sub.consE (t:=3) rfl rfl (Sub.cons (t:=1) rfl (Sub.nil _))) (.cons .here rfl .nil) ?_
  intro k kN kI
  refine st ?_
  refine lv (Val.fieldAddr rfl fld_35_0) ?_
  refine lv (Val.load_one rfl (.head _) ty_31 rfl) ?_
  refine lv (Val.len_sl rfl sl_31) ?_
  refine cn rfl ?_ ?_
  ·intro c1'
   have hk:k < r.terms.l.length:=by omega
   have hk2:k < r.paid.l.length:=by omega
   obtain ⟨y,hy⟩:∃ y,r.terms.l[k]=y:=⟨_,rfl⟩
   obtain ⟨z,hz⟩:∃ z,r.paid.l[k]=z:=⟨_,rfl⟩
   refine st ?_
   refine lv (Val.fieldAddr rfl fld_35_0) ?_
   refine lv (Val.load_one rfl (.head _) ty_31 rfl) ?_
   refine lv (Val.indexAddr_slp rfl rfl sl_31 (by omega) (by omega) (Sl.ptrM hR.terms hk)) ?_
   refine lv (Val.load_gen rfl (fun w hm=>Sl.loadX hR.terms (by decide) hm (by simp) ty_109 hk hy)) ?_
   refine RunL.callP (isCall_func rfl ent_79) rfl rfl rfl (fun w hm=>rTerm_calls y w) ?_
   refine st ?_
   refine RunL.orPart (dj:=55) (dp:=63) 8 rfl (fun g55=>by
     have g55':=g55
     try simp only [nH] at g55'
     refine lv (Val.fieldAddr rfl fld_35_4) ?_
     refine lv (Val.load_one rfl (.head _) ty_27 rfl) ?_
     refine lv (Val.indexAddr_slp rfl rfl sl_27 (by omega) (by omega) (Sl.ptrM hR.paid hk2)) ?_
     refine lv (Val.load_gen rfl (fun w hm=>Sl.loadM1 hR.paid (by decide) hm (by simp) ty_3 hk2 (v:=.int .i64 z) (by simp [intC,hz]))) ?_
     refine RunL.callP (isCall_func rfl ent_80) rfl rfl rfl (fun w hm=>rin12_calls _ _ _ w) ?_
     refine sv ?_
     exact RunL.segEnd (Sub.cons rfl (Sub.skip rfl (Sub.skip rfl (Sub.skip rfl (Sub.skip rfl (Sub.skip rfl (Sub.skip rfl (Sub.skip rfl (Sub.skip rfl (Sub.same rfl (by rw [g55]) (Sub.refl _))))))))))) (List.Sublist.refl _)
   ) (fun g55=>by
     have g55':=g55
     try simp only [nH] at g55'
     iterate 7 refine RunL.no rfl rfl rfl ?_
     refine sv ?_
     exact RunL.segEnd (Sub.cons rfl (Sub.skip rfl (Sub.skip rfl (Sub.skip rfl (Sub.skip rfl (Sub.skip rfl (Sub.skip rfl (Sub.skip rfl (Sub.skip rfl (Sub.same rfl (by rw [g55]) (Sub.refl _))))))))))) (List.Sublist.refl _)
   ) ?_
   refine st ?_
   refine cn rfl ?_ ?_
   ·intro c2'
    refine st ?_
    refine RunC.ret ?_
    refine RunE.block_ret ?_
    refine RunE.pass_ret ?_
    refine RunE.pass_ret ?_
    refine RunE.block_ret ?_
    refine RunE.pass_ret ?_
    exact RunE.retP (.r1 rfl (.tmp rfl)) (by rcases c2' with h | h;rw [any_yes hk hy (by simpa using h)];simp;rw [any_yes hk2 hz (by simpa using h)];simp)
   intro c2'
   refine st ?_
   refine lv (Val.add rfl rfl (IntWalk.i64_in _ ⟨by omega,by omega⟩)) ?_
   exact RunE.round (by omega) ⟨any_step hk hy kI.1 (by simpa using c2'.1),any_step hk2 hz kI.2 (by simpa using c2'.2)⟩ rfl (Sub.consE (t:=3) rfl rfl (Sub.cons (t:=1) rfl (Sub.nil _))) (.cons .here rfl .nil)
  intro c1'
  obtain rfl:k=r.terms.l.length:=by omega
  have hA1:=kI.1
  have hA2:=kI.2
  rw [List.take_length] at hA1
  rw [← hpl,List.take_length] at hA2
  clear kI
  refine RunC.exit ?_
  refine RunE.pass_exit ?_
  refine RunE.pass_exit ?_
  refine RunE.block_here ?_
  refine st ?_
  refine RunC.loopK (r.prices.l.length) (fun k q=>(4,.int .i64 (k:Int))::q) (fun _=>_) (fun _=>[]) (fun k=>(r.prices.l.take k).any (fun n=>!within n 0 1048576)=false∧(r.shares.l.take k).any (fun x=>!sharingX x.l)=false) (by simp) rfl (Sub.consE (t:=4) rfl rfl (Sub.cons (t:=1) rfl (Sub.nil _))) (.cons .here rfl .nil) ?_
  intro k kN kI
  refine st ?_
  refine lv (Val.fieldAddr rfl fld_35_1) ?_
  refine lv (Val.load_one rfl (.head _) ty_27 rfl) ?_
  refine lv (Val.len_sl rfl sl_27) ?_
  refine cn rfl ?_ ?_
  ·intro c3'
   have hk:k < r.prices.l.length:=by omega
   have hk2:k < r.shares.l.length:=by omega
   obtain ⟨y,hy⟩:∃ y,r.prices.l[k]=y:=⟨_,rfl⟩
   obtain ⟨z,hz⟩:∃ z,r.shares.l[k]=z:=⟨_,rfl⟩
   have hzm:z∈r.shares.l:=hz ▸ List.getElem_mem hk2
   refine st ?_
   refine lv (Val.fieldAddr rfl fld_35_1) ?_
   refine lv (Val.load_one rfl (.head _) ty_27 rfl) ?_
   refine lv (Val.indexAddr_slp rfl rfl sl_27 (by omega) (by omega) (Sl.ptrM hR.prices hk)) ?_
   refine lv (Val.load_gen rfl (fun w hm=>Sl.loadM1 hR.prices (by decide) hm (by simp) ty_3 hk (v:=.int .i64 y) (by simp [intC,hy]))) ?_
   refine RunL.callP (isCall_func rfl ent_80) rfl rfl rfl (fun w hm=>rin12_calls _ _ _ w) ?_
   refine st ?_
   refine RunL.orPart (dj:=78) (dp:=86) 8 rfl (fun g78=>by
     have g78':=g78
     try simp only [nH] at g78'
     refine lv (Val.fieldAddr rfl fld_35_2) ?_
     refine lv (Val.load_one rfl (.head _) ty_32 rfl) ?_
     refine lv (Val.indexAddr_slp rfl rfl sl_32 (by omega) (by omega) (Sl.ptrM hR.shares hk2)) ?_
     refine lv (Val.load_gen rfl (fun w hm=>Sl.loadM1 hR.shares (by decide) hm (by simp) ty_27 hk2 (v:=z.v) (by simp [SA.cell,hz]))) ?_
     refine RunL.callP (isCall_func rfl ent_81) rfl rfl rfl (fun w hm=>rSharing_calls z w ((hR.rows z hzm).mono0 (by decide) hm) (s4 z hzm)) ?_
     refine sv ?_
     exact RunL.segEnd (Sub.cons rfl (Sub.skip rfl (Sub.skip rfl (Sub.skip rfl (Sub.skip rfl (Sub.skip rfl (Sub.skip rfl (Sub.skip rfl (Sub.skip rfl (Sub.same rfl (by rw [g78]) (Sub.refl _))))))))))) (List.Sublist.refl _)
   ) (fun g78=>by
     have g78':=g78
     try simp only [nH] at g78'
     iterate 7 refine RunL.no rfl rfl rfl ?_
     refine sv ?_
     exact RunL.segEnd (Sub.cons rfl (Sub.skip rfl (Sub.skip rfl (Sub.skip rfl (Sub.skip rfl (Sub.skip rfl (Sub.skip rfl (Sub.skip rfl (Sub.skip rfl (Sub.same rfl (by rw [g78]) (Sub.refl _))))))))))) (List.Sublist.refl _)
   ) ?_
   refine st ?_
   refine cn rfl ?_ ?_
   ·intro c4'
    refine st ?_
    refine RunC.ret ?_
    refine RunE.block_ret ?_
    refine RunE.pass_ret ?_
    refine RunE.pass_ret ?_
    refine RunE.block_ret ?_
    refine RunE.pass_ret ?_
    exact RunE.retP (.r1 rfl (.tmp rfl)) (by rcases c4' with h | h;rw [any_yes hk hy (by simpa using h)];simp;rw [any_yes hk2 hz (by simpa using h)];simp)
   intro c4'
   refine st ?_
   refine lv (Val.add rfl rfl (IntWalk.i64_in _ ⟨by omega,by omega⟩)) ?_
   exact RunE.round (by omega) ⟨any_step hk hy kI.1 (by simpa using c4'.1),any_step hk2 hz kI.2 (by simpa using c4'.2)⟩ rfl (Sub.consE (t:=4) rfl rfl (Sub.cons (t:=1) rfl (Sub.nil _))) (.cons .here rfl .nil)
  intro c3'
  obtain rfl:k=r.prices.l.length:=by omega
  have hB1:=kI.1
  have hB2:=kI.2
  rw [List.take_length] at hB1
  rw [← hsl,List.take_length] at hB2
  clear kI
  refine RunC.exit ?_
  refine RunE.pass_exit ?_
  refine RunE.pass_exit ?_
  refine RunE.block_here ?_
  refine st ?_
  refine RunC.loopK (r.reports.l.length) (fun k q=>(5,.int .i64 (k:Int))::q) (fun _=>_) (fun _=>[]) (fun k=>(r.reports.l.take k).any (badRp r.pl)=false) (by simp) rfl (Sub.consE (t:=5) rfl rfl (Sub.cons (t:=1) rfl (Sub.nil _))) (.cons .here rfl .nil) ?_
  intro k kN kI
  refine st ?_
  refine lv (Val.fieldAddr rfl fld_35_3) ?_
  refine lv (Val.load_one rfl (.head _) ty_33 rfl) ?_
  refine lv (Val.len_sl rfl sl_33) ?_
  refine cn rfl ?_ ?_
  ·intro c5'
   have hk:k < r.reports.l.length:=by omega
   obtain ⟨y,hy⟩:∃ y,r.reports.l[k]=y:=⟨_,rfl⟩
   refine st ?_
   refine lv (Val.fieldAddr rfl fld_35_3) ?_
   refine lv (Val.load_one rfl (.head _) ty_33 rfl) ?_
   refine lv (Val.indexAddr_slp rfl rfl sl_33 (by omega) (by omega) (Sl.ptrM hR.reports hk)) ?_
   refine lv (Val.load_gen rfl (fun w hm=>Sl.loadX hR.reports (by decide) hm (by simp) ty_111 hk hy)) ?_
   refine RunL.new (New.alloc zero_111) rfl rfl rfl (fun b6=>?_)
   refine RunL.sto (Sto.store rfl rfl .here ty_111 rfl rfl) rfl rfl ?_
   refine st ?_
   refine lv (Val.fieldAddr rfl fld_111_0) ?_
   refine lv (Val.load_one rfl (.head _) ty_3 rfl) ?_
   refine lv (Val.fieldAddr rfl fld_35_0) ?_
   refine lv (Val.load_one rfl (.tail _ (.head _)) ty_31 rfl) ?_
   refine lv (Val.len_sl rfl sl_31) ?_
   refine lv (Val.sub' rfl rfl (IntWalk.i64_in _ ⟨by omega,by omega⟩)) ?_
   refine RunL.callP (isCall_func rfl ent_80) rfl rfl rfl (fun w hm=>rin12_calls _ _ _ w) ?_
   refine st ?_
   refine RunL.orPart (dj:=107) (dp:=116) 9 rfl (fun g107=>by
     have g107':=g107
     try simp only [nH] at g107'
     refine lv (Val.fieldAddr rfl fld_111_1) ?_
     refine lv (Val.load_one rfl (.head _) ty_3 rfl) ?_
     refine lv (Val.fieldAddr rfl fld_35_1) ?_
     refine lv (Val.load_one rfl (.tail _ (.head _)) ty_27 rfl) ?_
     refine lv (Val.len_sl rfl sl_27) ?_
     refine lv (Val.sub' rfl rfl (IntWalk.i64_in _ ⟨by omega,by omega⟩)) ?_
     refine RunL.callP (isCall_func rfl ent_80) rfl rfl rfl (fun w hm=>rin12_calls _ _ _ w) ?_
     refine sv ?_
     exact RunL.segEnd (Sub.cons rfl (Sub.skip rfl (Sub.skip rfl (Sub.skip rfl (Sub.skip rfl (Sub.skip rfl (Sub.skip rfl (Sub.skip rfl (Sub.skip rfl (Sub.skip rfl (Sub.same rfl (by rw [g107]) (Sub.refl _)))))))))))) (List.Sublist.refl _)
   ) (fun g107=>by
     have g107':=g107
     try simp only [nH] at g107'
     iterate 8 refine RunL.no rfl rfl rfl ?_
     refine sv ?_
     exact RunL.segEnd (Sub.cons rfl (Sub.skip rfl (Sub.skip rfl (Sub.skip rfl (Sub.skip rfl (Sub.skip rfl (Sub.skip rfl (Sub.skip rfl (Sub.skip rfl (Sub.skip rfl (Sub.same rfl (by rw [g107]) (Sub.refl _)))))))))))) (List.Sublist.refl _)
   ) ?_
   refine st ?_
   refine RunL.orPart (dj:=117) (dp:=124) 7 rfl (fun g117=>by
     have g117':=g117
     try simp only [nH] at g117'
     refine lv (Val.fieldAddr rfl fld_111_2) ?_
     refine lv (Val.load_one rfl (.head _) ty_3 rfl) ?_
     refine lv (Val.fieldAddr rfl fld_111_3) ?_
     refine lv (Val.load_one rfl (.head _) ty_3 rfl) ?_
     refine RunL.callP (isCall_func rfl ent_80) rfl rfl rfl (fun w hm=>rin12_calls _ _ _ w) ?_
     refine sv ?_
     exact RunL.segEnd (Sub.cons rfl (Sub.skip rfl (Sub.skip rfl (Sub.skip rfl (Sub.skip rfl (Sub.skip rfl (Sub.skip rfl (Sub.skip rfl (Sub.same rfl (by rw [g117]) (Sub.refl _)))))))))) (List.Sublist.refl _)
   ) (fun g117=>by
     have g117':=g117
     try simp only [nH] at g117'
     iterate 6 refine RunL.no rfl rfl rfl ?_
     refine sv ?_
     exact RunL.segEnd (Sub.cons rfl (Sub.skip rfl (Sub.skip rfl (Sub.skip rfl (Sub.skip rfl (Sub.skip rfl (Sub.skip rfl (Sub.skip rfl (Sub.same rfl (by rw [g117]) (Sub.refl _)))))))))) (List.Sublist.refl _)
   ) ?_
   refine st ?_
   refine RunL.orPart (dj:=125) (dp:=129) 4 rfl (fun g125=>by
     have g125':=g125
     try simp only [nH] at g125'
     refine lv (Val.fieldAddr rfl fld_111_3) ?_
     refine RunL.val (Val.load_one rfl (.head _) ty_3 rfl) rfl rfl rfl ?_
     refine sv ?_
     exact RunL.segEnd (Sub.cons rfl (Sub.skip rfl (Sub.skip rfl (Sub.skip rfl (Sub.skip rfl (Sub.same rfl (by rw [g125]) (Sub.refl _))))))) (List.Sublist.refl _)
   ) (fun g125=>by
     have g125':=g125
     try simp only [nH] at g125'
     iterate 3 refine RunL.no rfl rfl rfl ?_
     refine sv ?_
     exact RunL.segEnd (Sub.cons rfl (Sub.skip rfl (Sub.skip rfl (Sub.skip rfl (Sub.skip rfl (Sub.same rfl (by rw [g125]) (Sub.refl _))))))) (List.Sublist.refl _)
   ) ?_
   refine st ?_
   refine cn rfl ?_ ?_
   ·intro c6'
    refine st ?_
    refine RunC.ret ?_
    refine RunE.block_ret ?_
    refine RunE.pass_ret ?_
    refine RunE.pass_ret ?_
    refine RunE.block_ret ?_
    refine RunE.pass_ret ?_
    exact RunE.retP (.r1 rfl (.tmp rfl)) (by rw [any_yes (p:=badRp r.pl) hk hy (by unfold badRp;show (!within y.agent 0 ((r.terms.l.length:Int) - 1) || !within y.kind 0 ((r.prices.l.length:Int) - 1) || decide (y.first < 0) || decide (y.last < y.first) || decide (12≤y.last))=true;simp only [within,Bool.and_eq_true,Bool.and_eq_false_iff,decide_eq_true_eq,decide_eq_false_iff_not,Bool.or_eq_true,Bool.not_eq_true'] at c6' ⊢;omega)];simp)
   intro c6'
   refine st ?_
   refine lv (Val.add rfl rfl (IntWalk.i64_in _ ⟨by omega,by omega⟩)) ?_
   exact RunE.round (by omega) (any_step hk hy kI (by unfold badRp;show (!within y.agent 0 ((r.terms.l.length:Int) - 1) || !within y.kind 0 ((r.prices.l.length:Int) - 1) || decide (y.first < 0) || decide (y.last < y.first) || decide (12≤y.last))=false;simp only [within,Bool.and_eq_true,decide_eq_true_eq] at c6' ⊢;simp;omega)) rfl (Sub.consE (t:=5) rfl rfl (Sub.cons (t:=1) rfl (Sub.nil _))) (.cons (.there .here) rfl .nil)
  intro c5'
  obtain rfl:k=r.reports.l.length:=by omega
  rw [List.take_length] at kI
  refine RunC.exit ?_
  refine RunE.pass_exit ?_
  refine RunE.pass_exit ?_
  refine RunE.block_here ?_
  refine st ?_
  refine RunC.ret ?_
  exact RunE.retP (.r1 rfl (.tmp rfl)) (by rw [hA1,hA2,hB1,hB2,kI,decide_eq_true hpl,decide_eq_true hsl,decide_eq_true (show r.terms.l.length≤4 by omega),decide_eq_true (show r.prices.l.length≤4 by omega),decide_eq_true (show r.reports.l.length≤20 by omega)];rfl)
end Go.Proofs.YtleamcmljcdapaaGreatDoor
namespace Go.Bk
open Go Go.Eng Go.RowKit
def royStepR (x:Ry) (l:List Str):Option Ry :=
  if (lineV numO l (l.getD 0 [])).2=false then none else
  if l.getD 0 []=wAgent∧(lineV numO l (l.getD 0 [])).1.length=4∧x.prices.length=0∧x.reports.length=0 then
    some { x with terms:=x.terms++[⟨(lineV numO l (l.getD 0 [])).1.getD 0 0,(lineV numO l (l.getD 0 [])).1.getD 1 0,(lineV numO l (l.getD 0 [])).1.getD 2 0⟩],paid:=x.paid++[(lineV numO l (l.getD 0 [])).1.getD 3 0] } else
  if l.getD 0 []=wKind∧0 < (lineV numO l (l.getD 0 [])).1.length∧x.reports.length=0 then
    some { x with prices:=x.prices++[(lineV numO l (l.getD 0 [])).1.getD 0 0],shares:=x.shares++[(lineV numO l (l.getD 0 [])).1.drop 1] } else
  if l.getD 0 []=wReport∧(lineV numO l (l.getD 0 [])).1.length=4 then
    some { x with reports:=x.reports++[⟨(lineV numO l (l.getD 0 [])).1.getD 0 0,(lineV numO l (l.getD 0 [])).1.getD 1 0,(lineV numO l (l.getD 0 [])).1.getD 2 0,(lineV numO l (l.getD 0 [])).1.getD 3 0⟩] } else none
def royV (ls:List (List Str)):Ry×Bool :=
  if (ls.getD 0 []).length ≠ 1∨(ls.getD 0 []).getD 0 [] ≠ wRoyal then (zeroR,false) else
  match runL royStepR zeroR (ls.drop 1) with
  | some r=>(r,royalX r)
  | none=>(zeroR,false)
theorem step_agentR {x:Ry} {t:Tm} {p:Int} (h1:Big t.first∧Big t.upto∧Big t.beyond) (h2:Big p) (hp:x.prices=[]) (hr:x.reports=[]):royStepR x (agentL (t,p))=some { x with terms:=x.terms++[t],paid:=x.paid++[p] }:=by
  have e:lineV numO (agentL (t,p)) ((agentL (t,p)).getD 0 [])=([t.first,t.upto,t.beyond,p],true):=nums_text (w:=wAgent) (l:=[t.first,t.upto,t.beyond,p]) fun n hn=>by
    simp only [List.mem_cons,List.not_mem_nil,or_false] at hn
    rcases hn with rfl | rfl | rfl | rfl
    · exact h1.1
    · exact h1.2.1
    · exact h1.2.2
    · exact h2
  unfold royStepR
  rw [e,if_neg (by simp),if_pos ⟨rfl,rfl,by rw [hp];rfl,by rw [hr];rfl⟩]
  rfl
theorem step_kindR {x:Ry} {n:Int} {l:List Int} (h1:Big n) (h2:∀ m∈l,Big m) (hr:x.reports=[]):royStepR x (kindL (n,l))=some { x with prices:=x.prices++[n],shares:=x.shares++[l] }:=by
  have e:lineV numO (kindL (n,l)) ((kindL (n,l)).getD 0 [])=(n::l,true):=nums_text (w:=wKind) (l:=n::l) fun m hm=>by
    rcases List.mem_cons.1 hm with rfl | hm
    · exact h1
    · exact h2 m hm
  unfold royStepR
  rw [e,if_neg (by simp),if_neg (fun h=>absurd h.1 (show ¬ wKind=wAgent by decide)),if_pos ⟨rfl,by simp,by rw [hr];rfl⟩]
  rfl
theorem step_reportR {x:Ry} {t:Rp} (h:Big t.agent∧Big t.kind∧Big t.first∧Big t.last):royStepR x (reportL t)=some { x with reports:=x.reports++[t] }:=by
  have e:lineV numO (reportL t) ((reportL t).getD 0 [])=([t.agent,t.kind,t.first,t.last],true):=nums_text (w:=wReport) (l:=[t.agent,t.kind,t.first,t.last]) fun n hn=>by
    simp only [List.mem_cons,List.not_mem_nil,or_false] at hn
    rcases hn with rfl | rfl | rfl | rfl
    · exact h.1
    · exact h.2.1
    · exact h.2.2.1
    · exact h.2.2.2
  unfold royStepR
  rw [e,if_neg (by simp),if_neg (fun h=>absurd h.1 (show ¬ wReport=wAgent by decide)),if_neg (fun h=>absurd h.1 (show ¬ wReport=wKind by decide)),if_pos ⟨rfl,rfl⟩]
  rfl
theorem run_agentsR:∀ {ls:List (Tm×Int)} {x:Ry},(∀ l∈ls,(Big l.1.first∧Big l.1.upto∧Big l.1.beyond)∧Big l.2)→x.prices=[]→x.reports=[]→runL royStepR x (ls.map agentL)=some { x with terms:=x.terms++ls.map (·.1),paid:=x.paid++ls.map (·.2) }
  | [],x,_,_,_=>by simp [runL]
  | l::ls,x,h,hp,hr=>by
    obtain ⟨t,p⟩:=l
    have h0:=h (t,p) (by simp)
    rw [List.map_cons,runL,step_agentR h0.1 h0.2 hp hr]
    dsimp only
    have h9:=run_agentsR (ls:=ls) (x:={ x with terms:=x.terms++[t],paid:=x.paid++[p] }) (fun y hy=>h y (List.mem_cons_of_mem _ hy)) hp hr
    dsimp only at h9
    rw [h9]
    simp
theorem run_kindsR:∀ {ls:List (Int×List Int)} {x:Ry},(∀ l∈ls,Big l.1∧∀ m∈l.2,Big m)→x.reports=[]→runL royStepR x (ls.map kindL)=some { x with prices:=x.prices++ls.map (·.1),shares:=x.shares++ls.map (·.2) }
  | [],x,_,_=>by simp [runL]
  | l::ls,x,h,hr=>by
    obtain ⟨n,m⟩:=l
    have h0:=h (n,m) (by simp)
    rw [List.map_cons,runL,step_kindR h0.1 h0.2 hr]
    dsimp only
    have h9:=run_kindsR (ls:=ls) (x:={ x with prices:=x.prices++[n],shares:=x.shares++[m] }) (fun y hy=>h y (List.mem_cons_of_mem _ hy)) hr
    dsimp only at h9
    rw [h9]
    simp
theorem run_reportsR:∀ {ls:List Rp} {x:Ry},(∀ l∈ls,Big l.agent∧Big l.kind∧Big l.first∧Big l.last)→runL royStepR x (ls.map reportL)=some { x with reports:=x.reports++ls }
  | [],x,_=>by simp [runL]
  | l::ls,x,h=>by
    rw [List.map_cons,runL,step_reportR (h l (by simp))]
    dsimp only
    rw [run_reportsR (fun y hy=>h y (List.mem_cons_of_mem _ hy))]
    simp
theorem roy_big {r:Ry} (h:royalX r=true):r.paid.length=r.terms.length∧r.shares.length=r.prices.length∧(∀ t∈r.terms,Big t.first∧Big t.upto∧Big t.beyond)∧(∀ n∈r.paid,Big n)∧(∀ n∈r.prices,Big n)∧(∀ l∈r.shares,∀ n∈l,Big n)∧∀ x∈r.reports,Big x.agent∧Big x.kind∧Big x.first∧Big x.last:=by
  unfold royalX at h
  simp only [Bool.and_eq_true,Bool.not_eq_true',decide_eq_true_eq] at h
  obtain ⟨⟨⟨⟨⟨⟨⟨⟨⟨h1,h2⟩,h3⟩,h4⟩,h5⟩,h6⟩,h7⟩,h8⟩,h9⟩,h10⟩:=h
  refine ⟨h2,h4,fun t ht=>?_,fun n hn=>?_,fun n hn=>?_,fun l hl n hn=>?_,fun x hx=>?_⟩
  · have g:=any_no h6 ht
    simp only [badTm,within,Bool.or_eq_false_iff,Bool.not_eq_false',Bool.and_eq_true,decide_eq_true_eq] at g
    exact ⟨⟨by omega,by omega⟩,⟨by omega,by omega⟩,⟨by omega,by omega⟩⟩
  · have g:=any_no h7 hn
    simp only [within,Bool.not_eq_false',Bool.and_eq_true,decide_eq_true_eq] at g
    exact ⟨by omega,by omega⟩
  · have g:=any_no h8 hn
    simp only [within,Bool.not_eq_false',Bool.and_eq_true,decide_eq_true_eq] at g
    exact ⟨by omega,by omega⟩
  · have g:=any_no h9 hl
    simp only [sharingX,Bool.not_eq_false',Bool.and_eq_true,List.all_eq_true] at g
    have g2:=g.1.1 n hn
    simp only [within,Bool.and_eq_true,decide_eq_true_eq] at g2
    exact ⟨by omega,by omega⟩
  · have g:=any_no h10 hx
    simp only [badRp,within,Bool.or_eq_false_iff,Bool.not_eq_false',Bool.and_eq_true,decide_eq_true_eq,decide_eq_false_iff_not] at g
    exact ⟨⟨by omega,by omega⟩,⟨by omega,by omega⟩,⟨by omega,by omega⟩,⟨by omega,by omega⟩⟩
theorem royV_text {r:Ry} (h:royalX r=true):royV (royLs r)=(r,true):=by
  obtain ⟨hpl,hsl,h1,h2,h3,h4,h5⟩:=roy_big h
  have ha:∀ l∈r.terms.zip r.paid,(Big l.1.first∧Big l.1.upto∧Big l.1.beyond)∧Big l.2:=fun l hl=>by
    have g:=List.of_mem_zip (a:=l.1) (b:=l.2) hl
    exact ⟨h1 _ g.1,h2 _ g.2⟩
  have hk:∀ l∈r.prices.zip r.shares,Big l.1∧∀ m∈l.2,Big m:=fun l hl=>by
    have g:=List.of_mem_zip (a:=l.1) (b:=l.2) hl
    exact ⟨h3 _ g.1,h4 _ g.2⟩
  have e:(royLs r).drop 1=(r.terms.zip r.paid).map agentL++(r.prices.zip r.shares).map kindL++r.reports.map reportL:=by simp [royLs]
  have e0:(royLs r).getD 0 []=[wRoyal]:=rfl
  unfold royV
  rw [e0,if_neg (by simp),e,runL_app,runL_app,run_agentsR ha rfl rfl]
  dsimp only
  rw [run_kindsR hk rfl]
  dsimp only
  rw [run_reportsR h5]
  have e1:(r.terms.zip r.paid).map (·.1)=r.terms:=List.map_fst_zip (by omega)
  have e2:(r.terms.zip r.paid).map (·.2)=r.paid:=List.map_snd_zip (by omega)
  have e3:(r.prices.zip r.shares).map (·.1)=r.prices:=List.map_fst_zip (by omega)
  have e4:(r.prices.zip r.shares).map (·.2)=r.shares:=List.map_snd_zip (by omega)
  simp only [e1,e2,e3,e4,zeroR,List.nil_append]
  rw [h]
theorem four {α:Type} {l:List α} (h:l.length=4):∃ a b c d,l=[a,b,c,d]:=by
  match l,h with
  | [a,b,c,d],_=>exact ⟨a,b,c,d,rfl⟩
structure RoyI (x:Ry) (ls:List (List Str)):Prop where
  lines:royLs x=[wRoyal]::ls
  paid:x.terms.length=x.paid.length
  shares:x.prices.length=x.shares.length
theorem royI_step {x y:Ry} {ls:List (List Str)} {l:List Str} (hne:l ≠ []) (h:RoyI x ls) (hs:royStepR x l=some y):RoyI y (ls++[l]):=by
  obtain ⟨h1,h2,h3⟩:=h
  unfold royStepR at hs
  split at hs
  · cases hs
  · rename_i hb
    have hi:=nums_inv hne (pair_eta (by simpa using hb:(lineV numO l (l.getD 0 [])).2=true))
    generalize (lineV numO l (l.getD 0 [])).1=ns at hs hi
    split at hs
    · rename_i hc
      obtain ⟨c1,c2,c3,c4⟩:=hc
      cases hs
      obtain ⟨a,b,c,d,rfl⟩:=four c2
      refine ⟨?_,by simp [h2],h3⟩
      have e3:x.prices=[]:=List.length_eq_zero_iff.1 c3
      have e4:x.reports=[]:=List.length_eq_zero_iff.1 c4
      unfold royLs at h1 ⊢
      rw [e3,e4] at h1
      dsimp only
      rw [e3,e4,List.zip_append h2]
      simp only [List.zip_nil_left,List.map_nil,List.append_nil,List.map_append,List.cons_append,List.nil_append,List.cons.injEq,true_and] at h1 ⊢
      rw [h1]
      congr 1
      rw [hi.1,c1]
      rfl
    · split at hs
      · rename_i hc
        obtain ⟨c1,c2,c3⟩:=hc
        cases hs
        refine ⟨?_,h2,by simp [h3]⟩
        have e4:x.reports=[]:=List.length_eq_zero_iff.1 c3
        unfold royLs at h1 ⊢
        rw [e4] at h1
        dsimp only
        rw [e4,List.zip_append h3]
        simp only [List.map_nil,List.append_nil,List.map_append,List.cons_append,List.nil_append,List.cons.injEq,true_and] at h1 ⊢
        rw [← List.append_assoc,h1]
        congr 1
        rw [hi.1,c1]
        cases ns with
        | nil=>exact absurd c2 (by simp)
        | cons n ns=>rfl
      · split at hs
        · rename_i hc
          obtain ⟨c1,c2⟩:=hc
          cases hs
          obtain ⟨a,b,c,d,rfl⟩:=four c2
          refine ⟨?_,h2,h3⟩
          unfold royLs at h1 ⊢
          dsimp only
          rw [List.map_append,← List.append_assoc,h1,List.cons_append]
          congr 2
          rw [hi.1,c1]
          rfl
        · cases hs
theorem royI_run:∀ {ls ps:List (List Str)} {x y:Ry},(∀ l∈ls,l ≠ [])→RoyI x ps→runL royStepR x ls=some y→RoyI y (ps++ls)
  | [],ps,x,y,_,h,hr=>by cases hr;rw [List.append_nil];exact h
  | l::ls,ps,x,y,hne,h,hr=>by
    rw [runL] at hr
    split at hr
    · rename_i z hz
      have h1:=royI_step (hne l (by simp)) h hz
      have h2:=royI_run (fun q hq=>hne q (List.mem_cons_of_mem _ hq)) h1 hr
      rw [List.append_assoc] at h2
      exact h2
    · cases hr
theorem royV_inv {ls:List (List Str)} (h0:ls ≠ []) (hne:∀ l∈ls,l ≠ []) (h:(royV ls).2=true):royalX (royV ls).1=true∧royLs (royV ls).1=ls:=by
  unfold royV at h ⊢
  split at h
  · cases h
  · rename_i hc
    rw [if_neg hc]
    simp only [not_or,ne_eq,Decidable.not_not] at hc
    split at h
    · rename_i r hr
      refine ⟨h,?_⟩
      have h1:=royI_run (ps:=[]) (fun l hl=>hne l (List.mem_of_mem_drop hl)) ⟨rfl,rfl,rfl⟩ hr
      cases ls with
      | nil=>exact absurd rfl h0
      | cons a b =>
        have e:a=[wRoyal]:=by
          obtain ⟨c1,c2⟩:=hc
          match a,c1,c2 with
          | [w],_,c2=>exact congrArg (fun x=>[x]) c2
        rw [h1.lines,e]
        rfl
    · cases h
theorem roy_says {ls:List (List Str)} (h0:ls ≠ []) (hne:∀ l∈ls,l ≠ []):LinesSay royalX royLs ls (royV ls).1 (royV ls).2 :=
  ⟨fun h=>royV_inv h0 hne h,fun h y hy e=>by rw [← e,royV_text hy] at h;cases h⟩
end Go.Bk
namespace Go.Proofs.YtleamcmljcdapaaGreatDoor
open Go Go.Eng
theorem ap_84:apB Tryz.prog 84=some (166,1,24):=by kernel_rfl
theorem ent_105:Enters Tryz.prog 105:=enters_of Tryz.func105 (by kernel_rfl) rfl
theorem ent_106:Enters Tryz.prog 106:=enters_of Tryz.func106 (by kernel_rfl) rfl
theorem sl_84:slB Tryz.prog 84=some (166,1):=by kernel_rfl
theorem zero_166:zeroB Tryz.prog 166=some [.slice none 0 0]:=by kernel_rfl
end Go.Proofs.YtleamcmljcdapaaGreatDoor
namespace Go.Proofs.YtleamcmljcdapaaGreatDoor
open Go Go.Eng
theorem ent_46:Enters Tryz.prog 46:=enters_of Tryz.func46 (by kernel_rfl) rfl
end Go.Proofs.YtleamcmljcdapaaGreatDoor
namespace Go.Proofs.YtleamcmljcdapaaGreatDoor
open Go Go.Eng
theorem ent_51:Enters Tryz.prog 51:=enters_of Tryz.func51 (by kernel_rfl) rfl
end Go.Proofs.YtleamcmljcdapaaGreatDoor
namespace Go.Proofs.YtleamcmljcdapaaGreatDoor
open Go Go.Eng
theorem ent_120:Enters Tryz.prog 120:=enters_of Tryz.func120 (by kernel_rfl) rfl
theorem ent_53:Enters Tryz.prog 53:=enters_of Tryz.func53 (by kernel_rfl) rfl
end Go.Proofs.YtleamcmljcdapaaGreatDoor
namespace Go.Bk
open Go Go.Eng Go.RowKit
def royK (r:Ry) (i j k:Nat):Str:=lineS [wRoyal]++(((r.terms.zip r.paid).take i).map fun x=>agentS x.1 x.2).flatten++(((r.prices.zip r.shares).take j).map fun x=>kindS x.1 x.2).flatten++((r.reports.take k).map reportS).flatten
theorem royK_le (r:Ry) (i j k:Nat):(royK r i j k).length≤(royalS r).length:=by
  have key:∀ {α:Type} (f:α→Str) (l:List α) (n:Nat),((l.take n).map f).flatten.length≤(l.map f).flatten.length:=fun f l n=>by
    conv=>rhs;rw [← List.take_append_drop n l]
    rw [List.map_append,List.flatten_append,List.length_append]
    omega
  have h1:=key (fun x:Tm×Int=>agentS x.1 x.2) (r.terms.zip r.paid) i
  have h2:=key (fun x:Int×List Int=>kindS x.1 x.2) (r.prices.zip r.shares) j
  have h3:=key reportS r.reports k
  unfold royK royalS
  simp only [List.length_append]
  omega
theorem zip_get {α β:Type} {l:List α} {m:List β} {k:Nat} (h:k < l.length) (h2:k < m.length) {a:α} {b:β} (ha:l[k]=a) (hb:m[k]=b):(l.zip m)[k]'(by rw [List.length_zip];omega)=(a,b):=by
  rw [List.getElem_zip,ha,hb]
theorem royK_a {r:Ry} {i:Nat} (h:i < r.terms.length) (h2:i < r.paid.length) {t:Tm} {p:Int} (ht:r.terms[i]=t) (hp:r.paid[i]=p):royK r (i + 1) 0 0=royK r i 0 0++agentS t p:=by
  unfold royK
  rw [List.take_succ_eq_append_getElem (by rw [List.length_zip];omega),zip_get h h2 ht hp]
  simp
theorem royK_k {r:Ry} {n j:Nat} (h:j < r.prices.length) (h2:j < r.shares.length) {t:Int} {p:List Int} (ht:r.prices[j]=t) (hp:r.shares[j]=p):royK r n (j + 1) 0=royK r n j 0++kindS t p:=by
  unfold royK
  rw [List.take_succ_eq_append_getElem (l:=r.prices.zip r.shares) (by rw [List.length_zip];omega),zip_get h h2 ht hp]
  simp
theorem royK_r {r:Ry} {n m k:Nat} (h:k < r.reports.length) {t:Rp} (ht:r.reports[k]=t):royK r n m (k + 1)=royK r n m k++reportS t:=by
  unfold royK
  rw [List.take_succ_eq_append_getElem (l:=r.reports) h,ht]
  simp
theorem royK_0 (r:Ry):royK r 0 0 0=[114,111,121,97,108,10]:=by
  unfold royK
  simp [lineS,Lib.join_one,wRoyal,nl]
theorem royK_all {r:Ry} (h:r.paid.length=r.terms.length) (h2:r.shares.length=r.prices.length):royK r r.terms.length r.prices.length r.reports.length=royalS r:=by
  unfold royK royalS
  rw [List.take_of_length_le (by rw [List.length_zip];omega),List.take_of_length_le (by rw [List.length_zip];omega),List.take_length]
theorem roy_share {r:RyA} (h:royalX r.pl=true) {x:SA Int} (hx:x∈r.shares.l):0 < x.l.length:=by
  unfold royalX at h
  simp only [Bool.and_eq_true,Bool.not_eq_true',decide_eq_true_eq] at h
  have g:=any_no h.1.2 (List.mem_map.2 ⟨x,hx,rfl⟩:x.l∈r.pl.shares)
  simp only [sharingX,within,Bool.not_eq_false',Bool.and_eq_true,decide_eq_true_eq] at g
  omega
theorem in4 {a b c d:Int} (ha:In64 a) (hb:In64 b) (hc:In64 c) (hd:In64 d):∀ n∈[a,b,c,d],In64 n:=fun n hn=>by
  simp only [List.mem_cons,List.not_mem_nil,or_false] at hn
  rcases hn with rfl | rfl | rfl | rfl <;> assumption
theorem in_one {l:List Int}:∀ u∈(l.map intC).flatten,u.oneCell'=true:=fun u hu=>by
  obtain ⟨a,ha,hu⟩:=List.mem_flatten.1 hu
  obtain ⟨x,_,rfl⟩:=List.mem_map.1 ha
  simp only [intC,List.mem_singleton] at hu
  subst hu
  rfl
end Go.Bk
namespace Go.Proofs.YtleamcmljcdapaaGreatDoor
open Go Go.Eng Go.Bk Go.RowKit

theorem rnumsOwn_calls (wd:Str) (n:Int) (l:List Int) (z:Eng.Own) (hz:OwnOk 1 z (1 + l.length) ((n::l).map intC).flatten) (w:World) (hL:Lw Tryz.prog w) (hw:wd.length≤100) (hat:∀ b o,(b,o)∈ownB 3 z ((n::l).map intC).flatten→w.heap[b]? = some o) (hl:l.length≤100) (h64:∀ m∈n::l,In64 m):Calls Tryz.prog 43 #[.string (bs wd),ownV z (1 + l.length)] w (Pure (.string (bs (lineS (wd::(n::l).map Lib.itoa)))) w):=by
  have h1:=rnums_calls wd ⟨n::l,ownQ z,ownK z,0,ownC z⟩ w hL hw (own_sl (f:=intC) (e:=3) (fun _=>rfl) (by decide) hz hat) (by show l.length + 1≤_;omega) h64
  have e:(SA.mk (n::l) (ownQ z) (ownK z) 0 (ownC z)).v=ownV z (1 + l.length):=by
    rw [ownV_slice hz]
    show Value.slice _ (l.length + 1) _=_
    rw [Nat.add_comm]
  rw [e] at h1
  exact h1
set_option maxHeartbeats 2000000 in
theorem rWriteRoyal_calls (r:RyA) (hs:RySm r) (W:World) (hL:Lw Tryz.prog W) (hR:RyOk W r):Calls Tryz.prog 20 #[r.v] W (Pure (writeV (royalX r.pl) (royalS r.pl)) W):=by
  have hK:=royK_le r.pl
  refine calls_start Tryz.func20 rfl rfl ?_
  refine st ?_
  refine RunL.new (New.box rfl) rfl rfl rfl (fun b1=>?_)
  refine st ?_
  refine lv (Val.load_agg rfl (.head _) ty_35 rfl) ?_
  refine RunL.callP (isCall_func rfl ent_35) rfl rfl rfl (fun w hm=>rRoyal_calls r hs w (hR.mono0 hm)) ?_
  refine st ?_
  refine cn rfl ?_ ?_
  ·intro c0'
   refine st ?_
   refine RunC.ret ?_
   refine RunE.pass_ret ?_
   exact RunE.retP (.r2 rfl (.tmp rfl) (.tmp rfl)) (by have hX:royalX r.pl=false:=(by simpa using c0');rw [hX];rfl)
  intro c0'
  have hX:royalX r.pl=true:=by simpa using c0'
  have hv:=roy_v hX
  have h4:=roy_small hX
  have hpl:r.paid.l.length=r.terms.l.length:=hv.paid
  have hsl:r.shares.l.length=r.prices.l.length:=hv.shares
  have q1:=hv.terms
  have q2:=hv.prices
  have q3:=hv.reports
  refine st ?_
  refine RunC.loopK (r.terms.l.length) (fun k q=>(5,.int .i64 (k:Int))::(4,.string (bs (royK r.pl k 0 0)))::q) (fun _=>_) (fun _=>[]) (fun _=>True) trivial rfl (Sub.consE (t:=5) rfl rfl (Sub.consE (t:=4) rfl (by rw [royK_0];rfl) (Sub.cons (t:=1) rfl (Sub.nil _)))) (.cons .here rfl .nil) ?_
  intro k kN kI
  clear kI
  refine st ?_
  refine lv (Val.fieldAddr rfl fld_35_0) ?_
  refine lv (Val.load_one rfl (.head _) ty_31 rfl) ?_
  refine lv (Val.len_sl rfl sl_31) ?_
  refine cn rfl ?_ ?_
  ·intro c1'
   have hk:k < r.terms.l.length:=by omega
   have hk2:k < r.paid.l.length:=by omega
   obtain ⟨y,hy⟩:∃ y,r.terms.l[k]=y:=⟨_,rfl⟩
   obtain ⟨p,hp⟩:∃ p,r.paid.l[k]=p:=⟨_,rfl⟩
   have hym:y∈r.terms.l:=hy ▸ List.getElem_mem hk
   have hpm:p∈r.paid.l:=hp ▸ List.getElem_mem hk2
   refine st ?_
   refine RunC.draw 26 fol_ (.cons .here rfl .nil) ?_
   refine va 0 rfl (Val.pure rfl) rfl rfl rfl (.cons .here rfl .nil) rfl ?_
   refine va 1 rfl (Val.fieldAddr rfl fld_35_0) rfl rfl rfl (.cons .here rfl .nil) rfl ?_
   refine va 2 rfl (Val.load_one rfl (.head _) ty_31 rfl) rfl rfl rfl (.cons .here rfl .nil) rfl ?_
   refine va 3 rfl (Val.pure rfl) rfl rfl rfl (.cons .here rfl .nil) rfl ?_
   refine va 4 rfl (Val.indexAddr_slp rfl rfl sl_31 (by omega) (by omega) (Sl.ptrM hR.terms hk)) rfl rfl rfl (.cons .here rfl .nil) rfl ?_
   refine va 5 rfl (Val.fieldAddr rfl fld_109_0) rfl rfl rfl (.cons .here rfl .nil) rfl ?_
   refine va 6 rfl (Val.load_gen rfl (fun w hm=>Sl.cellX hR.terms hm (by simp) ty_3 hk hy (j:=0) (by decide) rfl)) rfl rfl rfl (.cons .here rfl .nil) rfl ?_
   refine va 7 rfl (Val.fieldAddr rfl fld_35_0) rfl rfl rfl (.cons .here rfl .nil) rfl ?_
   refine va 8 rfl (Val.load_one rfl (.head _) ty_31 rfl) rfl rfl rfl (.cons .here rfl .nil) rfl ?_
   refine va 9 rfl (Val.pure rfl) rfl rfl rfl (.cons .here rfl .nil) rfl ?_
   refine va 10 rfl (Val.indexAddr_slp rfl rfl sl_31 (by omega) (by omega) (Sl.ptrM hR.terms hk)) rfl rfl rfl (.cons .here rfl .nil) rfl ?_
   refine va 11 rfl (Val.fieldAddr rfl fld_109_1) rfl rfl rfl (.cons .here rfl .nil) rfl ?_
   refine va 12 rfl (Val.load_gen rfl (fun w hm=>Sl.cellX hR.terms hm (by simp) ty_3 hk hy (j:=1) (by decide) rfl)) rfl rfl rfl (.cons .here rfl .nil) rfl ?_
   refine va 13 rfl (Val.fieldAddr rfl fld_35_0) rfl rfl rfl (.cons .here rfl .nil) rfl ?_
   refine va 14 rfl (Val.load_one rfl (.head _) ty_31 rfl) rfl rfl rfl (.cons .here rfl .nil) rfl ?_
   refine va 15 rfl (Val.pure rfl) rfl rfl rfl (.cons .here rfl .nil) rfl ?_
   refine va 16 rfl (Val.indexAddr_slp rfl rfl sl_31 (by omega) (by omega) (Sl.ptrM hR.terms hk)) rfl rfl rfl (.cons .here rfl .nil) rfl ?_
   refine va 17 rfl (Val.fieldAddr rfl fld_109_2) rfl rfl rfl (.cons .here rfl .nil) rfl ?_
   refine va 18 rfl (Val.load_gen rfl (fun w hm=>Sl.cellX hR.terms hm (by simp) ty_3 hk hy (j:=2) (by decide) rfl)) rfl rfl rfl (.cons .here rfl .nil) rfl ?_
   refine va 19 rfl (Val.fieldAddr rfl fld_35_4) rfl rfl rfl (.cons .here rfl .nil) rfl ?_
   refine va 20 rfl (Val.load_one rfl (.head _) ty_27 rfl) rfl rfl rfl (.cons .here rfl .nil) rfl ?_
   refine va 21 rfl (Val.pure rfl) rfl rfl rfl (.cons .here rfl .nil) rfl ?_
   refine va 22 rfl (Val.indexAddr_slp rfl rfl sl_27 (by omega) (by omega) (Sl.ptrM hR.paid hk2)) rfl rfl rfl (.cons .here rfl .nil) rfl ?_
   refine va 23 rfl (Val.load_gen rfl (fun w hm=>Sl.loadM1 hR.paid (by decide) hm (by simp) ty_3 hk2 (v:=.int .i64 p) (by simp [intC,hp]))) rfl rfl rfl (.cons .here rfl .nil) rfl ?_
   refine RunA.one (i:=24) (by kernel_rfl) (by kernel_rfl) ?_
   refine RunI.new rfl (New.buildSlice (parts:=[(0,.tmp 25),(1,.tmp 31),(2,.tmp 37),(3,.tmp 42)]) rfl sl_27 zero_3 rfl rfl rfl rfl) rfl rfl rfl (fun b43=>(RunK.toA (.cons .here rfl (.cons .here rfl .nil)) (.cons (.there .here) rfl .nil) rfl ?_))
   refine RunA.one (i:=25) (by kernel_rfl) (by kernel_rfl) ?_
   refine RunI.callP rfl (isCall_func rfl ent_43) rfl rfl rfl (fun w hm=>rnums_calls wAgent ⟨[y.first,y.upto,y.beyond,p],some ⟨b43,0,none⟩,b43,0,4⟩ w (hL.mono hm) (by decide) (Sl.rowsR (xs:=[y.first,y.upto,y.beyond,p].map intC) (t:=[]) (hm.at (.head _)) (by simp [intC])) (by show 4≤_;decide) (in4 (hv.tm y hym).1 (hv.tm y hym).2.1 (hv.tm y hym).2.2 (hv.pd p hpm))) (RunK.toA (.cons .here rfl (.cons .here rfl .nil)) (.cons .here rfl (.cons .here rfl .nil)) rfl ?_)
   refine RunA.toB (by kernel_rfl) ?_
   refine RunB.one (i:=26) (by kernel_rfl) ?_
   refine RunI.val rfl (Val.strAdd rfl rfl (by rw [← List.length_append];exact Nat.le_trans (Nat.le_of_eq (congrArg List.length (royK_a (r:=r.pl) hk hk2 hy hp).symm)) (by have:=hK (k + 1) 0 0;omega))) rfl rfl rfl (RunK.toB ?_)
   refine RunB.one (i:=27) (by kernel_rfl) ?_
   refine RunI.val rfl (Val.pure rfl) rfl rfl rfl (RunK.toB ?_)
   refine RunB.done (by kernel_rfl) ?_
   refine st ?_
   refine lv (Val.add rfl rfl (IntWalk.i64_in _ ⟨by omega,by omega⟩)) ?_
   exact RunE.round (by omega) trivial rfl (Sub.consE (t:=5) rfl rfl (Sub.consE (t:=4) rfl (by rw [royK_a (r:=r.pl) hk hk2 hy hp];rfl) (Sub.cons (t:=1) rfl (Sub.nil _)))) (.cons (.there .here) rfl .nil)
  intro c1'
  obtain rfl:k=r.terms.l.length:=by omega
  refine RunC.exit ?_
  refine RunE.pass_exit ?_
  refine RunE.pass_exit ?_
  refine RunE.block_here ?_
  refine st ?_
  refine RunC.loopK (r.prices.l.length) (fun k q=>(6,.int .i64 (k:Int))::(4,.string (bs (royK r.pl r.terms.l.length k 0)))::q) (fun _=>_) (fun _=>[]) (fun _=>True) trivial rfl (Sub.consE (t:=6) rfl rfl (Sub.consE (t:=4) rfl rfl (Sub.cons (t:=1) rfl (Sub.nil _)))) (.cons .here rfl .nil) ?_
  intro k kN kI
  clear kI
  refine st ?_
  refine lv (Val.fieldAddr rfl fld_35_1) ?_
  refine lv (Val.load_one rfl (.head _) ty_27 rfl) ?_
  refine lv (Val.len_sl rfl sl_27) ?_
  refine cn rfl ?_ ?_
  ·intro c2'
   have hk:k < r.prices.l.length:=by omega
   have hk2:k < r.shares.l.length:=by omega
   obtain ⟨n,hn⟩:∃ y,r.prices.l[k]=y:=⟨_,rfl⟩
   obtain ⟨sh,hsh⟩:∃ p,r.shares.l[k]=p:=⟨_,rfl⟩
   have hnm:n∈r.prices.l:=hn ▸ List.getElem_mem hk
   have hsm:sh∈r.shares.l:=hsh ▸ List.getElem_mem hk2
   have hs5:=(hv.sh sh hsm).1
   have hk3:k < r.pl.shares.length:=(by show k < (r.shares.l.map (·.l)).length;rw [List.length_map];exact hk2)
   have hsh2:r.pl.shares[k]=sh.l:=(by show (r.shares.l.map (·.l))[k]'(by rw [List.length_map];exact hk2)=_;rw [List.getElem_map,hsh])
   have hs1:0 < sh.l.length:=roy_share hX hsm
   refine st ?_
   refine RunC.draw 14 fol_ (.cons .here rfl .nil) ?_
   refine va 0 rfl (Val.pure rfl) rfl rfl rfl (.cons .here rfl .nil) rfl ?_
   refine va 1 rfl (Val.fieldAddr rfl fld_35_1) rfl rfl rfl (.cons .here rfl .nil) rfl ?_
   refine va 2 rfl (Val.load_one rfl (.head _) ty_27 rfl) rfl rfl rfl (.cons .here rfl .nil) rfl ?_
   refine va 3 rfl (Val.pure rfl) rfl rfl rfl (.cons .here rfl .nil) rfl ?_
   refine va 4 rfl (Val.indexAddr_slp rfl rfl sl_27 (by omega) (by omega) (Sl.ptrM hR.prices hk)) rfl rfl rfl (.cons .here rfl .nil) rfl ?_
   refine va 5 rfl (Val.load_gen rfl (fun w hm=>Sl.loadM1 hR.prices (by decide) hm (by simp) ty_3 hk (v:=.int .i64 n) (by simp [intC,hn]))) rfl rfl rfl (.cons .here rfl .nil) rfl ?_
   refine va 7 rfl (Val.fieldAddr rfl fld_35_2) rfl rfl rfl (.cons .here rfl .nil) rfl ?_
   refine va 8 rfl (Val.load_one rfl (.head _) ty_32 rfl) rfl rfl rfl (.cons .here rfl .nil) rfl ?_
   refine va 9 rfl (Val.pure rfl) rfl rfl rfl (.cons .here rfl .nil) rfl ?_
   refine va 10 rfl (Val.indexAddr_slp rfl rfl sl_32 (by omega) (by omega) (Sl.ptrM hR.shares hk2)) rfl rfl rfl (.cons .here rfl .nil) rfl ?_
   refine va 11 rfl (Val.load_gen rfl (fun w hm=>Sl.loadM1 hR.shares (by decide) hm (by simp) ty_27 hk2 (v:=sh.v) (by simp [SA.cell,hsh]))) rfl rfl rfl (.cons .here rfl .nil) rfl ?_
   refine RunA.one (i:=6) (by kernel_rfl) (by kernel_rfl) ?_
   refine RunI.new rfl (New.buildSlice (parts:=[(0,.tmp 58)]) rfl sl_27 zero_3 rfl rfl rfl rfl) rfl rfl rfl (fun b59=>(RunK.toA (.cons (.there .here) rfl .nil) (.cons .here rfl .nil) rfl ?_))
   refine RunA.one (i:=12) (by kernel_rfl) (by kernel_rfl) ?_
   refine RunI.keep (Sub.refl _) (.cons (.there .here) rfl (.cons .here rfl .nil)) ?_
   refine RunI.append (A:=[(b1,_)]) (B:=_) (x:=(some (b59,1,[]))) (ys:=(sh.l.map intC).flatten) rfl ap_27 rfl rfl rfl ⟨rfl,fun h=>(by cases h),fun b c r h=>by cases h;exact ⟨Nat.le_refl _,by decide,rfl⟩⟩ (flat_len (f:=intC) (sz:=1) (fun _=>rfl) sh.l) (fun h=>by have h9:=(hR.rows sh hsm).ptr (i:=0) (by simpa using hs1);rw [h9] at h;cases h) (fun w hm=>(SA.ok.mono0 (hR.rows sh hsm) (by decide) hm).flat (by decide)) in_one (by simp only [maxLen];omega) (by omega) rfl (fun z65 hz65=>(RunK.toA (.cons .here rfl .nil) (.cons .here rfl .nil) rfl ?_))
   refine RunA.one (i:=13) (by kernel_rfl) (by kernel_rfl) ?_
   have hz65o:OwnOk 1 z65 (1 + sh.l.length) ((n::sh.l).map intC).flatten:=hz65
   refine RunI.callP rfl (isCall_func rfl ent_43) rfl rfl rfl (fun w hm=>rnumsOwn_calls wKind n sh.l z65 hz65o w (hL.mono hm) (by decide) (fun b o h=>hm.at (.tail _ ((by first | exact List.mem_append_left _ h | exact List.mem_append_right _ (List.mem_append_left _ h))))) (by omega) (fun m hm2=>by rcases List.mem_cons.1 hm2 with rfl | hm2;exact hv.pr _ hnm;exact (hv.sh sh hsm).2 m hm2)) (RunK.toA (.cons .here rfl .nil) (.cons .here rfl .nil) rfl ?_)
   refine RunA.toB (by kernel_rfl) ?_
   refine RunB.one (i:=14) (by kernel_rfl) ?_
   refine RunI.val rfl (Val.strAdd rfl rfl (by rw [← List.length_append];exact Nat.le_trans (Nat.le_of_eq (congrArg List.length (royK_k (r:=r.pl) (n:=r.terms.l.length) hk hk3 hn hsh2).symm)) (by have:=hK r.terms.l.length (k + 1) 0;omega))) rfl rfl rfl (RunK.toB ?_)
   refine RunB.one (i:=15) (by kernel_rfl) ?_
   refine RunI.val rfl (Val.pure rfl) rfl rfl rfl (RunK.toB ?_)
   refine RunB.done (by kernel_rfl) ?_
   refine st ?_
   refine lv (Val.add rfl rfl (IntWalk.i64_in _ ⟨by omega,by omega⟩)) ?_
   exact RunE.round (by omega) trivial rfl (Sub.consE (t:=6) rfl rfl (Sub.consE (t:=4) rfl (by rw [royK_k (r:=r.pl) hk hk3 hn hsh2];rfl) (Sub.cons (t:=1) rfl (Sub.nil _)))) (.cons .here rfl .nil)
  intro c2'
  obtain rfl:k=r.prices.l.length:=by omega
  refine RunC.exit ?_
  refine RunE.pass_exit ?_
  refine RunE.pass_exit ?_
  refine RunE.block_here ?_
  refine st ?_
  refine RunC.loopK (r.reports.l.length) (fun k q=>(7,.int .i64 (k:Int))::(4,.string (bs (royK r.pl r.terms.l.length r.prices.l.length k)))::q) (fun _=>_) (fun _=>[]) (fun _=>True) trivial rfl (Sub.consE (t:=7) rfl rfl (Sub.consE (t:=4) rfl rfl (Sub.cons (t:=1) rfl (Sub.nil _)))) (.cons .here rfl .nil) ?_
  intro k kN kI
  clear kI
  refine st ?_
  refine lv (Val.fieldAddr rfl fld_35_3) ?_
  refine lv (Val.load_one rfl (.head _) ty_33 rfl) ?_
  refine lv (Val.len_sl rfl sl_33) ?_
  refine cn rfl ?_ ?_
  ·intro c3'
   have hk:k < r.reports.l.length:=by omega
   obtain ⟨x,hx⟩:∃ y,r.reports.l[k]=y:=⟨_,rfl⟩
   have hxv:=hv.rp x (hx ▸ List.getElem_mem hk)
   refine st ?_
   refine lv (Val.fieldAddr rfl fld_35_3) ?_
   refine lv (Val.load_one rfl (.head _) ty_33 rfl) ?_
   refine lv (Val.indexAddr_slp rfl rfl sl_33 (by omega) (by omega) (Sl.ptrM hR.reports hk)) ?_
   refine lv (Val.load_gen rfl (fun w hm=>Sl.loadX hR.reports (by decide) hm (by simp) ty_111 hk hx)) ?_
   refine RunL.new (New.alloc zero_111) rfl rfl rfl (fun b8=>?_)
   refine RunL.sto (Sto.store rfl rfl .here ty_111 rfl rfl) rfl rfl ?_
   refine st ?_
   refine lv (Val.fieldAddr rfl fld_111_0) ?_
   refine lv (Val.load_one rfl (.head _) ty_3 rfl) ?_
   refine lv (Val.fieldAddr rfl fld_111_1) ?_
   refine lv (Val.load_one rfl (.head _) ty_3 rfl) ?_
   refine lv (Val.fieldAddr rfl fld_111_2) ?_
   refine lv (Val.load_one rfl (.head _) ty_3 rfl) ?_
   refine lv (Val.fieldAddr rfl fld_111_3) ?_
   refine lv (Val.load_one rfl (.head _) ty_3 rfl) ?_
   refine RunL.new (New.buildSlice (parts:=[(0,.tmp 82),(1,.tmp 84),(2,.tmp 86),(3,.tmp 88)]) rfl sl_27 zero_3 rfl rfl rfl rfl) rfl rfl rfl (fun b89=>?_)
   refine RunL.callP (isCall_func rfl ent_43) rfl rfl rfl (fun w hm=>rnums_calls wReport ⟨[x.agent,x.kind,x.first,x.last],some ⟨b89,0,none⟩,b89,0,4⟩ w (hL.mono hm) (by decide) (Sl.rowsR (xs:=[x.agent,x.kind,x.first,x.last].map intC) (t:=[]) (hm.at (.head _)) (by simp [intC])) (by show 4≤_;decide) (in4 hxv.1 hxv.2.1 hxv.2.2.1 hxv.2.2.2)) ?_
   refine lv (Val.strAdd rfl rfl (by rw [← List.length_append];exact Nat.le_trans (Nat.le_of_eq (congrArg List.length (royK_r (r:=r.pl) (n:=r.terms.l.length) (m:=r.prices.l.length) hk hx).symm)) (by have:=hK r.terms.l.length r.prices.l.length (k + 1);omega))) ?_
   refine lv (Val.add rfl rfl (IntWalk.i64_in _ ⟨by omega,by omega⟩)) ?_
   exact RunE.round (by omega) trivial rfl (Sub.consE (t:=7) rfl rfl (Sub.consE (t:=4) rfl (by rw [royK_r (r:=r.pl) hk hx];rfl) (Sub.cons (t:=1) rfl (Sub.nil _)))) (.cons (.there (.there .here)) rfl .nil)
  intro c3'
  obtain rfl:k=r.reports.l.length:=by omega
  refine RunC.exit ?_
  refine RunE.pass_exit ?_
  refine RunE.pass_exit ?_
  refine RunE.block_here ?_
  refine st ?_
  refine RunC.ret ?_
  exact RunE.retP (.r2 rfl (.tmp rfl) (.tmp rfl)) (by rw [hX,← royK_all (r:=r.pl) hpl (by show (r.shares.l.map (·.l)).length=_;rw [List.length_map];exact hsl)];rfl)
end Go.Proofs.YtleamcmljcdapaaGreatDoor
namespace Go.Bk
open Go Go.Eng Go.RowKit
def rloanX (c:Cb) (l:Ln):Bool:=if l.kind=2 then within l.slot 0 (c.slots - 1) && (decide (l.card = -1) || within l.card 0 ((c.homes.length:Int) - 1)) else (decide (l.kind=0) || decide (l.kind=1)) && within l.card 0 ((c.homes.length:Int) - 1) && within l.person 0 7
def oneX (l:List Int) (n:Int) (i:Nat):Bool:=within (l.getD i 0) 0 (n - 1) && (List.range i).all fun j=>!decide (l.getD j 0=l.getD i 0)
def rhomesX (l:List Int) (n:Int) (k:Nat):Bool:=(List.range k).all (oneX l n)
def rcabX (c:Cb):Bool:=within c.slots 1 6 && decide (c.homes.length≤5) && within c.wrong 0 12 && decide (c.loans.length≤12) && rhomesX c.homes c.slots c.homes.length && c.loans.all (rloanX c)
def plainL (l:Ln):Bool:=!((decide (l.kind=2) && !decide (l.person=0)) || (!decide (l.kind=2) && !decide (l.slot=0)))
theorem range_s {p:Nat→Bool} {k:Nat}:(List.range (k + 1)).all p=((List.range k).all p && p k):=by simp [List.range_succ]
theorem range_no {p:Nat→Bool} {n k:Nat} (hk:k < n) (h:p k=false):(List.range n).all p=false:=by
  rw [List.all_eq_false]
  exact ⟨k,List.mem_range.2 hk,by simp [h]⟩
theorem idx_one (l:List Int) (i:Nat) (hi:i < l.length):decide (idxX l (l.getD i 0)=(i:Int))=(List.range i).all fun j=>!decide (l.getD j 0=l.getD i 0):=by
  have e:l.getD i 0=l[i]:=by rw [List.getD_eq_getElem?_getD,List.getElem?_eq_getElem hi];rfl
  have ha:l.any (fun y=>decide (l.getD i 0=y))=true:=List.any_eq_true.2 ⟨l[i],List.getElem_mem hi,by rw [e];simp⟩
  unfold idxX
  rw [if_pos ha]
  by_cases h:∃ j,j < i∧l.getD j 0=l.getD i 0
  · obtain ⟨j,hj,hjx⟩:=h
    rw [range_no hj (by rw [decide_eq_true hjx];rfl)]
    refine decide_eq_false fun h9=>?_
    have h8:j < l.findIdx (fun y=>decide (l.getD i 0=y)):=by omega
    have h7:=List.not_of_lt_findIdx h8
    have e2:l.getD j 0=l[j]:=by rw [List.getD_eq_getElem?_getD,List.getElem?_eq_getElem (by omega)];rfl
    rw [e2] at hjx
    simp [hjx] at h7
  · have h2:∀ j,j < i→l.getD j 0 ≠ l.getD i 0:=fun j hj h3=>h ⟨j,hj,h3⟩
    rw [List.all_eq_true.2 (fun j hj=>by rw [decide_eq_false (h2 j (List.mem_range.1 hj))];rfl)]
    refine decide_eq_true ?_
    congr 1
    refine (List.findIdx_eq hi).2 ⟨by rw [e];simp,fun j hj=>?_⟩
    have e2:l.getD j 0=l[j]:=by rw [List.getD_eq_getElem?_getD,List.getElem?_eq_getElem (by omega)];rfl
    refine decide_eq_false fun h9=>h2 j hj ?_
    rw [e2,h9]
theorem homes_r (c:Cb):homesX c c.homes.length=rhomesX c.homes c.slots c.homes.length:=by
  unfold homesX rhomesX
  rw [Bool.eq_iff_iff,List.all_eq_true,List.all_eq_true]
  refine ⟨fun h i hi=>?_,fun h i hi=>?_⟩
  · have h1:=h i hi
    rw [idx_one _ _ (List.mem_range.1 hi)] at h1
    exact h1
  · have h1:=h i hi
    unfold oneX at h1
    rw [← idx_one _ _ (List.mem_range.1 hi)] at h1
    exact h1
theorem loan_r (c:Cb) (l:Ln):loanX c l=(rloanX c l && plainL l):=by
  unfold loanX rloanX plainL
  by_cases h2:l.kind=2
  · have h01:¬ (l.kind=0∨l.kind=1):=by omega
    rw [if_neg h01,if_pos h2,if_pos h2]
    simp only [h2,decide_true,Bool.true_and,Bool.not_true,Bool.false_and,Bool.or_false,Bool.not_not]
    rw [Bool.or_comm (within l.card 0 _)]
    cases within l.slot 0 (c.slots - 1) <;> simp
  · rw [if_neg h2,if_neg h2]
    by_cases h01:l.kind=0∨l.kind=1
    · rw [if_pos h01]
      have e:(decide (l.kind=0) || decide (l.kind=1))=true:=by simpa using h01
      rw [e]
      simp [h2]
    · rw [if_neg h01]
      have e:(decide (l.kind=0) || decide (l.kind=1))=false:=by simpa using h01
      rw [e]
      simp
theorem cab_r (c:Cb):cabX c=(rcabX c && c.loans.all plainL):=by
  unfold cabX rcabX
  have e:(!c.loans.any fun l=>!loanX c l)=c.loans.all (loanX c):=by rw [List.any_eq_not_all_not];simp
  have e2:∀ l:List Ln,l.all (loanX c)=(l.all (rloanX c) && l.all plainL):=fun l=>by
    induction l with
    | nil=>rfl
    | cons a l ih =>
      simp only [List.all_cons,ih,loan_r]
      cases rloanX c a <;> cases plainL a <;> simp
  rw [homes_r,e,e2,← Bool.and_assoc]
end Go.Bk
namespace Go.Proofs.YtleamcmljcdapaaGreatDoor
open Go Go.Eng Go.Bk Go.RowKit

theorem rin11_calls (n lo hi:Int) (W:World):Calls Tryz.prog 76 #[.int .i64 n,.int .i64 lo,.int .i64 hi] W (Pure (.bool (within n lo hi)) W):=by
  refine calls_start Tryz.func76 rfl rfl ?_
  refine st ?_
  refine RunL.andPart (dj:=10) (dp:=14) 4 rfl (fun g10=>by
    have g10':=g10
    try simp only [nH] at g10'
    refine sv ?_
    exact RunL.segEnd (Sub.cons rfl (Sub.skip rfl (Sub.skip rfl (Sub.skip rfl (Sub.skip rfl (Sub.same rfl (by rw [g10]) (Sub.refl _))))))) (List.Sublist.refl _)
  ) (fun g10=>by
    have g10':=g10
    try simp only [nH] at g10'
    iterate 3 refine RunL.no rfl rfl rfl ?_
    refine sv ?_
    exact RunL.segEnd (Sub.cons rfl (Sub.skip rfl (Sub.skip rfl (Sub.skip rfl (Sub.skip rfl (Sub.same rfl (by rw [g10]) (Sub.refl _))))))) (List.Sublist.refl _)
  ) ?_
  refine st ?_
  refine RunC.ret ?_
  exact RunE.retP (.r1 rfl (.tmp rfl)) (by first | rfl | simp)
theorem rslot_calls (c:CbA) (n:Int) (hs:1≤c.slots∧c.slots≤6) (W:World):Calls Tryz.prog 77 #[c.v,.int .i64 n] W (Pure (.bool (within n 0 (c.slots - 1))) W):=by
  refine calls_start Tryz.func77 rfl rfl ?_
  refine st ?_
  refine RunL.new (New.box rfl) rfl rfl rfl (fun b2=>?_)
  refine st ?_
  refine lv (Val.fieldAddr rfl fld_30_0) ?_
  refine lv (Val.load_one rfl (.head _) ty_3 rfl) ?_
  refine lv (Val.sub' rfl rfl (IntWalk.i64_in _ ⟨by omega,by omega⟩)) ?_
  refine RunL.callP (isCall_func rfl ent_76) rfl rfl rfl (fun w hm=>rin11_calls n 0 (c.slots - 1) w) ?_
  refine st ?_
  refine RunC.ret ?_
  exact RunE.retP (.r1 rfl (.tmp rfl)) (by first | rfl | simp)
theorem rcard_calls (c:CbA) (n:Int) (hs:c.homes.l.length≤10000) (W:World):Calls Tryz.prog 134 #[c.v,.int .i64 n] W (Pure (.bool (within n 0 ((c.homes.l.length:Int) - 1))) W):=by
  refine calls_start Tryz.func134 rfl rfl ?_
  refine st ?_
  refine RunL.new (New.box rfl) rfl rfl rfl (fun b2=>?_)
  refine st ?_
  refine lv (Val.fieldAddr rfl fld_30_1) ?_
  refine lv (Val.load_one rfl (.head _) ty_27 rfl) ?_
  refine lv (Val.len_sl rfl sl_27) ?_
  refine lv (Val.sub' rfl rfl (IntWalk.i64_in _ ⟨by omega,by omega⟩)) ?_
  refine RunL.callP (isCall_func rfl ent_76) rfl rfl rfl (fun w hm=>rin11_calls n 0 ((c.homes.l.length:Int) - 1) w) ?_
  refine st ?_
  refine RunC.ret ?_
  exact RunE.retP (.r1 rfl (.tmp rfl)) (by first | rfl | simp)
theorem rloan11_calls (c:CbA) (l:Ln) (hs:1≤c.slots∧c.slots≤6) (hh:c.homes.l.length≤10000) (W:World):Calls Tryz.prog 78 #[c.v,.agg l.cells.toArray] W (Pure (.bool (rloanX c.pl l)) W):=by
  refine calls_start Tryz.func78 rfl rfl ?_
  refine st ?_
  refine RunL.new (New.box rfl) rfl rfl rfl (fun b2=>?_)
  refine RunL.new (New.box rfl) rfl rfl rfl (fun b3=>?_)
  refine st ?_
  refine lv (Val.fieldAddr rfl fld_98_0) ?_
  refine lv (Val.load_one rfl (.head _) ty_3 rfl) ?_
  refine cn rfl ?_ ?_
  ·intro c0'
   refine st ?_
   refine lv (Val.load_agg rfl (.tail _ (.head _)) ty_30 rfl) ?_
   refine lv (Val.fieldAddr rfl fld_98_3) ?_
   refine lv (Val.load_one rfl (.head _) ty_3 rfl) ?_
   refine RunL.callP (isCall_func rfl ent_77) rfl rfl rfl (fun w hm=>rslot_calls c l.slot hs w) ?_
   refine st ?_
   refine RunL.andPart (dj:=12) (dp:=22) 10 rfl (fun g12=>by
     have g12':=g12
     try simp only [nH] at g12'
     refine lv (Val.fieldAddr rfl fld_98_1) ?_
     refine lv (Val.load_one rfl (.head _) ty_3 rfl) ?_
     refine RunL.orPart (dj:=16) (dp:=21) 5 rfl (fun g16=>by
       have g16':=g16
       try simp only [nH] at g16'
       refine lv (Val.load_agg rfl (.tail _ (.head _)) ty_30 rfl) ?_
       refine lv (Val.fieldAddr rfl fld_98_1) ?_
       refine lv (Val.load_one rfl (.head _) ty_3 rfl) ?_
       refine RunL.callP (isCall_func rfl ent_134) rfl rfl rfl (fun w hm=>rcard_calls c l.card hh w) ?_
       refine sv ?_
       exact RunL.segEnd (Sub.cons rfl (Sub.skip rfl (Sub.skip rfl (Sub.skip rfl (Sub.skip rfl (Sub.skip rfl (Sub.same rfl (by rw [g16]) (Sub.refl _)))))))) (List.Sublist.refl _)
     ) (fun g16=>by
       have g16':=g16
       try simp only [nH] at g16'
       iterate 4 refine RunL.no rfl rfl rfl ?_
       refine sv ?_
       exact RunL.segEnd (Sub.cons rfl (Sub.skip rfl (Sub.skip rfl (Sub.skip rfl (Sub.skip rfl (Sub.skip rfl (Sub.same rfl (by rw [g16]) (Sub.refl _)))))))) (List.Sublist.refl _)
     ) ?_
     refine sv ?_
     exact RunL.segEnd (Sub.cons rfl (Sub.skip rfl (Sub.skip rfl (Sub.skip rfl (Sub.skip rfl (Sub.skip rfl (Sub.skip rfl (Sub.same rfl (by rw [g12]) (Sub.refl _))))))))) (List.Sublist.refl _)
   ) (fun g12=>by
     have g12':=g12
     try simp only [nH] at g12'
     iterate 9 refine RunL.no rfl rfl rfl ?_
     refine sv ?_
     exact RunL.segEnd (Sub.cons rfl (Sub.skip rfl (Sub.skip rfl (Sub.skip rfl (Sub.skip rfl (Sub.skip rfl (Sub.skip rfl (Sub.skip rfl (Sub.skip rfl (Sub.skip rfl (Sub.skip rfl (Sub.same rfl (by rw [g12]) (Sub.refl _))))))))))))) (List.Sublist.refl _)
   ) ?_
   refine st ?_
   refine RunC.ret ?_
   refine RunE.pass_ret ?_
   exact RunE.retP (.r1 rfl (.tmp rfl)) (by unfold rloanX;rw [if_pos (by simpa using c0')];rfl)
  intro c0'
  refine st ?_
  refine lv (Val.fieldAddr rfl fld_98_0) ?_
  refine lv (Val.load_one rfl (.head _) ty_3 rfl) ?_
  refine RunL.orPart (dj:=26) (dp:=30) 4 rfl (fun g26=>by
    have g26':=g26
    try simp only [nH] at g26'
    refine lv (Val.fieldAddr rfl fld_98_0) ?_
    refine RunL.val (Val.load_one rfl (.head _) ty_3 rfl) rfl rfl rfl ?_
    refine sv ?_
    exact RunL.segEnd (Sub.cons rfl (Sub.skip rfl (Sub.skip rfl (Sub.skip rfl (Sub.skip rfl (Sub.same rfl (by rw [g26]) (Sub.refl _))))))) (List.Sublist.refl _)
  ) (fun g26=>by
    have g26':=g26
    try simp only [nH] at g26'
    iterate 3 refine RunL.no rfl rfl rfl ?_
    refine sv ?_
    exact RunL.segEnd (Sub.cons rfl (Sub.skip rfl (Sub.skip rfl (Sub.skip rfl (Sub.skip rfl (Sub.same rfl (by rw [g26]) (Sub.refl _))))))) (List.Sublist.refl _)
  ) ?_
  refine st ?_
  refine RunL.andPart (dj:=31) (dp:=36) 5 rfl (fun g31=>by
    have g31':=g31
    try simp only [nH] at g31'
    refine lv (Val.load_agg rfl (.tail _ (.head _)) ty_30 rfl) ?_
    refine lv (Val.fieldAddr rfl fld_98_1) ?_
    refine lv (Val.load_one rfl (.head _) ty_3 rfl) ?_
    refine RunL.callP (isCall_func rfl ent_134) rfl rfl rfl (fun w hm=>rcard_calls c l.card hh w) ?_
    refine sv ?_
    exact RunL.segEnd (Sub.cons rfl (Sub.skip rfl (Sub.skip rfl (Sub.skip rfl (Sub.skip rfl (Sub.skip rfl (Sub.same rfl (by rw [g31]) (Sub.refl _)))))))) (List.Sublist.refl _)
  ) (fun g31=>by
    have g31':=g31
    try simp only [nH] at g31'
    iterate 4 refine RunL.no rfl rfl rfl ?_
    refine sv ?_
    exact RunL.segEnd (Sub.cons rfl (Sub.skip rfl (Sub.skip rfl (Sub.skip rfl (Sub.skip rfl (Sub.skip rfl (Sub.same rfl (by rw [g31]) (Sub.refl _)))))))) (List.Sublist.refl _)
  ) ?_
  refine st ?_
  refine RunL.andPart (dj:=37) (dp:=41) 4 rfl (fun g37=>by
    have g37':=g37
    try simp only [nH] at g37'
    refine lv (Val.fieldAddr rfl fld_98_2) ?_
    refine lv (Val.load_one rfl (.head _) ty_3 rfl) ?_
    refine RunL.callP (isCall_func rfl ent_76) rfl rfl rfl (fun w hm=>rin11_calls l.person 0 7 w) ?_
    refine sv ?_
    exact RunL.segEnd (Sub.cons rfl (Sub.skip rfl (Sub.skip rfl (Sub.skip rfl (Sub.skip rfl (Sub.same rfl (by rw [g37]) (Sub.refl _))))))) (List.Sublist.refl _)
  ) (fun g37=>by
    have g37':=g37
    try simp only [nH] at g37'
    iterate 3 refine RunL.no rfl rfl rfl ?_
    refine sv ?_
    exact RunL.segEnd (Sub.cons rfl (Sub.skip rfl (Sub.skip rfl (Sub.skip rfl (Sub.skip rfl (Sub.same rfl (by rw [g37]) (Sub.refl _))))))) (List.Sublist.refl _)
  ) ?_
  refine st ?_
  refine RunC.ret ?_
  exact RunE.retP (.r1 rfl (.tmp rfl)) (by unfold rloanX;rw [if_neg (by simpa using c0')];rfl)
theorem rplain_calls (c:CbA) (hs:CbS c) (W:World) (hC:CbOk W c):Calls Tryz.prog 34 #[c.v] W (Pure (.bool (c.loans.l.all plainL)) W):=by
  obtain ⟨s1,s2⟩:=hs
  refine calls_start Tryz.func34 rfl rfl ?_
  refine st ?_
  refine RunL.new (New.box rfl) rfl rfl rfl (fun b1=>?_)
  refine st ?_
  refine RunC.loopK (c.loans.l.length) (fun k q=>(3,.int .i64 (k:Int))::q) (fun _=>_) (fun _=>[]) (fun k=>(c.loans.l.take k).all plainL=true) (by simp) rfl (Sub.consE (t:=3) rfl rfl (Sub.cons (t:=1) rfl (Sub.nil _))) (.cons .here rfl .nil) ?_
  intro k kN kI
  refine st ?_
  refine lv (Val.fieldAddr rfl fld_30_3) ?_
  refine lv (Val.load_one rfl (.head _) ty_28 rfl) ?_
  refine lv (Val.len_sl rfl sl_28) ?_
  refine cn rfl ?_ ?_
  ·intro c0'
   have hk:k < c.loans.l.length:=by omega
   obtain ⟨y,hy⟩:∃ y,c.loans.l[k]=y:=⟨_,rfl⟩
   refine st ?_
   refine lv (Val.fieldAddr rfl fld_30_3) ?_
   refine lv (Val.load_one rfl (.head _) ty_28 rfl) ?_
   refine lv (Val.indexAddr_slp rfl rfl sl_28 (by omega) (by omega) (Sl.ptrM hC.loans hk)) ?_
   refine lv (Val.load_gen rfl (fun w hm=>Sl.loadX hC.loans (by decide) hm (by simp) ty_98 hk hy)) ?_
   refine RunL.new (New.alloc zero_98) rfl rfl rfl (fun b4=>?_)
   refine RunL.sto (Sto.store rfl rfl .here ty_98 rfl rfl) rfl rfl ?_
   refine st ?_
   refine lv (Val.fieldAddr rfl fld_98_0) ?_
   refine lv (Val.load_one rfl (.head _) ty_3 rfl) ?_
   refine RunL.andPart (dj:=20) (dp:=24) 4 rfl (fun g20=>by
     have g20':=g20
     try simp only [nH] at g20'
     refine lv (Val.fieldAddr rfl fld_98_2) ?_
     refine RunL.val (Val.load_one rfl (.head _) ty_3 rfl) rfl rfl rfl ?_
     refine sv ?_
     exact RunL.segEnd (Sub.cons rfl (Sub.skip rfl (Sub.skip rfl (Sub.skip rfl (Sub.skip rfl (Sub.same rfl (by rw [g20]) (Sub.refl _))))))) (List.Sublist.refl _)
   ) (fun g20=>by
     have g20':=g20
     try simp only [nH] at g20'
     iterate 3 refine RunL.no rfl rfl rfl ?_
     refine sv ?_
     exact RunL.segEnd (Sub.cons rfl (Sub.skip rfl (Sub.skip rfl (Sub.skip rfl (Sub.skip rfl (Sub.same rfl (by rw [g20]) (Sub.refl _))))))) (List.Sublist.refl _)
   ) ?_
   refine st ?_
   refine RunL.orPart (dj:=25) (dp:=34) 9 rfl (fun g25=>by
     have g25':=g25
     try simp only [nH] at g25'
     refine lv (Val.fieldAddr rfl fld_98_0) ?_
     refine lv (Val.load_one rfl (.head _) ty_3 rfl) ?_
     refine RunL.andPart (dj:=29) (dp:=33) 4 rfl (fun g29=>by
       have g29':=g29
       try simp only [nH] at g29'
       refine lv (Val.fieldAddr rfl fld_98_3) ?_
       refine RunL.val (Val.load_one rfl (.head _) ty_3 rfl) rfl rfl rfl ?_
       refine sv ?_
       exact RunL.segEnd (Sub.cons rfl (Sub.skip rfl (Sub.skip rfl (Sub.skip rfl (Sub.skip rfl (Sub.same rfl (by rw [g29]) (Sub.refl _))))))) (List.Sublist.refl _)
     ) (fun g29=>by
       have g29':=g29
       try simp only [nH] at g29'
       iterate 3 refine RunL.no rfl rfl rfl ?_
       refine sv ?_
       exact RunL.segEnd (Sub.cons rfl (Sub.skip rfl (Sub.skip rfl (Sub.skip rfl (Sub.skip rfl (Sub.same rfl (by rw [g29]) (Sub.refl _))))))) (List.Sublist.refl _)
     ) ?_
     refine sv ?_
     exact RunL.segEnd (Sub.cons rfl (Sub.skip rfl (Sub.skip rfl (Sub.skip rfl (Sub.skip rfl (Sub.skip rfl (Sub.skip rfl (Sub.same rfl (by rw [g25]) (Sub.refl _))))))))) (List.Sublist.refl _)
   ) (fun g25=>by
     have g25':=g25
     try simp only [nH] at g25'
     iterate 8 refine RunL.no rfl rfl rfl ?_
     refine sv ?_
     exact RunL.segEnd (Sub.cons rfl (Sub.skip rfl (Sub.skip rfl (Sub.skip rfl (Sub.skip rfl (Sub.skip rfl (Sub.skip rfl (Sub.skip rfl (Sub.skip rfl (Sub.skip rfl (Sub.same rfl (by rw [g25]) (Sub.refl _)))))))))))) (List.Sublist.refl _)
   ) ?_
   refine st ?_
   refine cn rfl ?_ ?_
   ·intro c1'
    refine st ?_
    refine RunC.ret ?_
    refine RunE.block_ret ?_
    refine RunE.pass_ret ?_
    refine RunE.pass_ret ?_
    refine RunE.block_ret ?_
    refine RunE.pass_ret ?_
    exact RunE.retP (.r1 rfl (.tmp rfl)) (by rw [all_no hk hy (by unfold plainL;simp;omega)])
   intro c1'
   refine st ?_
   refine lv (Val.add rfl rfl (IntWalk.i64_in _ ⟨by omega,by omega⟩)) ?_
   exact RunE.round (by omega) (take_all hk hy kI (by unfold plainL;simp_all)) rfl (Sub.consE (t:=3) rfl rfl (Sub.cons (t:=1) rfl (Sub.nil _))) (.cons (.there .here) rfl .nil)
  intro c0'
  obtain rfl:k=c.loans.l.length:=by omega
  rw [List.take_length] at kI
  refine RunC.exit ?_
  refine RunE.pass_exit ?_
  refine RunE.pass_exit ?_
  refine RunE.block_here ?_
  refine st ?_
  refine RunC.ret ?_
  exact RunE.retP (.r1 rfl (.tmp rfl)) (by rw [kI])
theorem rCabinet_calls (c:CbA) (hs:CbS c) (W:World) (hC:CbOk W c):Calls Tryz.prog 33 #[c.v] W (Pure (.bool (rcabX c.pl)) W):=by
  obtain ⟨s1,s2⟩:=hs
  refine calls_start Tryz.func33 rfl rfl ?_
  refine st ?_
  refine RunL.new (New.box rfl) rfl rfl rfl (fun b1=>?_)
  refine st ?_
  refine lv (Val.fieldAddr rfl fld_30_0) ?_
  refine lv (Val.load_one rfl (.head _) ty_3 rfl) ?_
  refine RunL.callP (isCall_func rfl ent_76) rfl rfl rfl (fun w hm=>rin11_calls c.slots 1 6 w) ?_
  refine st ?_
  refine RunL.orPart (dj:=10) (dp:=15) 5 rfl (fun g10=>by
    have g10':=g10
    try simp only [nH] at g10'
    refine lv (Val.fieldAddr rfl fld_30_1) ?_
    refine lv (Val.load_one rfl (.head _) ty_27 rfl) ?_
    refine RunL.val (Val.len_sl rfl sl_27) rfl rfl rfl ?_
    refine sv ?_
    exact RunL.segEnd (Sub.cons rfl (Sub.skip rfl (Sub.skip rfl (Sub.skip rfl (Sub.skip rfl (Sub.skip rfl (Sub.same rfl (by rw [g10]) (Sub.refl _)))))))) (List.Sublist.refl _)
  ) (fun g10=>by
    have g10':=g10
    try simp only [nH] at g10'
    iterate 4 refine RunL.no rfl rfl rfl ?_
    refine sv ?_
    exact RunL.segEnd (Sub.cons rfl (Sub.skip rfl (Sub.skip rfl (Sub.skip rfl (Sub.skip rfl (Sub.skip rfl (Sub.same rfl (by rw [g10]) (Sub.refl _)))))))) (List.Sublist.refl _)
  ) ?_
  refine st ?_
  refine RunL.orPart (dj:=16) (dp:=21) 5 rfl (fun g16=>by
    have g16':=g16
    try simp only [nH] at g16'
    refine lv (Val.fieldAddr rfl fld_30_2) ?_
    refine lv (Val.load_one rfl (.head _) ty_3 rfl) ?_
    refine RunL.callP (isCall_func rfl ent_76) rfl rfl rfl (fun w hm=>rin11_calls c.wrong 0 12 w) ?_
    refine sv ?_
    exact RunL.segEnd (Sub.cons rfl (Sub.skip rfl (Sub.skip rfl (Sub.skip rfl (Sub.skip rfl (Sub.skip rfl (Sub.same rfl (by rw [g16]) (Sub.refl _)))))))) (List.Sublist.refl _)
  ) (fun g16=>by
    have g16':=g16
    try simp only [nH] at g16'
    iterate 4 refine RunL.no rfl rfl rfl ?_
    refine sv ?_
    exact RunL.segEnd (Sub.cons rfl (Sub.skip rfl (Sub.skip rfl (Sub.skip rfl (Sub.skip rfl (Sub.skip rfl (Sub.same rfl (by rw [g16]) (Sub.refl _)))))))) (List.Sublist.refl _)
  ) ?_
  refine st ?_
  refine RunL.orPart (dj:=22) (dp:=27) 5 rfl (fun g22=>by
    have g22':=g22
    try simp only [nH] at g22'
    refine lv (Val.fieldAddr rfl fld_30_3) ?_
    refine lv (Val.load_one rfl (.head _) ty_28 rfl) ?_
    refine RunL.val (Val.len_sl rfl sl_28) rfl rfl rfl ?_
    refine sv ?_
    exact RunL.segEnd (Sub.cons rfl (Sub.skip rfl (Sub.skip rfl (Sub.skip rfl (Sub.skip rfl (Sub.skip rfl (Sub.same rfl (by rw [g22]) (Sub.refl _)))))))) (List.Sublist.refl _)
  ) (fun g22=>by
    have g22':=g22
    try simp only [nH] at g22'
    iterate 4 refine RunL.no rfl rfl rfl ?_
    refine sv ?_
    exact RunL.segEnd (Sub.cons rfl (Sub.skip rfl (Sub.skip rfl (Sub.skip rfl (Sub.skip rfl (Sub.skip rfl (Sub.same rfl (by rw [g22]) (Sub.refl _)))))))) (List.Sublist.refl _)
  ) ?_
  refine st ?_
  refine cn rfl ?_ ?_
  ·intro c0'
   refine st ?_
   refine RunC.ret ?_
   refine RunE.pass_ret ?_
   exact RunE.retP (.r1 rfl (.tmp rfl)) (by unfold rcabX;show Value.bool false=Value.bool (within c.slots 1 6 && decide (c.homes.l.length≤5) && within c.wrong 0 12 && decide (c.loans.l.length≤12) && rhomesX c.homes.l c.slots c.homes.l.length && c.loans.l.all (rloanX c.pl));congr 1;rcases c0' with ((h | h) | h) | h;rw [h];rfl;rw [decide_eq_false (show ¬ c.homes.l.length≤5 by omega)];simp;rw [h];simp;rw [decide_eq_false (show ¬ c.loans.l.length≤12 by omega)];simp)
  intro c0'
  have hwi:within c.slots 1 6=true:=by simp_all
  have hsl:1≤c.slots∧c.slots≤6:=by simpa [within] using hwi
  refine st ?_
  refine RunC.loopK (c.homes.l.length) (fun k q=>(3,.int .i64 (k:Int))::q) (fun _=>_) (fun _=>[]) (fun k=>rhomesX c.homes.l c.slots k=true) (by rfl) rfl (Sub.consE (t:=3) rfl rfl (Sub.cons (t:=1) rfl (Sub.nil _))) (.cons .here rfl .nil) ?_
  intro k kN kI
  refine st ?_
  refine lv (Val.fieldAddr rfl fld_30_1) ?_
  refine lv (Val.load_one rfl (.head _) ty_27 rfl) ?_
  refine lv (Val.len_sl rfl sl_27) ?_
  refine cn rfl ?_ ?_
  ·intro c1'
   have hk:k < c.homes.l.length:=by omega
   obtain ⟨y,hy⟩:∃ y,c.homes.l[k]=y:=⟨_,rfl⟩
   have hyg:c.homes.l.getD k 0=y:=(by rw [List.getD_eq_getElem?_getD,List.getElem?_eq_getElem hk,hy];rfl)
   refine st ?_
   refine RunC.draw 6 fol_ (.cons .here rfl .nil) ?_
   refine va 0 rfl (Val.load_agg rfl (.head _) ty_30 rfl) rfl rfl rfl (.cons .here rfl .nil) rfl ?_
   refine va 1 rfl (Val.fieldAddr rfl fld_30_1) rfl rfl rfl (.cons .here rfl .nil) rfl ?_
   refine va 2 rfl (Val.load_one rfl (.head _) ty_27 rfl) rfl rfl rfl (.cons .here rfl .nil) rfl ?_
   refine va 3 rfl (Val.pure rfl) rfl rfl rfl (.cons .here rfl .nil) rfl ?_
   refine va 4 rfl (Val.indexAddr_slp rfl rfl sl_27 (by omega) (by omega) (Sl.ptrM hC.homes hk)) rfl rfl rfl (.cons .here rfl .nil) rfl ?_
   refine va 5 rfl (Val.load_gen rfl (fun w hm=>Sl.loadM1 hC.homes (by decide) hm (by simp) ty_3 hk (v:=.int .i64 y) (by simp [intC,hy]))) rfl rfl rfl (.cons .here rfl .nil) rfl ?_
   refine RunA.toB (by kernel_rfl) ?_
   refine RunB.one (i:=6) (by kernel_rfl) ?_
   refine RunI.callP rfl (isCall_func rfl ent_77) rfl rfl rfl (fun w hm=>rslot_calls c y hsl w) (RunK.toB ?_)
   refine RunB.one (i:=7) (by kernel_rfl) ?_
   refine RunI.val rfl (Val.pure rfl) rfl rfl rfl (RunK.toB ?_)
   refine RunB.done (by kernel_rfl) ?_
   refine st ?_
   refine cn rfl ?_ ?_
   ·intro c2'
    refine st ?_
    refine RunC.ret ?_
    refine RunE.pass_ret ?_
    refine RunE.block_ret ?_
    refine RunE.pass_ret ?_
    refine RunE.pass_ret ?_
    refine RunE.block_ret ?_
    refine RunE.pass_ret ?_
    exact RunE.retP (.r1 rfl (.tmp rfl)) (by unfold rcabX;rw [show rhomesX c.pl.homes c.pl.slots c.pl.homes.length=false from range_no hk (by unfold oneX;rw [show c.pl.homes.getD k 0=y from hyg];simp_all [CbA.pl])];simp)
   intro c2'
   refine st ?_
   refine RunC.loopK (k) (fun j q=>(4,.int .i64 (j:Int))::q) (fun _=>_) (fun _=>[]) (fun j=>(List.range j).all (fun m=>!decide (c.homes.l.getD m 0=y))=true) (by rfl) rfl (Sub.consE (t:=4) rfl rfl (Sub.cons (t:=1) rfl (Sub.cons (t:=3) rfl (Sub.nil _)))) (.cons .here rfl .nil) ?_
   intro j jN jI
   refine st ?_
   refine cn rfl ?_ ?_
   ·intro c3'
    have hj:j < c.homes.l.length:=by omega
    obtain ⟨z,hz⟩:∃ z,c.homes.l[j]=z:=⟨_,rfl⟩
    have hzg:c.homes.l.getD j 0=z:=(by rw [List.getD_eq_getElem?_getD,List.getElem?_eq_getElem hj,hz];rfl)
    refine st ?_
    refine RunC.draw 10 fol_ (.cons .here rfl .nil) ?_
    refine va 0 rfl (Val.fieldAddr rfl fld_30_1) rfl rfl rfl (.cons .here rfl .nil) rfl ?_
    refine va 1 rfl (Val.load_one rfl (.head _) ty_27 rfl) rfl rfl rfl (.cons .here rfl .nil) rfl ?_
    refine va 2 rfl (Val.pure rfl) rfl rfl rfl (.cons .here rfl .nil) rfl ?_
    refine va 3 rfl (Val.indexAddr_slp rfl rfl sl_27 (by omega) (by omega) (Sl.ptrM hC.homes hj)) rfl rfl rfl (.cons .here rfl .nil) rfl ?_
    refine va 4 rfl (Val.load_gen rfl (fun w hm=>Sl.loadM1 hC.homes (by decide) hm (by simp) ty_3 hj (v:=.int .i64 z) (by simp [intC,hz]))) rfl rfl rfl (.cons .here rfl .nil) rfl ?_
    refine va 5 rfl (Val.fieldAddr rfl fld_30_1) rfl rfl rfl (.cons .here rfl .nil) rfl ?_
    refine va 6 rfl (Val.load_one rfl (.head _) ty_27 rfl) rfl rfl rfl (.cons .here rfl .nil) rfl ?_
    refine va 7 rfl (Val.pure rfl) rfl rfl rfl (.cons .here rfl .nil) rfl ?_
    refine va 8 rfl (Val.indexAddr_slp rfl rfl sl_27 (by omega) (by omega) (Sl.ptrM hC.homes hk)) rfl rfl rfl (.cons .here rfl .nil) rfl ?_
    refine va 9 rfl (Val.load_gen rfl (fun w hm=>Sl.loadM1 hC.homes (by decide) hm (by simp) ty_3 hk (v:=.int .i64 y) (by simp [intC,hy]))) rfl rfl rfl (.cons .here rfl .nil) rfl ?_
    refine RunA.toB (by kernel_rfl) ?_
    refine RunB.one (i:=10) (by kernel_rfl) ?_
    refine RunI.val rfl (Val.pure rfl) rfl rfl rfl (RunK.toB ?_)
    refine RunB.done (by kernel_rfl) ?_
    refine st ?_
    refine cn rfl ?_ ?_
    ·intro c4'
     refine st ?_
     refine RunC.ret ?_
     refine RunE.block_ret ?_
     refine RunE.pass_ret ?_
     refine RunE.pass_ret ?_
     refine RunE.block_ret ?_
     refine RunE.block_ret ?_
     refine RunE.pass_ret ?_
     refine RunE.pass_ret ?_
     refine RunE.block_ret ?_
     refine RunE.pass_ret ?_
     exact RunE.retP (.r1 rfl (.tmp rfl)) (by unfold rcabX;rw [show rhomesX c.pl.homes c.pl.slots c.pl.homes.length=false from range_no hk (by unfold oneX;rw [show c.pl.homes.getD k 0=y from hyg];rw [range_no (n:=k) (k:=j) (by omega) (by rw [show c.pl.homes.getD j 0=z from hzg];simpa using c4')];simp)];simp)
    intro c4'
    refine st ?_
    refine lv (Val.add rfl rfl (IntWalk.i64_in _ ⟨by omega,by omega⟩)) ?_
    exact RunE.round (by omega) (by rw [range_s,jI,hzg];simpa using c4') rfl (Sub.consE (t:=4) rfl rfl (Sub.cons (t:=1) rfl (Sub.cons (t:=3) rfl (Sub.nil _)))) (.cons .here rfl .nil)
   intro c3'
   obtain rfl:k=j:=by omega
   refine RunC.exit ?_
   refine RunE.pass_exit ?_
   refine RunE.pass_exit ?_
   refine RunE.block_here ?_
   refine st ?_
   refine lv (Val.add rfl rfl (IntWalk.i64_in _ ⟨by omega,by omega⟩)) ?_
   exact RunE.round (by omega) (by unfold rhomesX;rw [range_s];rw [show (List.range k).all (oneX c.homes.l c.slots)=true from kI];unfold oneX;rw [hyg,jI];simpa using c2') rfl (Sub.consE (t:=3) rfl rfl (Sub.cons (t:=1) rfl (Sub.nil _))) (.cons .here rfl .nil)
  intro c1'
  obtain rfl:k=c.homes.l.length:=by omega
  have hro:=kI
  clear kI
  refine RunC.exit ?_
  refine RunE.pass_exit ?_
  refine RunE.pass_exit ?_
  refine RunE.block_here ?_
  refine st ?_
  refine RunC.loopK (c.loans.l.length) (fun k q=>(5,.int .i64 (k:Int))::q) (fun _=>_) (fun _=>[]) (fun k=>(c.loans.l.take k).all (rloanX c.pl)=true) (by simp) rfl (Sub.consE (t:=5) rfl rfl (Sub.cons (t:=1) rfl (Sub.nil _))) (.cons .here rfl .nil) ?_
  intro k kN kI
  refine st ?_
  refine lv (Val.fieldAddr rfl fld_30_3) ?_
  refine lv (Val.load_one rfl (.head _) ty_28 rfl) ?_
  refine lv (Val.len_sl rfl sl_28) ?_
  refine cn rfl ?_ ?_
  ·intro c5'
   have hk:k < c.loans.l.length:=by omega
   obtain ⟨y,hy⟩:∃ y,c.loans.l[k]=y:=⟨_,rfl⟩
   refine st ?_
   refine RunC.draw 6 fol_ (.cons .here rfl .nil) ?_
   refine va 0 rfl (Val.load_agg rfl (.head _) ty_30 rfl) rfl rfl rfl (.cons .here rfl .nil) rfl ?_
   refine va 1 rfl (Val.fieldAddr rfl fld_30_3) rfl rfl rfl (.cons .here rfl .nil) rfl ?_
   refine va 2 rfl (Val.load_one rfl (.head _) ty_28 rfl) rfl rfl rfl (.cons .here rfl .nil) rfl ?_
   refine va 3 rfl (Val.pure rfl) rfl rfl rfl (.cons .here rfl .nil) rfl ?_
   refine va 4 rfl (Val.indexAddr_slp rfl rfl sl_28 (by omega) (by omega) (Sl.ptrM hC.loans hk)) rfl rfl rfl (.cons .here rfl .nil) rfl ?_
   refine va 5 rfl (Val.load_gen rfl (fun w hm=>Sl.loadX hC.loans (by decide) hm (by simp) ty_98 hk hy)) rfl rfl rfl (.cons .here rfl .nil) rfl ?_
   refine RunA.toB (by kernel_rfl) ?_
   refine RunB.one (i:=6) (by kernel_rfl) ?_
   refine RunI.callP rfl (isCall_func rfl ent_78) rfl rfl rfl (fun w hm=>rloan11_calls c y hsl s1 w) (RunK.toB ?_)
   refine RunB.one (i:=7) (by kernel_rfl) ?_
   refine RunI.val rfl (Val.pure rfl) rfl rfl rfl (RunK.toB ?_)
   refine RunB.done (by kernel_rfl) ?_
   refine st ?_
   refine cn rfl ?_ ?_
   ·intro c6'
    refine st ?_
    refine RunC.ret ?_
    refine RunE.block_ret ?_
    refine RunE.pass_ret ?_
    refine RunE.pass_ret ?_
    refine RunE.block_ret ?_
    refine RunE.pass_ret ?_
    exact RunE.retP (.r1 rfl (.tmp rfl)) (by unfold rcabX;rw [show c.pl.loans.all (rloanX c.pl)=false from all_no hk hy (by simpa using c6')];simp)
   intro c6'
   refine st ?_
   refine lv (Val.add rfl rfl (IntWalk.i64_in _ ⟨by omega,by omega⟩)) ?_
   exact RunE.round (by omega) (take_all hk hy kI (by simpa using c6')) rfl (Sub.consE (t:=5) rfl rfl (Sub.cons (t:=1) rfl (Sub.nil _))) (.cons .here rfl .nil)
  intro c5'
  obtain rfl:k=c.loans.l.length:=by omega
  rw [List.take_length] at kI
  refine RunC.exit ?_
  refine RunE.pass_exit ?_
  refine RunE.pass_exit ?_
  refine RunE.block_here ?_
  refine st ?_
  refine RunC.ret ?_
  exact RunE.retP (.r1 rfl (.tmp rfl)) (by unfold rcabX;rw [show c.pl.loans.all (rloanX c.pl)=true from kI,show rhomesX c.pl.homes c.pl.slots c.pl.homes.length=true from hro];show Value.bool true=Value.bool (within c.slots 1 6 && decide (c.homes.l.length≤5) && within c.wrong 0 12 && decide (c.loans.l.length≤12) && true && true);obtain ⟨⟨q1,q2⟩,q3⟩:=c0';rw [hwi,q2,decide_eq_true (show c.homes.l.length≤5 by omega),decide_eq_true (show c.loans.l.length≤12 by omega)];rfl)
end Go.Proofs.YtleamcmljcdapaaGreatDoor
namespace Go.Bk
open Go Go.Eng Go.RowKit
def zeroLn:Ln:=⟨0,0,0,0⟩
def loanV (l:List Str):Ln×Bool :=
  if l.length ≠ 3 then (zeroLn,false) else
  if l.getD 0 []=wLook∧l.getD 2 []=wNone then (⟨2,-1,0,(numV (l.getD 1 [])).1⟩,(numV (l.getD 1 [])).2) else
  if l.getD 0 []=wTake then (⟨0,(numV (l.getD 1 [])).1,(numV (l.getD 2 [])).1,0⟩,(numV (l.getD 1 [])).2 && (numV (l.getD 2 [])).2) else
  if l.getD 0 []=wBack then (⟨1,(numV (l.getD 1 [])).1,(numV (l.getD 2 [])).1,0⟩,(numV (l.getD 1 [])).2 && (numV (l.getD 2 [])).2) else
  if l.getD 0 []=wLook then (⟨2,(numV (l.getD 2 [])).1,0,(numV (l.getD 1 [])).1⟩,(numV (l.getD 1 [])).2 && (numV (l.getD 2 [])).2) else (zeroLn,false)
def loan3 (a b c:Str):Ln×Bool :=
  if a=wLook∧c=wNone then (⟨2,-1,0,(numV b).1⟩,(numV b).2) else
  if a=wTake then (⟨0,(numV b).1,(numV c).1,0⟩,(numV b).2 && (numV c).2) else
  if a=wBack then (⟨1,(numV b).1,(numV c).1,0⟩,(numV b).2 && (numV c).2) else
  if a=wLook then (⟨2,(numV c).1,0,(numV b).1⟩,(numV b).2 && (numV c).2) else (zeroLn,false)
theorem loanV_three (a b c:Str):loanV [a,b,c]=loan3 a b c:=by
  unfold loanV
  rw [if_neg (by simp)]
  rfl
theorem three {l:List Str} (h:l.length=3):∃ a b c,l=[a,b,c]:=by
  match l,h with
  | [a,b,c],_=>exact ⟨a,b,c,rfl⟩
theorem loanV_inv {l:List Str} (h:(loanV l).2=true):loanL (loanV l).1=l∧plainL (loanV l).1=true:=by
  unfold loanV at h ⊢
  split at h
  · cases h
  · rename_i h3
    rw [if_neg h3]
    obtain ⟨a,b,c,rfl⟩:=three (Decidable.not_not.1 h3)
    have g0:([a,b,c]:List Str).getD 0 []=a:=rfl
    have g1:([a,b,c]:List Str).getD 1 []=b:=rfl
    have g2:([a,b,c]:List Str).getD 2 []=c:=rfl
    rw [g0,g1,g2] at h ⊢
    split at h
    · rename_i h1
      rw [if_pos h1]
      obtain ⟨rfl,rfl⟩:=h1
      obtain ⟨e,_⟩:=numV_ok (pair_eta h)
      exact ⟨by show [wLook,Lib.itoa (numV b).1,wNone]=_;rw [← e],rfl⟩
    · rename_i h1
      rw [if_neg h1]
      split at h
      · rename_i h2
        rw [if_pos h2]
        rw [Bool.and_eq_true] at h
        obtain ⟨e1,p1⟩:=numV_ok (pair_eta h.1)
        obtain ⟨e2,p2⟩:=numV_ok (pair_eta h.2)
        exact ⟨by show [wTake,Lib.itoa (numV b).1,Lib.itoa (numV c).1]=_;rw [← e1,← e2,h2],rfl⟩
      · rename_i h2
        rw [if_neg h2]
        split at h
        · rename_i h4
          rw [if_pos h4]
          rw [Bool.and_eq_true] at h
          obtain ⟨e1,p1⟩:=numV_ok (pair_eta h.1)
          obtain ⟨e2,p2⟩:=numV_ok (pair_eta h.2)
          exact ⟨by show [wBack,Lib.itoa (numV b).1,Lib.itoa (numV c).1]=_;rw [← e1,← e2,h4],rfl⟩
        · rename_i h4
          rw [if_neg h4]
          split at h
          · rename_i h5
            rw [if_pos h5]
            rw [Bool.and_eq_true] at h
            obtain ⟨e1,p1⟩:=numV_ok (pair_eta h.1)
            obtain ⟨e2,p2⟩:=numV_ok (pair_eta h.2)
            refine ⟨?_,rfl⟩
            have hne:¬ (numV c).1 = -1:=by have:=p2.1;omega
            unfold loanL
            rw [if_pos rfl,if_neg hne]
            show [wLook,Lib.itoa (numV b).1,Lib.itoa (numV c).1]=_
            rw [← e1,← e2,h5]
          · cases h
theorem loanV_text {c:Cb} {l:Ln} (hc:cabX c=true) (h:loanX c l=true):loanV (loanL l)=(l,true):=by
  have hcl:(c.homes.length:Int)≤5∧c.slots≤6:=by
    unfold cabX at hc
    simp only [Bool.and_eq_true,decide_eq_true_eq,within] at hc
    omega
  unfold loanX at h
  obtain ⟨k,ca,pe,s⟩:=l
  dsimp only at h
  split at h
  · rename_i hk
    simp only [within,Bool.and_eq_true,decide_eq_true_eq] at h
    obtain ⟨⟨h1,h2⟩,rfl⟩:=h
    have b1:Big ca:=⟨h1.1,by omega⟩
    have b2:Big pe:=⟨h2.1,by omega⟩
    have e1:=numV_itoa b1
    have e2:=numV_itoa b2
    rcases hk with rfl | rfl
    · show loanV [wTake,Lib.itoa ca,Lib.itoa pe]=_
      rw [loanV_three]
      unfold loan3
      rw [if_neg (fun h=>absurd h.1 (by decide)),if_pos rfl,e1,e2]
      rfl
    · show loanV [wBack,Lib.itoa ca,Lib.itoa pe]=_
      rw [loanV_three]
      unfold loan3
      rw [if_neg (fun h=>absurd h.1 (by decide)),if_neg (show ¬ wBack=wTake by decide),if_pos rfl,e1,e2]
      rfl
  · split at h
    · rename_i hk
      subst hk
      simp only [within,Bool.and_eq_true,Bool.or_eq_true,decide_eq_true_eq] at h
      obtain ⟨⟨h1,h2⟩,rfl⟩:=h
      have b2:Big s:=⟨h2.1,by omega⟩
      have e2:=numV_itoa b2
      by_cases h9:ca = -1
      · subst h9
        show loanV [wLook,Lib.itoa s,wNone]=_
        rw [loanV_three]
        unfold loan3
        rw [if_pos ⟨rfl,rfl⟩,e2]
      · have b1:Big ca:=by rcases h1 with h1 | h1;exact ⟨h1.1,by omega⟩;exact absurd h1 h9
        have e1:=numV_itoa b1
        have e:loanL ⟨2,ca,0,s⟩=[wLook,Lib.itoa s,Lib.itoa ca]:=by unfold loanL;rw [if_pos rfl,if_neg h9]
        rw [e,loanV_three]
        unfold loan3
        rw [if_neg (fun h=>absurd h.2 (itoa_none ca)),if_neg (show ¬ wLook=wTake by decide),if_neg (show ¬ wLook=wBack by decide),if_pos rfl,e1,e2]
        rfl
    · cases h
def cabV (ls:List (List Str)):Cb×Bool :=
  if ls.length < 2 then (zeroC,false) else
  if (lineV numO (ls.getD 0 []) wCab).2=false∨(lineV numO (ls.getD 0 []) wCab).1.length ≠ 2 then (zeroC,false) else
  let c:Cb:=⟨(lineV numO (ls.getD 0 []) wCab).1.getD 0 0,(lineV numO (ls.getD 1 []) wHomes).1,(lineV numO (ls.getD 0 []) wCab).1.getD 1 0,(ls.drop 2).map fun l=>(loanV l).1⟩
  (c,(lineV numO (ls.getD 1 []) wHomes).2 && ((ls.drop 2).all fun l=>(loanV l).2) && rcabX c)
theorem two {α:Type} {l:List α} (h:l.length=2):∃ a b,l=[a,b]:=by
  match l,h with
  | [a,b],_=>exact ⟨a,b,rfl⟩
theorem cabV_inv {ls:List (List Str)} (hne:∀ l∈ls,l ≠ []) (h:(cabV ls).2=true):cabX (cabV ls).1=true∧cabLs (cabV ls).1=ls:=by
  unfold cabV at h ⊢
  split at h
  · cases h
  · rename_i h4
    rw [if_neg h4]
    split at h
    · cases h
    · rename_i hd
      rw [if_neg hd]
      simp only [not_or,Bool.not_eq_false,ne_eq,Decidable.not_not] at hd
      dsimp only at h ⊢
      rw [Bool.and_eq_true,Bool.and_eq_true,List.all_eq_true] at h
      obtain ⟨⟨hh,hw⟩,hx⟩:=h
      have i0:=nums_inv (hne _ (getD_mem (by omega))) (pair_eta hd.1)
      have i1:=nums_inv (hne _ (getD_mem (by omega))) (pair_eta hh)
      generalize (lineV numO (ls.getD 0 []) wCab).1=dl at hd i0 hx ⊢
      generalize (lineV numO (ls.getD 1 []) wHomes).1=hl at i1 hx ⊢
      obtain ⟨a,b,rfl⟩:=two hd.2
      refine ⟨?_,?_⟩
      · rw [cab_r,Bool.and_eq_true]
        refine ⟨hx,List.all_eq_true.2 fun l hl2=>?_⟩
        obtain ⟨q,hq,rfl⟩:=List.mem_map.1 hl2
        exact (loanV_inv (hw q hq)).2
      · have e1:((ls.drop 2).map fun l=>(loanV l).1).map loanL=ls.drop 2:=by
          rw [List.map_map]
          conv=>rhs;rw [← List.map_id (ls.drop 2)]
          exact List.map_congr_left fun l hl2=>(loanV_inv (hw l hl2)).1
        unfold cabLs
        rw [e1]
        have e2:ls=ls.getD 0 []::ls.getD 1 []::ls.drop 2:=by
          match ls,h4 with
          | [],h=>exact absurd (show 0 < 2 by decide) h
          | [_],h=>exact absurd (show 1 < 2 by decide) h
          | x::y::r,_=>rfl
        conv=>rhs;rw [e2,i0.1,i1.1]
        rfl
theorem cab_big {c:Cb} (h:cabX c=true):Big c.slots∧Big c.wrong∧(∀ n∈c.homes,Big n)∧∀ l∈c.loans,loanX c l=true:=by
  have hr:cabX c=(rcabX c && c.loans.all plainL):=cab_r c
  have h1:=h
  rw [hr] at h1
  unfold rcabX at h1
  unfold cabX at h
  simp only [Bool.and_eq_true,decide_eq_true_eq,within,Bool.not_eq_true'] at h h1
  refine ⟨⟨by omega,by omega⟩,⟨by omega,by omega⟩,fun n hn=>?_,fun l hl=>?_⟩
  · obtain ⟨i,hi,rfl⟩:=List.mem_iff_getElem.1 hn
    have h2:=h1.1.1.2
    unfold rhomesX at h2
    rw [List.all_eq_true] at h2
    have h3:=h2 i (List.mem_range.2 hi)
    unfold oneX at h3
    rw [Bool.and_eq_true,List.getD_eq_getElem?_getD,List.getElem?_eq_getElem hi] at h3
    simp only [within,Bool.and_eq_true,decide_eq_true_eq,Option.getD_some] at h3
    exact ⟨by omega,by omega⟩
  · have:=any_no h.2 hl
    simpa using this
theorem cabV_text {c:Cb} (h:cabX c=true):cabV (cabLs c)=(c,true):=by
  obtain ⟨h1,h2,h3,h4⟩:=cab_big h
  have hr:cabX c=(rcabX c && c.loans.all plainL):=cab_r c
  rw [hr,Bool.and_eq_true] at h
  have h':cabX c=true:=by rw [hr,Bool.and_eq_true];exact h
  have e0:lineV numO ((cabLs c).getD 0 []) wCab=([c.slots,c.wrong],true):=nums_text (l:=[c.slots,c.wrong]) fun n hn=>by
    simp only [List.mem_cons,List.not_mem_nil,or_false] at hn
    rcases hn with rfl | rfl
    · exact h1
    · exact h2
  have e1:lineV numO ((cabLs c).getD 1 []) wHomes=(c.homes,true):=nums_text h3
  have e2:(cabLs c).drop 2=c.loans.map loanL:=by simp [cabLs]
  have e3:(c.loans.map loanL).map (fun l=>(loanV l).1)=c.loans:=by
    rw [List.map_map]
    conv=>rhs;rw [← List.map_id c.loans]
    exact List.map_congr_left fun l hl=>by show (loanV (loanL l)).1=l;rw [loanV_text h' (h4 l hl)]
  have e4:((c.loans.map loanL).all fun l=>(loanV l).2)=true:=List.all_eq_true.2 fun l hl=>by
    obtain ⟨q,hq,rfl⟩:=List.mem_map.1 hl
    rw [loanV_text h' (h4 q hq)]
  unfold cabV
  rw [if_neg (by simp [cabLs]),e0,if_neg (by simp),e1,e2]
  dsimp only
  rw [e3,e4]
  show (c,true && true && rcabX c)=(c,true)
  rw [h.1]
  rfl
theorem cab_says {ls:List (List Str)} (hne:∀ l∈ls,l ≠ []):LinesSay cabX cabLs ls (cabV ls).1 (cabV ls).2 :=
  ⟨fun h=>cabV_inv hne h,fun h y hy e=>by rw [← e,cabV_text hy] at h;cases h⟩
end Go.Bk
namespace Go.Eng
open Go Go.RowKit
end Go.Eng
namespace Go.Bk
open Go Go.Eng Go.RowKit
theorem own_ptrB {sz:Nat} {x:Eng.Own} {k:Nat} {xs:List Value} (h:OwnOk sz x k xs) (hk:0 < k):ownQ x=some ⟨ownK x,0,none⟩:=by
  obtain ⟨b,c,r,rfl,_⟩:=h.has hk
  rfl
theorem row_flat {α:Type} {l:List (OL α)} {a:OL α}:((l++[a]).map rowC).flatten=(l.map rowC).flatten++rowC a:=by simp
theorem cutL_len (a:UInt8):∀ s:Str,(cutL a s).length≤s.length + 1
  | []=>Nat.le_refl _
  | c::s=>by
    have ih:=cutL_len a s
    by_cases h:c=a
    · subst h
      rw [cutL_hit]
      simp only [List.length_cons]
      omega
    · cases e:cutL a s with
      | nil=>exact absurd e (cutL_ne _ _)
      | cons w r =>
        rw [e] at ih
        rw [cutL_cons h e]
        simp only [List.length_cons] at ih ⊢
        omega
theorem cutL_short (a:UInt8):∀ s:Str,∀ w∈cutL a s,w.length≤s.length
  | [],w,h=>by simp [cutL] at h;subst h;exact Nat.le_refl _
  | c::s,w,h=>by
    have ih:=cutL_short a s
    by_cases hc:c=a
    · subst hc
      rw [cutL_hit] at h
      rcases List.mem_cons.1 h with rfl | h
      · exact Nat.zero_le _
      · exact Nat.le_succ_of_le (ih w h)
    · cases e:cutL a s with
      | nil=>exact absurd e (cutL_ne _ _)
      | cons v r =>
        rw [cutL_cons hc e] at h
        rw [e] at ih
        rcases List.mem_cons.1 h with rfl | h
        · exact Nat.succ_le_succ (ih v (by simp))
        · exact Nat.le_succ_of_le (ih w (List.mem_cons_of_mem _ h))
theorem ownB_some14 {e:TypeId} {b c:Nat} {r xs:List Value}:ownB e (some (b,c,r)) xs=[(b,.cells (xs++r).toArray e (0,0))]:=rfl
theorem rows_end {s:Str} {L:List Str} (h:cutL 10 s=L) (hn:0 < L.length) {u:Str} (hu:L[L.length - 1]'(by omega)=u) {zl:List (OL Str)} (h1:zl.map (·.2)=(L.take (L.length - 1)).map (cutL 32)) (h2:zl.length=L.length - 1):(zl.map (·.2),decide (u=[]) && decide (0 < (zl.length:Int)))=rowsR s:=by
  unfold rowsR
  rw [h,h1,← List.dropLast_eq_take,h2]
  have e1:L.getLast? = some u:=by rw [List.getLast?_eq_getElem?,List.getElem?_eq_getElem (by omega),hu]
  rw [e1]
  have e2:decide (0 < ((L.length - 1:Nat):Int))=decide (1 < L.length):=by
    congr 1
    exact propext ⟨fun h=>by omega,fun h=>by omega⟩
  rw [e2]
  simp
theorem take_map_s {α β:Type} {f:α→β} {l:List α} {k:Nat} (hk:k < l.length) {y:α} (hy:l[k]=y):(l.take (k + 1)).map f=(l.take k).map f++[f y]:=by
  rw [List.take_succ_eq_append_getElem hk,List.map_append,hy]
  rfl
structure RowsOk (ls:List (List Str)):Prop where
  few:ls.length≤5000
  ne:∀ l∈ls,l ≠ []
  len:∀ l∈ls,l.length≤5000
  str:∀ l∈ls,∀ y∈l,y.length≤5000
theorem rows_rok {s:Str} (hs:s.length≤4096):RowsOk (rowsR s).1:=by
  have h1:=cutL_len 10 s
  have h2:=cutL_short 10 s
  have hm:∀ l∈(rowsR s).1,∃ j:Str,j.length≤s.length∧l=cutL 32 j:=fun l hl=>by
    unfold rowsR at hl
    obtain ⟨j,hj,rfl⟩:=List.mem_map.1 hl
    exact ⟨j,h2 j (List.dropLast_subset _ hj),rfl⟩
  refine ⟨?_,fun l hl=>?_,fun l hl=>?_,fun l hl y hy=>?_⟩
  · unfold rowsR
    rw [List.length_map,List.length_dropLast]
    omega
  · obtain ⟨j,_,rfl⟩:=hm l hl;exact cutL_ne _ _
  · obtain ⟨j,hj,rfl⟩:=hm l hl;have:=cutL_len 32 j;omega
  · obtain ⟨j,hj,rfl⟩:=hm l hl;have:=cutL_short 32 j y hy;omega
theorem RowsOk.pos {ls:List (List Str)} (h:RowsOk ls) {l:List Str} (hl:l∈ls):0 < l.length:=List.length_pos_iff.2 (h.ne l hl)
abbrev LsA:=SA (SA Str)
def LsA.pl (x:LsA):List (List Str):=x.l.map (·.l)
structure LsOk (W:World) (x:LsA):Prop where
  rows:x.ok SA.cell 1 W
  each:∀ r∈x.l,r.ok strC 1 W
theorem LsOk.mono0 {W w:World} {x:LsA} {news:Blks} (h:LsOk W x) (hm:Mem W [] news w):LsOk w x:=⟨SA.ok.mono0 h.rows (by decide) hm,fun r hr=>SA.ok.mono0 (h.each r hr) (by decide) hm⟩
theorem ownB_none {e:TypeId} {xs:List Value}:ownB e none xs=[]:=rfl
theorem lineV_len {α:Type} {f:Str→Option α} {ls:List Str} {w:Str} {l:List α} {b:Bool} (h:(l,b)=lineV f ls w):l.length≤ls.length:=by
  unfold lineV at h
  split at h
  · rename_i r hr
    cases h
    have:=allP_len hr
    rw [List.length_drop] at this
    omega
  · cases h;exact Nat.zero_le _
theorem pl_getD {x:LsA} {i:Nat} (hi:i < x.l.length) {r:SA Str} (hr:x.l[i]=r):(LsA.pl x).getD i []=r.l:=by
  unfold LsA.pl
  rw [List.getD_eq_getElem?_getD,List.getElem?_map,List.getElem?_eq_getElem hi,hr]
  rfl
theorem pl_len (x:LsA):(LsA.pl x).length=x.l.length:=by unfold LsA.pl;rw [List.length_map]
theorem pl_mem {x:LsA} {r:SA Str} (h:r∈x.l):r.l∈LsA.pl x:=List.mem_map.2 ⟨r,h,rfl⟩
end Go.Bk
namespace Go.Proofs.YtleamcmljcdapaaGreatDoor
open Go Go.Eng Go.Bk Go.RowKit

def stRows (l:List (OL Str)):Blks:=(l.map fun r=>stB r).flatten
theorem stRows_snoc (l:List (OL Str)) (r:OL Str):stRows (l++[r])=stRows l++stB r:=by simp [stRows]
abbrev rwB (z:OL (OL Str)):Blks:=ownB 166 z.1 (z.2.map rowC).flatten
theorem rows_calls14 (s:Str) (hs:s.length≤10000) (W:World):Calls Tryz.prog 46 #[.string (bs s)] W (Grow W [] (fun z:OL (OL Str)×Bool=>.tuple #[OL.v z.1,.bool z.2]) (fun z=>rwB z.1++(stRows z.1.2++[])) (fun z=>OL.ok z.1 rowC 1∧(∀ r∈z.1.2,OL.ok r strC 1)∧(z.1.2.map (·.2),z.2)=rowsR s)):=by
  have hcl:=cutL_len 10 s
  have hcn:=List.length_pos_iff.2 (cutL_ne 10 s)
  obtain ⟨L,hLd⟩:∃ L,cutL 10 s=L:=⟨_,rfl⟩
  have hsh:=cutL_short 10 s
  rw [hLd] at hcl hcn hsh
  refine calls_start Tryz.func46 rfl rfl ?_
  refine st ?_
  refine RunL.callNT (isCall_func rfl ent_105) rfl rfl rfl (fun w hm=>grow_news (cut_calls14 s 10 (by omega) w)) (fun z8=>?_)
  obtain ⟨⟨y8,l8⟩,o8,e8⟩:=z8
  dsimp only at e8
  rw [hLd] at e8
  subst e8
  have hy8:OwnOk 1 y8 l8.length (l8.map strC).flatten:=o8
  dsimp only [OL.v]
  refine vp rfl rfl rfl rfl ?_
  refine nsr ?_
  refine vp rfl rfl rfl rfl ?_
  refine nnx ?_
  refine RunC.seq ?_
  refine RunC.seq ?_
  rw [ownV_slice hy8]
  refine st ?_
  refine RunC.loopX (X:=OL (OL Str)) (n0:=[]) (l8.length - 1) (fun k x q=>(6,.int .i64 (k:Int))::(5,ownV x.1 x.2.length)::q) (fun _ _=>_) (fun k x=>[]) (fun k x=>(ownB 9 y8 (l8.map strC).flatten++(ownB 166 x.1 (x.2.map rowC).flatten++(stRows x.2++[])))) (fun k x=>OL.ok x rowC 1∧(∀ r∈x.2,OL.ok r strC 1)∧x.2.map (·.2)=(l8.take k).map (cutL 32)∧x.2.length=k) (none,[]) ⟨ol_nil,fun r h=>(by cases h),rfl,rfl⟩ rfl (Sub.consE (t:=6) rfl rfl (Sub.consE (t:=5) rfl rfl (Sub.cons (t:=4) rfl (Sub.nil _)))) (Pick.same rfl) ?_
  intro k x kN kI
  obtain ⟨zo,zl⟩:=x
  obtain ⟨hzo,kI1,kI2,kI3⟩:=kI
  dsimp only at kI1 kI2 kI3 ⊢
  refine st ?_
  refine lv (Val.add rfl rfl (IntWalk.i64_in _ ⟨by omega,by omega⟩)) ?_
  refine lv (Val.len_sl rfl sl_166) ?_
  refine cn rfl ?_ ?_
  ·intro c0'
   have hk:k < l8.length:=by omega
   obtain ⟨v,hv⟩:∃ v,l8[k]=v:=⟨_,rfl⟩
   have hvl:=hsh v (hv ▸ List.getElem_mem hk)
   refine st ?_
   refine lv (Val.indexAddr_slp rfl rfl sl_166 (by omega) (by omega) (own_ptrB hy8 hcn)) ?_
   refine lv (Val.load_gen rfl (fun w hm=>Sl.loadM1 (own_sl (f:=strC) (e:=9) (fun _=>rfl) (by decide) hy8 (fun b o h=>hm.at (by simp [h]))) (by decide) (Mem.refl w) (by simp) ty_9 hk (v:=.string (bs v)) (by simp [strC,hv]))) ?_
   refine RunL.callNA [] _ rfl (isCall_func rfl ent_105) rfl rfl rfl (fun w hm=>grow_news (cut_calls14 v 32 (by omega) w)) (fun z21=>?_)
   obtain ⟨⟨y21,l21⟩,o21,e21⟩:=z21
   dsimp only at e21
   subst e21
   have hy21:OL.ok (y21,cutL 32 v) strC 1:=o21
   dsimp only [OL.v]
   refine RunL.new (New.buildSliceOwn (x:=.tmp 21) rfl sl_84 zero_166) rfl rfl rfl (fun b22=>?_)
   refine RunL.keep (Sub.refl _) (news':=[(b22,.cells [ownV y21 (cutL 32 v).length].toArray 166 (0,0))]++(ownB 166 zo (zl.map rowC).flatten++(stB (y21,cutL 32 v)++(ownB 9 y8 (l8.map strC).flatten++(stRows zl++[]))))) (Pick.cnt fun x=>by simp only [nC,List.nil_append,rwB,stB,stRows_snoc,row_flat,ownB_some14];omega) ?_
   refine RunL.append (A:=[(b22,_)]) (B:=_) (x:=zo) (ys:=rowC (y21,cutL 32 v)) ap_84 rfl rfl rfl hzo rfl (fun h=>by cases h) (fun w hm=>src_blk (hm.at (.head _))) (fun u hu=>by simp only [rowC,List.mem_singleton] at hu;subst hu;exact own_one' _ _) (by simp only [maxLen];show zl.length + 1≤_;omega) (by show (zl.length + 1) * 24≤140737488355328;omega) rfl (fun z23 hz23=>?_)
   refine st ?_
   refine lv (Val.add rfl rfl (IntWalk.i64_in _ ⟨by omega,by omega⟩)) ?_
   exact RunE.roundX (z23,zl++[(y21,cutL 32 v)]) (by omega) ⟨ol_snoc (z:=zo) (f:=rowC) (a:=(y21,cutL 32 v)) hz23,(fun r hr=>by rcases List.mem_append.1 hr with h | h;exact kI1 r h;rw [List.mem_singleton] at h;subst h;exact hy21),(by show (zl++_).map _=_;rw [take_map_s hk hv,List.map_append,kI2];rfl),by show (zl++_).length=_;rw [List.length_append,kI3];rfl⟩ rfl (Sub.consE (t:=6) rfl rfl (Sub.consE (t:=5) rfl (by simp) (Sub.cons (t:=4) rfl (Sub.nil _)))) (Pick.cnt fun x=>by simp only [nC,List.nil_append,rwB,stB,stRows_snoc,row_flat,ownB_some14];omega)
  intro c0'
  obtain rfl:k=l8.length - 1:=by omega
  obtain ⟨u,hu⟩:∃ u,l8[l8.length - 1]'(by omega)=u:=⟨_,rfl⟩
  refine RunC.exit ?_
  refine RunE.pass_exit ?_
  refine RunE.pass_exit ?_
  refine RunE.block_here ?_
  refine st ?_
  refine lv (Val.len_sl rfl sl_166) ?_
  refine lv (Val.subN (a:=l8.length) (b:=1) (l8.length - 1) rfl rfl (by omega) (i64_inN (by omega))) ?_
  refine lv (Val.indexAddr_slp rfl rfl sl_166 (by omega) (by omega) (own_ptrB hy8 hcn)) ?_
  refine lv (Val.load_gen rfl (fun w hm=>Sl.loadM1 (own_sl (f:=strC) (e:=9) (fun _=>rfl) (by decide) hy8 (fun b o h=>hm.at (by simp [h]))) (by decide) (Mem.refl w) (by simp) ty_9 (show l8.length - 1 < l8.length by omega) (v:=.string (bs u)) (by simp [strC,hu]))) ?_
  refine lv (Val.eqlStr rfl rfl) ?_
  refine RunL.andPart (dj:=32) (dp:=36) 4 rfl (fun g32=>by
    have g32':=g32
    try simp only [nH] at g32'
    refine st ?_
    refine RunL.val (Val.len_own rfl sl_84 hzo) rfl rfl rfl ?_
    refine sv ?_
    exact RunL.segEnd (Sub.cons rfl (Sub.skip rfl (Sub.skip rfl (Sub.skip rfl (Sub.skip rfl (Sub.same rfl (by rw [g32]) (Sub.refl _))))))) (List.Sublist.refl _)
  ) (fun g32=>by
    have g32':=g32
    try simp only [nH] at g32'
    iterate 3 refine RunL.no rfl rfl rfl ?_
    refine sv ?_
    exact RunL.segEnd (Sub.cons rfl (Sub.skip rfl (Sub.skip rfl (Sub.skip rfl (Sub.skip rfl (Sub.same rfl (by rw [g32]) (Sub.refl _))))))) (List.Sublist.refl _)
  ) ?_
  refine st ?_
  refine RunC.ret ?_
  exact RunE.retG ((zo,zl),decide (u=[]) && decide (0 < (zl.length:Int))) ⟨hzo,kI1,rows_end hLd hcn hu kI2 kI3⟩ (.r2 rfl (.tmp rfl) (.tmp rfl)) rfl (Pick.cnt fun x=>by simp only [nC,List.nil_append,rwB,stB,stRows_snoc,row_flat,ownB_some14];omega)
end Go.Proofs.YtleamcmljcdapaaGreatDoor
namespace Go.Bk
open Go Go.Eng Go.RowKit
theorem rowsS_eq {l:List (OL Str)} (h:∀ r∈l,OL.ok r strC 1):(l.map rowC)=(l.map OL.sa).map SA.cell:=by
  rw [List.map_map]
  refine List.map_congr_left fun r hr=>?_
  show [ownV r.1 r.2.length]=[(OL.sa r).v]
  rw [OL.sa_v (h r hr)]
def lsA (y:Eng.Own) (l:List (OL Str)):LsA:=⟨l.map OL.sa,ownQ y,ownK y,0,ownC y⟩
theorem lsA_pl (y:Eng.Own) (l:List (OL Str)):LsA.pl (lsA y l)=l.map (·.2):=by
  unfold LsA.pl lsA
  rw [List.map_map]
  rfl
theorem lsA_v {y:Eng.Own} {l:List (OL Str)} (h:OL.ok (y,l) rowC 1):SA.v (lsA y l)=ownV y l.length:=by
  show Value.slice (ownQ y) (l.map OL.sa).length (ownC y)=_
  rw [List.length_map,ownV_slice (show OwnOk 1 y l.length _ from h)]
end Go.Bk
namespace Go.Proofs.YtleamcmljcdapaaGreatDoor
open Go Go.Eng Go.Bk Go.RowKit

theorem lsA_ok {y:Eng.Own} {l:List (OL Str)} {w:World} (h:OL.ok (y,l) rowC 1) (hr:∀ r∈l,OL.ok r strC 1) (hat:∀ b o,(b,o)∈rwB (y,l)++stRows l→w.heap[b]? = some o):LsOk w (lsA y l):=by
  refine ⟨?_,fun r hr2=>?_⟩
  · show Sl w (ownQ y) (ownK y) 0 1 ((l.map OL.sa).map SA.cell)
    rw [← rowsS_eq hr]
    exact own_sl (f:=rowC) (e:=166) (fun _=>rfl) (by decide) h (fun b o hb=>hat b o (List.mem_append_left _ hb))
  · obtain ⟨q,hq,rfl⟩:=List.mem_map.1 hr2
    exact own_sl (f:=strC) (e:=9) (fun _=>rfl) (by decide) (hr q hq) (fun b o hb=>hat b o (List.mem_append_right _ (List.mem_flatten.2 ⟨_,List.mem_map.2 ⟨q,hq,rfl⟩,hb⟩)))
end Go.Proofs.YtleamcmljcdapaaGreatDoor
namespace Go.Bk
open Go Go.Eng Go.RowKit
def cabK (c:Cb) (k:Nat):Str:=lineS [wCab,Lib.itoa c.slots,Lib.itoa c.wrong]++lineS (wHomes::c.homes.map Lib.itoa)++((c.loans.take k).map loanS).flatten
theorem cabK_s {c:Cb} {k:Nat} (hk:k < c.loans.length) {x:Ln} (hx:c.loans[k]=x):cabK c (k + 1)=cabK c k++loanS x:=by
  unfold cabK
  rw [List.take_succ_eq_append_getElem hk,List.map_append,List.flatten_append,hx]
  simp
theorem cabK_all (c:Cb):cabK c c.loans.length=cabS c:=by unfold cabK cabS;rw [List.take_length]
theorem cabK_le (c:Cb):∀ {k:Nat},k≤c.loans.length→(cabK c k).length≤(cabS c).length:=by
  intro k hk
  have e:cabS c=cabK c k++((c.loans.drop k).map loanS).flatten:=by
    unfold cabK cabS
    rw [List.append_assoc _ _ ((c.loans.drop k).map loanS).flatten,← List.flatten_append,← List.map_append,List.take_append_drop]
  rw [e,List.length_append]
  omega
theorem cabV_0 {ls:List (List Str)} (h:ls.length < 2):(cabV ls).2=false:=by unfold cabV;rw [if_pos h]
theorem cabV_1 {ls:List (List Str)} {l:List Int} {b:Bool} (e:(l,b)=lineV numO (ls.getD 0 []) wCab) (h:b=false∨¬ (l.length:Int)=2):(cabV ls).2=false:=by
  unfold cabV
  split
  · rfl
  · rw [← e,if_pos (by rcases h with h | h;exact .inl h;exact .inr (by show l.length ≠ 2;omega))]
theorem cabV_2 {ls:List (List Str)} {a b:Int} {l:List Int} {i:Bool} {ws:List Ln} {q:Bool} (h4:2≤ls.length) (e0:([a,b],true)=lineV numO (ls.getD 0 []) wCab) (e1:(l,i)=lineV numO (ls.getD 1 []) wHomes) (ew:ws=(ls.drop 2).map fun l=>(loanV l).1) (eb:q=(i && (ls.drop 2).all fun l=>(loanV l).2)):cabV ls=(⟨a,l,b,ws⟩,q && rcabX ⟨a,l,b,ws⟩):=by
  subst ew eb
  unfold cabV
  rw [if_neg (by omega),← e0,if_neg (by simp),← e1]
  rfl
theorem drop_all_s {p:List Str→Bool} {ls:List (List Str)} {k:Nat} (hk:2 + k < ls.length) {q:List Str} (hq:ls.getD (2 + k) []=q):((ls.drop 2).take (k + 1)).all p=(((ls.drop 2).take k).all p && p q):=by
  have hk2:k < (ls.drop 2).length:=by rw [List.length_drop];omega
  rw [List.take_succ_eq_append_getElem hk2,List.all_append]
  have e:(ls.drop 2)[k]=q:=by
    rw [← hq,List.getElem_drop,List.getD_eq_getElem?_getD,List.getElem?_eq_getElem (by omega)]
    rfl
  rw [e]
  simp
theorem drop_map_s {α:Type} {p:List Str→α} {ls:List (List Str)} {k:Nat} (hk:2 + k < ls.length) {q:List Str} (hq:ls.getD (2 + k) []=q):((ls.drop 2).take (k + 1)).map p=((ls.drop 2).take k).map p++[p q]:=by
  have hk2:k < (ls.drop 2).length:=by rw [List.length_drop];omega
  rw [List.take_succ_eq_append_getElem hk2,List.map_append]
  have e:(ls.drop 2)[k]=q:=by
    rw [← hq,List.getElem_drop,List.getD_eq_getElem?_getD,List.getElem?_eq_getElem (by omega)]
    rfl
  rw [e]
  rfl
theorem drop_end {ls:List (List Str)}:(ls.drop 2).take (ls.length - 2)=ls.drop 2:=List.take_of_length_le (by rw [List.length_drop];omega)
theorem loan_len3 {l:List Str} (h:¬ l.length=3):loanV l=(zeroLn,false):=by unfold loanV;rw [if_pos h]
end Go.Bk
namespace Go.Proofs.YtleamcmljcdapaaGreatDoor
open Go Go.Eng Go.Bk Go.RowKit

theorem rloanS_calls (l:Ln) (hv:LnV l) (W:World) (hL:Lw Tryz.prog W):Calls Tryz.prog 51 #[.agg l.cells.toArray] W (Pure (.string (bs (loanS l))) W):=by
  have hi:=itoa_len hv.slot
  have h2:∀ (a b:Int) (_:In64 a) (_:In64 b),∀ n∈[a,b],In64 n:=fun a b ha hb n hn=>by
    simp only [List.mem_cons,List.not_mem_nil,or_false] at hn
    rcases hn with rfl | rfl <;> assumption
  refine calls_start Tryz.func51 rfl rfl ?_
  refine st ?_
  refine RunL.new (New.box rfl) rfl rfl rfl (fun b1=>?_)
  refine st ?_
  refine lv (Val.fieldAddr rfl fld_98_0) ?_
  refine lv (Val.load_one rfl (.head _) ty_3 rfl) ?_
  refine cn rfl ?_ ?_
  ·intro c0'
   refine st ?_
   refine lv (Val.fieldAddr rfl fld_98_1) ?_
   refine lv (Val.load_one rfl (.head _) ty_3 rfl) ?_
   refine lv (Val.fieldAddr rfl fld_98_2) ?_
   refine lv (Val.load_one rfl (.head _) ty_3 rfl) ?_
   refine RunL.new (New.buildSlice (parts:=[(0,.tmp 8),(1,.tmp 10)]) rfl sl_27 zero_3 rfl rfl rfl rfl) rfl rfl rfl (fun b11=>?_)
   refine RunL.callP (isCall_func rfl ent_43) rfl rfl rfl (fun w hm=>rnums_calls wTake ⟨[l.card,l.person],some ⟨b11,0,none⟩,b11,0,2⟩ w (hL.mono hm) (by decide) (Sl.rowsR (xs:=[l.card,l.person].map intC) (t:=[]) (hm.at (.head _)) (by simp [intC])) (by show 2≤_;decide) (h2 _ _ hv.card hv.person)) ?_
   refine st ?_
   refine RunC.ret ?_
   refine RunE.block_ret ?_
   refine RunE.pass_ret ?_
   exact RunE.retP (.r1 rfl (.tmp rfl)) (by unfold loanS;rw [if_neg (by omega),if_neg (by omega)];rfl)
  intro c0'
  refine st ?_
  refine cn rfl ?_ ?_
  ·intro c1'
   refine st ?_
   refine lv (Val.fieldAddr rfl fld_98_1) ?_
   refine lv (Val.load_one rfl (.head _) ty_3 rfl) ?_
   refine lv (Val.fieldAddr rfl fld_98_2) ?_
   refine lv (Val.load_one rfl (.head _) ty_3 rfl) ?_
   refine RunL.new (New.buildSlice (parts:=[(0,.tmp 16),(1,.tmp 18)]) rfl sl_27 zero_3 rfl rfl rfl rfl) rfl rfl rfl (fun b19=>?_)
   refine RunL.callP (isCall_func rfl ent_43) rfl rfl rfl (fun w hm=>rnums_calls wBack ⟨[l.card,l.person],some ⟨b19,0,none⟩,b19,0,2⟩ w (hL.mono hm) (by decide) (Sl.rowsR (xs:=[l.card,l.person].map intC) (t:=[]) (hm.at (.head _)) (by simp [intC])) (by show 2≤_;decide) (h2 _ _ hv.card hv.person)) ?_
   refine st ?_
   refine RunC.ret ?_
   refine RunE.block_ret ?_
   refine RunE.pass_ret ?_
   exact RunE.retP (.r1 rfl (.tmp rfl)) (by unfold loanS;rw [if_neg (by omega),if_pos (by omega)];rfl)
  intro c1'
  refine st ?_
  refine lv (Val.fieldAddr rfl fld_98_1) ?_
  refine lv (Val.load_one rfl (.head _) ty_3 rfl) ?_
  refine cn rfl ?_ ?_
  ·intro c2'
   refine st ?_
   refine lv (Val.fieldAddr rfl fld_98_3) ?_
   refine lv (Val.load_one rfl (.head _) ty_3 rfl) ?_
   refine RunL.callP (isCall_func rfl ent_100) rfl rfl rfl (fun w hm=>rnum_calls l.slot hv.slot w (hL.mono hm)) ?_
   refine lv (Val.strAdd (a:=[108,111,111,107,32]) rfl rfl (by show 5 + _≤_;omega)) ?_
   refine lv (Val.strAdd (b:=[32,110,111,110,101,10]) rfl rfl (by rw [List.length_append];show 5 + _ + 6≤_;omega)) ?_
   refine RunC.ret ?_
   refine RunE.pass_ret ?_
   exact RunE.retP (.r1 rfl (.tmp rfl)) (by have hk:=hv.kind;unfold loanS;rw [if_pos (by omega),if_pos (by omega)];simp [lineS,Lib.join,List.intercalate,wLook,wNone,nl])
  intro c2'
  refine st ?_
  refine lv (Val.fieldAddr rfl fld_98_3) ?_
  refine lv (Val.load_one rfl (.head _) ty_3 rfl) ?_
  refine lv (Val.fieldAddr rfl fld_98_1) ?_
  refine lv (Val.load_one rfl (.head _) ty_3 rfl) ?_
  refine RunL.new (New.buildSlice (parts:=[(0,.tmp 30),(1,.tmp 32)]) rfl sl_27 zero_3 rfl rfl rfl rfl) rfl rfl rfl (fun b33=>?_)
  refine RunL.callP (isCall_func rfl ent_43) rfl rfl rfl (fun w hm=>rnums_calls wLook ⟨[l.slot,l.card],some ⟨b33,0,none⟩,b33,0,2⟩ w (hL.mono hm) (by decide) (Sl.rowsR (xs:=[l.slot,l.card].map intC) (t:=[]) (hm.at (.head _)) (by simp [intC])) (by show 2≤_;decide) (h2 _ _ hv.slot hv.card)) ?_
  refine st ?_
  refine RunC.ret ?_
  exact RunE.retP (.r1 rfl (.tmp rfl)) (by have hk:=hv.kind;unfold loanS;rw [if_pos (by omega),if_neg (by omega)];rfl)
set_option maxHeartbeats 1000000 in
theorem rWriteCabinet_calls (c:CbA) (hs:CbS c) (W:World) (hL:Lw Tryz.prog W) (hC:CbOk W c):Calls Tryz.prog 16 #[c.v] W (Pure (writeV (cabX c.pl) (cabS c.pl)) W):=by
  have hcr:cabX c.pl=(rcabX c.pl && c.loans.l.all plainL):=cab_r c.pl
  have h2:∀ (a b:Int) (_:In64 a) (_:In64 b),∀ n∈[a,b],In64 n:=fun a b ha hb n hn=>by
    simp only [List.mem_cons,List.not_mem_nil,or_false] at hn
    rcases hn with rfl | rfl <;> assumption
  refine calls_start Tryz.func16 rfl rfl ?_
  refine st ?_
  refine RunL.new (New.box rfl) rfl rfl rfl (fun b1=>?_)
  refine st ?_
  refine lv (Val.load_agg rfl (.head _) ty_30 rfl) ?_
  refine RunL.callP (isCall_func rfl ent_33) rfl rfl rfl (fun w hm=>rCabinet_calls c hs w (hC.mono0 hm)) ?_
  refine st ?_
  refine RunL.orPart (dj:=9) (dp:=13) 4 rfl (fun g9=>by
    have g9':=g9
    try simp only [nH] at g9'
    refine lv (Val.load_agg rfl (.head _) ty_30 rfl) ?_
    refine RunL.callP (isCall_func rfl ent_34) rfl rfl rfl (fun w hm=>rplain_calls c hs w (hC.mono0 hm)) ?_
    refine sv ?_
    exact RunL.segEnd (Sub.cons rfl (Sub.skip rfl (Sub.skip rfl (Sub.skip rfl (Sub.skip rfl (Sub.same rfl (by rw [g9]) (Sub.refl _))))))) (List.Sublist.refl _)
  ) (fun g9=>by
    have g9':=g9
    try simp only [nH] at g9'
    iterate 3 refine RunL.no rfl rfl rfl ?_
    refine sv ?_
    exact RunL.segEnd (Sub.cons rfl (Sub.skip rfl (Sub.skip rfl (Sub.skip rfl (Sub.skip rfl (Sub.same rfl (by rw [g9]) (Sub.refl _))))))) (List.Sublist.refl _)
  ) ?_
  refine st ?_
  refine cn rfl ?_ ?_
  ·intro c0'
   refine st ?_
   refine RunC.ret ?_
   refine RunE.pass_ret ?_
   exact RunE.retP (.r2 rfl (.tmp rfl) (.tmp rfl)) (by have hX:cabX c.pl=false:=(by rw [hcr];rcases c0' with h | h <;> rw [h] <;> simp);rw [hX];rfl)
  intro c0'
  have hX:cabX c.pl=true:=by rw [hcr,c0'.1,c0'.2];rfl
  have hv:=cab_v hX
  have hll:=hv.loans
  have hK0:lineS [wCab,Lib.itoa c.slots,Lib.itoa c.wrong]++lineS (wHomes::c.homes.l.map Lib.itoa)=cabK c.pl 0:=(by unfold cabK;rw [List.take_zero];simp [CbA.pl])
  refine st ?_
  refine RunC.draw 8 fol_ (.cons .here rfl .nil) ?_
  refine va 0 rfl (Val.fieldAddr rfl fld_30_0) rfl rfl rfl (.cons .here rfl .nil) rfl ?_
  refine va 1 rfl (Val.load_one rfl (.head _) ty_3 rfl) rfl rfl rfl (.cons .here rfl .nil) rfl ?_
  refine va 2 rfl (Val.fieldAddr rfl fld_30_2) rfl rfl rfl (.cons .here rfl .nil) rfl ?_
  refine va 3 rfl (Val.load_one rfl (.head _) ty_3 rfl) rfl rfl rfl (.cons .here rfl .nil) rfl ?_
  refine va 6 rfl (Val.fieldAddr rfl fld_30_1) rfl rfl rfl (.cons .here rfl .nil) rfl ?_
  refine va 7 rfl (Val.load_one rfl (.head _) ty_27 rfl) rfl rfl rfl (.cons .here rfl .nil) rfl ?_
  refine RunA.one (i:=4) (by kernel_rfl) (by kernel_rfl) ?_
  refine RunI.new rfl (New.buildSlice (parts:=[(0,.tmp 15),(1,.tmp 17)]) rfl sl_27 zero_3 rfl rfl rfl rfl) rfl rfl rfl (fun b18=>(RunK.toA (.cons .here rfl (.cons .here rfl .nil)) (.cons (.there .here) rfl .nil) rfl ?_))
  refine RunA.one (i:=5) (by kernel_rfl) (by kernel_rfl) ?_
  refine RunI.callP rfl (isCall_func rfl ent_43) rfl rfl rfl (fun w hm=>rnums_calls wCab ⟨[c.slots,c.wrong],some ⟨b18,0,none⟩,b18,0,2⟩ w (hL.mono hm) (by decide) (Sl.rowsR (xs:=[c.slots,c.wrong].map intC) (t:=[]) (hm.at (.head _)) (by simp [intC])) (by show 2≤_;decide) (h2 _ _ hv.slots hv.wrong)) (RunK.toA (.cons .here rfl (.cons .here rfl .nil)) (.cons .here rfl (.cons .here rfl .nil)) rfl ?_)
  refine RunA.toB (by kernel_rfl) ?_
  refine RunB.one (i:=8) (by kernel_rfl) ?_
  refine RunI.callP rfl (isCall_func rfl ent_43) rfl rfl rfl (fun w hm=>rnums_calls wHomes c.homes w (hL.mono hm) (by decide) (SA.ok.mono0 hC.homes (by decide) hm) (by have:=hv.homes;omega) hv.hom64) (RunK.toB ?_)
  refine RunB.one (i:=9) (by kernel_rfl) ?_
  refine RunI.val rfl (Val.strAdd rfl rfl (by rw [← List.length_append];exact Nat.le_trans (Nat.le_of_eq (congrArg List.length hK0)) (Nat.le_trans (Nat.le_trans (cabK_le c.pl (Nat.zero_le _)) (cab_small hX)) (by decide)))) rfl rfl rfl (RunK.toB ?_)
  refine RunB.one (i:=10) (by kernel_rfl) ?_
  refine RunI.val rfl (Val.pure rfl) rfl rfl rfl (RunK.toB ?_)
  refine RunB.done (by kernel_rfl) ?_
  refine st ?_
  refine RunC.loopK (c.loans.l.length) (fun k q=>(5,.int .i64 (k:Int))::(4,.string (bs (cabK c.pl k)))::q) (fun _=>_) (fun _=>[]) (fun _=>True) trivial rfl (Sub.consE (t:=5) rfl rfl (Sub.consE (t:=4) rfl (by rw [← hK0];rfl) (Sub.cons (t:=1) rfl (Sub.nil _)))) (.cons (.there .here) rfl .nil) ?_
  intro k kN kI
  clear kI
  refine st ?_
  refine lv (Val.fieldAddr rfl fld_30_3) ?_
  refine lv (Val.load_one rfl (.head _) ty_28 rfl) ?_
  refine lv (Val.len_sl rfl sl_28) ?_
  refine cn rfl ?_ ?_
  ·intro c1'
   have hk:k < c.loans.l.length:=by omega
   obtain ⟨y,hy⟩:∃ y,c.loans.l[k]=y:=⟨_,rfl⟩
   have hyv:=hv.each y (hy ▸ List.getElem_mem hk)
   refine st ?_
   refine lv (Val.fieldAddr rfl fld_30_3) ?_
   refine lv (Val.load_one rfl (.head _) ty_28 rfl) ?_
   refine lv (Val.indexAddr_slp rfl rfl sl_28 (by omega) (by omega) (Sl.ptrM hC.loans hk)) ?_
   refine lv (Val.load_gen rfl (fun w hm=>Sl.loadX hC.loans (by decide) hm (by simp) ty_98 hk hy)) ?_
   refine RunL.callP (isCall_func rfl ent_51) rfl rfl rfl (fun w hm=>rloanS_calls y hyv w (hL.mono hm)) ?_
   refine lv (Val.strAdd rfl rfl (by rw [← List.length_append,← cabK_s (c:=c.pl) hk hy];exact Nat.le_trans (Nat.le_trans (cabK_le c.pl hk) (cab_small hX)) (by decide))) ?_
   refine lv (Val.add rfl rfl (IntWalk.i64_in _ ⟨by omega,by omega⟩)) ?_
   exact RunE.round (by omega) trivial rfl (Sub.consE (t:=5) rfl rfl (Sub.consE (t:=4) rfl (by rw [cabK_s (c:=c.pl) hk hy]) (Sub.cons (t:=1) rfl (Sub.nil _)))) (.cons .here rfl .nil)
  intro c1'
  obtain rfl:k=c.loans.l.length:=by omega
  refine RunC.exit ?_
  refine RunE.pass_exit ?_
  refine RunE.pass_exit ?_
  refine RunE.block_here ?_
  refine st ?_
  refine RunC.ret ?_
  exact RunE.retP (.r2 rfl (.tmp rfl) (.tmp rfl)) (by rw [hX];show _=Value.tuple #[.string (bs (cabS c.pl)),_];rw [← cabK_all];rfl)
theorem readLoan_calls14 (r:SA Str) (W:World) (hr:r.ok strC 1 W) (hl:r.l.length≤100000) (hL:Lw Tryz.prog W):Calls Tryz.prog 120 #[r.v] W (Pure (.tuple #[.agg (loanV r.l).1.cells.toArray,.bool (loanV r.l).2]) W):=by
  refine calls_start Tryz.func120 rfl rfl ?_
  refine csr ?_
  refine RunL.new (New.alloc zero_98) rfl rfl rfl (fun b2=>?_)
  refine vp rfl rfl rfl rfl ?_
  refine nnx ?_
  refine RunC.seq ?_
  refine csr ?_
  refine vp rfl rfl rfl rfl ?_
  refine RunL.val (Val.len_sl rfl sl_166) rfl rfl rfl ?_
  refine vp rfl rfl rfl rfl ?_
  refine nnx ?_
  refine RunC.cond rfl ?_ ?_
  ·intro c0
   have c0':=c0;clear c0
   try simp only [nH] at c0'
   refine csr ?_
   refine RunL.val (Val.build (parts:=[]) rfl zero_98 places_98 rfl) rfl rfl rfl ?_
   refine RunL.sto (Sto.store rfl rfl .here ty_98 rfl rfl) rfl rfl ?_
   refine vp rfl rfl rfl rfl ?_
   refine nnx ?_
   refine RunC.ret ?_
   refine RunE.pass_ret ?_
   exact RunE.retP (.r2 rfl (.agg rfl (.head _) ty_98 rfl) (.tmp rfl)) (by rw [loan_len3 (by omega)];rfl)
  intro c0
  have c0':=c0;clear c0
  try simp only [nH] at c0'
  obtain ⟨a,b,c,h3⟩:=three (l:=r.l) (by omega)
  have g3:r.l.length=3:=(by rw [h3];rfl)
  have gv:loanV r.l=loan3 a b c:=(by rw [h3,loanV_three])
  refine RunC.skip ?_
  refine RunE.next ?_
  refine RunC.seq ?_
  refine csr ?_
  refine vp rfl rfl rfl rfl ?_
  refine RunL.val (Val.indexAddr_slp rfl rfl sl_166 (by omega) (by omega) (Sl.ptrM hr (i:=0) (by omega))) rfl rfl rfl ?_
  refine RunL.val (Val.load_gen rfl (fun w hm=>Sl.loadM1 hr (by decide) hm (by simp) ty_9 (i:=0) (show 0 < r.l.length by omega) (v:=.string (bs a)) (by simp [strC,h3]))) rfl rfl rfl ?_
  refine RunL.val (Val.eqlStr rfl rfl) rfl rfl rfl ?_
  refine vp rfl rfl rfl rfl ?_
  refine RunL.andPart (dj:=18) (dp:=23) 5 rfl (fun g18=>by
    have g18':=g18
    try simp only [nH] at g18'
    refine vp rfl rfl rfl rfl ?_
    refine RunL.val (Val.indexAddr_slp rfl rfl sl_166 (by omega) (by omega) (Sl.ptrM hr (i:=2) (by omega))) rfl rfl rfl ?_
    refine RunL.val (Val.load_gen rfl (fun w hm=>Sl.loadM1 hr (by decide) hm (by simp) ty_9 (i:=2) (show 2 < r.l.length by omega) (v:=.string (bs c)) (by simp [strC,h3]))) rfl rfl rfl ?_
    refine RunL.val (Val.eqlStr rfl rfl) rfl rfl rfl ?_
    refine vp rfl rfl rfl rfl ?_
    exact RunL.segEnd (Sub.cons rfl (Sub.skip rfl (Sub.skip rfl (Sub.skip rfl (Sub.skip rfl (Sub.skip rfl (Sub.same rfl (by rw [g18]) (Sub.refl _)))))))) (List.Sublist.refl _)
  ) (fun g18=>by
    have g18':=g18
    try simp only [nH] at g18'
    iterate 4 refine RunL.no rfl rfl rfl ?_
    refine vp rfl rfl rfl rfl ?_
    exact RunL.segEnd (Sub.cons rfl (Sub.skip rfl (Sub.skip rfl (Sub.skip rfl (Sub.skip rfl (Sub.skip rfl (Sub.same rfl (by rw [g18]) (Sub.refl _)))))))) (List.Sublist.refl _)
  ) ?_
  refine nnx ?_
  refine RunC.cond rfl ?_ ?_
  ·intro c1
   have c1':=c1;clear c1
   try simp only [nH] at c1'
   refine csr ?_
   refine vp rfl rfl rfl rfl ?_
   refine RunL.val (Val.indexAddr_slp rfl rfl sl_166 (by omega) (by omega) (Sl.ptrM hr (i:=1) (by omega))) rfl rfl rfl ?_
   refine RunL.val (Val.load_gen rfl (fun w hm=>Sl.loadM1 hr (by decide) hm (by simp) ty_9 (i:=1) (show 1 < r.l.length by omega) (v:=.string (bs b)) (by simp [strC,h3]))) rfl rfl rfl ?_
   refine RunL.callP (isCall_func rfl ent_150) rfl rfl rfl (fun w hm=>number_calls14 b w (hL.mono hm)) ?_
   iterate 5 refine vp rfl rfl rfl rfl ?_
   refine nsr ?_
   refine vp rfl rfl rfl rfl ?_
   refine RunL.val (Val.build (parts:=[(0,.const (.int .i64 2)),(3,.tmp 31),(1,.const (.int .i64 (-1)))]) rfl zero_98 places_98 rfl) rfl rfl rfl ?_
   refine vp rfl rfl rfl rfl ?_
   refine RunL.sto (Sto.store rfl rfl .here ty_98 rfl rfl) rfl rfl ?_
   refine vp rfl rfl rfl rfl ?_
   refine nnx ?_
   refine RunC.ret ?_
   refine RunE.pass_ret ?_
   exact RunE.retP (.r2 rfl (.agg rfl (.head _) ty_98 rfl) (.tmp rfl)) (by rw [gv];unfold loan3;rw [if_pos (show a=wLook∧c=wNone from c1')];rfl)
  intro c1
  have c1':=c1;clear c1
  try simp only [nH] at c1'
  refine RunC.skip ?_
  refine RunE.next ?_
  refine csr ?_
  refine vp rfl rfl rfl rfl ?_
  refine RunL.val (Val.indexAddr_slp rfl rfl sl_166 (by omega) (by omega) (Sl.ptrM hr (i:=1) (by omega))) rfl rfl rfl ?_
  refine RunL.val (Val.load_gen rfl (fun w hm=>Sl.loadM1 hr (by decide) hm (by simp) ty_9 (i:=1) (show 1 < r.l.length by omega) (v:=.string (bs b)) (by simp [strC,h3]))) rfl rfl rfl ?_
  refine RunL.callP (isCall_func rfl ent_150) rfl rfl rfl (fun w hm=>number_calls14 b w (hL.mono hm)) ?_
  iterate 5 refine vp rfl rfl rfl rfl ?_
  refine nsr ?_
  refine vp rfl rfl rfl rfl ?_
  refine RunL.val (Val.indexAddr_slp rfl rfl sl_166 (by omega) (by omega) (Sl.ptrM hr (i:=2) (by omega))) rfl rfl rfl ?_
  refine RunL.val (Val.load_gen rfl (fun w hm=>Sl.loadM1 hr (by decide) hm (by simp) ty_9 (i:=2) (show 2 < r.l.length by omega) (v:=.string (bs c)) (by simp [strC,h3]))) rfl rfl rfl ?_
  refine RunL.callP (isCall_func rfl ent_150) rfl rfl rfl (fun w hm=>number_calls14 c w (hL.mono hm)) ?_
  iterate 5 refine vp rfl rfl rfl rfl ?_
  refine nnx ?_
  refine RunC.seq ?_
  refine csr ?_
  refine vp rfl rfl rfl rfl ?_
  refine RunL.val (Val.indexAddr_slp rfl rfl sl_166 (by omega) (by omega) (Sl.ptrM hr (i:=0) (by omega))) rfl rfl rfl ?_
  refine RunL.val (Val.load_gen rfl (fun w hm=>Sl.loadM1 hr (by decide) hm (by simp) ty_9 (i:=0) (show 0 < r.l.length by omega) (v:=.string (bs a)) (by simp [strC,h3]))) rfl rfl rfl ?_
  refine nnx ?_
  refine RunC.block ?_
  refine csr ?_
  refine RunL.val (Val.eqlStr rfl rfl) rfl rfl rfl ?_
  refine vp rfl rfl rfl rfl ?_
  refine nnx ?_
  refine RunC.cond rfl ?_ ?_
  ·intro c2
   have c2':=c2;clear c2
   try simp only [nH] at c2'
   refine csr ?_
   refine vp rfl rfl rfl rfl ?_
   refine vp rfl rfl rfl rfl ?_
   refine RunL.val (Val.build (parts:=[(0,.const (.int .i64 0)),(1,.tmp 53),(2,.tmp 54)]) rfl zero_98 places_98 rfl) rfl rfl rfl ?_
   refine vp rfl rfl rfl rfl ?_
   refine vp rfl rfl rfl rfl ?_
   refine RunL.andPart (dj:=57) (dp:=59) 2 rfl (fun g57=>by
     have g57':=g57
     try simp only [nH] at g57'
     refine vp rfl rfl rfl rfl ?_
     refine vp rfl rfl rfl rfl ?_
     exact RunL.segEnd (Sub.cons rfl (Sub.skip rfl (Sub.skip rfl (Sub.same rfl (by rw [g57]) (Sub.refl _))))) (List.Sublist.refl _)
   ) (fun g57=>by
     have g57':=g57
     try simp only [nH] at g57'
     refine RunL.no rfl rfl rfl ?_
     refine vp rfl rfl rfl rfl ?_
     exact RunL.segEnd (Sub.cons rfl (Sub.skip rfl (Sub.skip rfl (Sub.same rfl (by rw [g57]) (Sub.refl _))))) (List.Sublist.refl _)
   ) ?_
   refine RunL.sto (Sto.store rfl rfl .here ty_98 rfl rfl) rfl rfl ?_
   refine vp rfl rfl rfl rfl ?_
   refine nnx ?_
   refine RunC.ret ?_
   refine RunE.block_ret ?_
   refine RunE.pass_ret ?_
   exact RunE.retP (.r2 rfl (.agg rfl (.head _) ty_98 rfl) (.tmp rfl)) (by rw [gv];unfold loan3;rw [if_neg (fun h=>by rcases c1' with g | g;exact g h.1;exact g h.2),if_pos (show a=wTake from c2')];rfl)
  intro c2
  have c2':=c2;clear c2
  try simp only [nH] at c2'
  refine csr ?_
  refine RunL.val (Val.eqlStr rfl rfl) rfl rfl rfl ?_
  refine vp rfl rfl rfl rfl ?_
  refine nnx ?_
  refine RunC.cond rfl ?_ ?_
  ·intro c3
   have c3':=c3;clear c3
   try simp only [nH] at c3'
   refine csr ?_
   refine vp rfl rfl rfl rfl ?_
   refine vp rfl rfl rfl rfl ?_
   refine RunL.val (Val.build (parts:=[(0,.const (.int .i64 1)),(1,.tmp 62),(2,.tmp 63)]) rfl zero_98 places_98 rfl) rfl rfl rfl ?_
   refine vp rfl rfl rfl rfl ?_
   refine vp rfl rfl rfl rfl ?_
   refine RunL.andPart (dj:=66) (dp:=68) 2 rfl (fun g66=>by
     have g66':=g66
     try simp only [nH] at g66'
     refine vp rfl rfl rfl rfl ?_
     refine vp rfl rfl rfl rfl ?_
     exact RunL.segEnd (Sub.cons rfl (Sub.skip rfl (Sub.skip rfl (Sub.same rfl (by rw [g66]) (Sub.refl _))))) (List.Sublist.refl _)
   ) (fun g66=>by
     have g66':=g66
     try simp only [nH] at g66'
     refine RunL.no rfl rfl rfl ?_
     refine vp rfl rfl rfl rfl ?_
     exact RunL.segEnd (Sub.cons rfl (Sub.skip rfl (Sub.skip rfl (Sub.same rfl (by rw [g66]) (Sub.refl _))))) (List.Sublist.refl _)
   ) ?_
   refine RunL.sto (Sto.store rfl rfl .here ty_98 rfl rfl) rfl rfl ?_
   refine vp rfl rfl rfl rfl ?_
   refine nnx ?_
   refine RunC.ret ?_
   refine RunE.block_ret ?_
   refine RunE.pass_ret ?_
   exact RunE.retP (.r2 rfl (.agg rfl (.head _) ty_98 rfl) (.tmp rfl)) (by rw [gv];unfold loan3;rw [if_neg (fun h=>by rcases c1' with g | g;exact g h.1;exact g h.2),if_neg (show ¬ a=wTake from c2'),if_pos (show a=wBack from c3')];rfl)
  intro c3
  have c3':=c3;clear c3
  try simp only [nH] at c3'
  refine csr ?_
  refine RunL.val (Val.eqlStr rfl rfl) rfl rfl rfl ?_
  refine vp rfl rfl rfl rfl ?_
  refine nnx ?_
  refine RunC.cond rfl ?_ ?_
  ·intro c4
   have c4':=c4;clear c4
   try simp only [nH] at c4'
   refine csr ?_
   refine vp rfl rfl rfl rfl ?_
   refine vp rfl rfl rfl rfl ?_
   refine RunL.val (Val.build (parts:=[(0,.const (.int .i64 2)),(3,.tmp 71),(1,.tmp 72)]) rfl zero_98 places_98 rfl) rfl rfl rfl ?_
   refine vp rfl rfl rfl rfl ?_
   refine vp rfl rfl rfl rfl ?_
   refine RunL.andPart (dj:=75) (dp:=77) 2 rfl (fun g75=>by
     have g75':=g75
     try simp only [nH] at g75'
     refine vp rfl rfl rfl rfl ?_
     refine vp rfl rfl rfl rfl ?_
     exact RunL.segEnd (Sub.cons rfl (Sub.skip rfl (Sub.skip rfl (Sub.same rfl (by rw [g75]) (Sub.refl _))))) (List.Sublist.refl _)
   ) (fun g75=>by
     have g75':=g75
     try simp only [nH] at g75'
     refine RunL.no rfl rfl rfl ?_
     refine vp rfl rfl rfl rfl ?_
     exact RunL.segEnd (Sub.cons rfl (Sub.skip rfl (Sub.skip rfl (Sub.same rfl (by rw [g75]) (Sub.refl _))))) (List.Sublist.refl _)
   ) ?_
   refine RunL.sto (Sto.store rfl rfl .here ty_98 rfl rfl) rfl rfl ?_
   refine vp rfl rfl rfl rfl ?_
   refine nnx ?_
   refine RunC.ret ?_
   refine RunE.block_ret ?_
   refine RunE.pass_ret ?_
   exact RunE.retP (.r2 rfl (.agg rfl (.head _) ty_98 rfl) (.tmp rfl)) (by rw [gv];unfold loan3;rw [if_neg (fun h=>by rcases c1' with g | g;exact g h.1;exact g h.2),if_neg (show ¬ a=wTake from c2'),if_neg (show ¬ a=wBack from c3'),if_pos (show a=wLook from c4')];rfl)
  intro c4
  have c4':=c4;clear c4
  try simp only [nH] at c4'
  refine RunC.skip ?_
  refine RunE.block_normal ?_
  refine RunE.next ?_
  refine csr ?_
  refine RunL.val (Val.build (parts:=[]) rfl zero_98 places_98 rfl) rfl rfl rfl ?_
  refine RunL.sto (Sto.store rfl rfl .here ty_98 rfl rfl) rfl rfl ?_
  refine vp rfl rfl rfl rfl ?_
  refine nnx ?_
  refine RunC.ret ?_
  exact RunE.retP (.r2 rfl (.agg rfl (.head _) ty_98 rfl) (.tmp rfl)) (by rw [gv];unfold loan3;rw [if_neg (fun h=>by rcases c1' with g | g;exact g h.1;exact g h.2),if_neg (show ¬ a=wTake from c2'),if_neg (show ¬ a=wBack from c3'),if_neg (show ¬ a=wLook from c4')];rfl)
end Go.Proofs.YtleamcmljcdapaaGreatDoor
