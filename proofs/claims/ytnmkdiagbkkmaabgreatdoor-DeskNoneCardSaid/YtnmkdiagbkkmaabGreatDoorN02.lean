/- Layer 1 in plain words: sets of things, counted; and the fewest. -/
import Derived.Test.YtnmkdiagbkkmaabGreatDoorN01
import Derived.Lib.AtoiAll
import Derived.Lib.ItoaNum
import Derived.Test.YtnmkdiagbkkmaabGreatDoorProg
set_option linter.unusedSimpArgs false
set_option linter.unusedVariables false
set_option linter.unusedSectionVars false
namespace Go.Pw1
open Go Go.Eng
/-! ## Ones, counted -/
def oc1 (s:Nat):Nat:=(s >>> 1 &&& 6148914691236517205) + (s &&& 6148914691236517205)
def oc2 (s:Nat):Nat:=(oc1 s >>> 2 &&& 3689348814741910323) + (oc1 s &&& 3689348814741910323)
def oc3a (s:Nat):Nat:=oc2 s >>> 4 + oc2 s
def oc3 (s:Nat):Nat:=oc3a s &&& 1085102592571150095
def oc4 (s:Nat):Nat:=oc3 s + oc3 s >>> 8
def oc5 (s:Nat):Nat:=oc4 s + oc4 s >>> 16
def oc6 (s:Nat):Nat:=oc5 s + oc5 s >>> 32
def oc (s:Nat):Nat:=oc6 s &&& 127
theorem CM0 (s:Nat):oc1 s≤2 * 6148914691236517205:=by have h1:=Nat.and_le_right (n:=s >>> 1) (m:=6148914691236517205);have h2:=Nat.and_le_right (n:=s) (m:=6148914691236517205);unfold oc1;omega
theorem Cj6 (s:Nat):oc2 s≤2 * 3689348814741910323:=by have h1:=Nat.and_le_right (n:=oc1 s >>> 2) (m:=3689348814741910323);have h2:=Nat.and_le_right (n:=oc1 s) (m:=3689348814741910323);unfold oc2;omega
theorem Dd0 (n k:Nat):n >>> k≤n / 2 ^ k:=by rw [Nat.shiftRight_eq_div_pow];exact Nat.le_refl _
theorem Cj4 (s:Nat):oc3a s≤2 * 3689348814741910323 + 2 * 3689348814741910323 / 16:=by
  have h1:=Cj6 s;have h2:=Dd0 (oc2 s) 4;unfold oc3a;omega
theorem Cj5 (s:Nat):oc3 s≤1085102592571150095:=Nat.and_le_right
theorem Cj3 (s:Nat):oc4 s≤2 * 1085102592571150095:=by have h1:=Cj5 s;have h2:=Nat.shiftRight_le (oc3 s) 8;unfold oc4;omega
theorem Cj2 (s:Nat):oc5 s≤4 * 1085102592571150095:=by have h1:=Cj3 s;have h2:=Nat.shiftRight_le (oc4 s) 16;unfold oc5;omega
theorem CL9 (s:Nat):oc6 s≤8 * 1085102592571150095:=by have h1:=Cj2 s;have h2:=Nat.shiftRight_le (oc5 s) 32;unfold oc6;omega
def pc (s:Nat):Nat→Nat
  | 0=>0
  | k + 1=>pc s k + s / 2 ^ k % 2
theorem De1:(List.range 4096).all (fun s=>oc s == pc s 12)=true:=by kernel_rfl
theorem De0 {s:Nat} (h:s < 4096):oc s=pc s 12:=by
  have:=List.all_eq_true.1 De1 s (List.mem_range.2 h)
  simpa using this
def movedK (p:Pr) (x:Int):Nat→Nat
  | 0=>0
  | k + 1=>if (stillS p (thingAt p k) (x,x)).2 then movedK p x k else movedK p x k ||| 2 ^ k
def movedS (p:Pr) (x:Int):Nat:=movedK p x p.things.length
theorem AY5 (p:Pr) (x:Int):∀ k,movedK p x k < 2 ^ k
  | 0=>by simp [movedK]
  | k + 1=>by
    have h:=AY5 p x k;have h2:2 ^ k < 2 ^ (k + 1):=by rw [Nat.pow_succ];have:=Nat.two_pow_pos k;omega
    unfold movedK
    split
    · omega
    · exact Nat.or_lt_two_pow (by omega) h2
theorem Ar7 {p:Pr} (hp:p.Ok) (x:Int):movedS p x < 4096:=by
  have h:=AY5 p x p.things.length;have h2:2 ^ p.things.length≤2 ^ 12:=Nat.pow_le_pow_right (by omega) hp.len;unfold movedS;omega
theorem BW6 {p:Pr} (hp:p.Ok) (x:Int) {k:Nat} (hk:k≤p.things.length):movedK p x k < 4096:=by
  have h:=AY5 p x k;have h0:=hp.len;have h2:2 ^ k≤2 ^ 12:=Nat.pow_le_pow_right (by omega) (by omega);omega
theorem Bh1 {p:Pr} {x:Int} {k:Nat} {t:Th} (ht:thingAt p k=t) (h:(stillS p t (x,x)).2=true):movedK p x (k + 1)=movedK p x k:=by simp [movedK,ht,h]
theorem Bv4 {p:Pr} {x:Int} {k:Nat} {t:Th} (ht:thingAt p k=t) (h:(stillS p t (x,x)).2=false):movedK p x (k + 1)=movedK p x k ||| 2 ^ k:=by simp [movedK,ht,h]
def triedK (p:Pr) (pw:Int×Int):Nat→List Int
  | 0=>[pw.1]
  | k + 1=>if (stillS p (thingAt p k) pw).2 then triedK p pw k++[(stillS p (thingAt p k) pw).1.1] else triedK p pw k
def triedS (p:Pr) (pw:Int×Int):List Int:=triedK p pw p.things.length
theorem Bf5 (p:Pr) (pw:Int×Int):∀ k,(triedK p pw k).length≤k + 1
  | 0=>by simp [triedK]
  | k + 1=>by
    have:=Bf5 p pw k
    unfold triedK
    split <;> (try simp only [List.length_append,List.length_singleton]) <;> omega
theorem Bf4 {p:Pr} {pw:Int×Int} {k:Nat} {t:Th} (ht:thingAt p k=t) (h:(stillS p t pw).2=true):triedK p pw (k + 1)=triedK p pw k++[(stillS p t pw).1.1]:=by simp [triedK,ht,h]
theorem Bs9 {p:Pr} {pw:Int×Int} {k:Nat} {t:Th} (ht:thingAt p k=t) (h:(stillS p t pw).2=false):triedK p pw (k + 1)=triedK p pw k:=by simp [triedK,ht,h]
def befS (s u:Nat):Bool:=decide (pc s 12 < pc u 12) || (decide (pc s 12=pc u 12) && decide (s < u))
def better (best s:Nat):Nat:=if s ≠ best∧befS best s=false then s else best
theorem Bj6 {b s:Nat} (h:(¬((pc s 12:Nat):Int)=((pc b 12:Nat):Int)∨¬(s:Int)=(b:Int))∧befS b s=false):better b s=s:=by
  have h1:s ≠ b:=by rintro rfl;simp at h
  unfold better;rw [if_pos ⟨h1,h.2⟩]
theorem BA7 {b s:Nat} (h:(((pc s 12:Nat):Int)=((pc b 12:Nat):Int)∧(s:Int)=(b:Int))∨befS b s=true):better b s=b:=by
  unfold better
  split
  · rename_i h2
    rcases h with h | h
    · omega
    · rw [h2.2] at h;cases h
  · rfl
def bestL (p:Pr) (s0:Nat) (l:List Int):Nat:=l.foldl (fun best x=>better best (movedS p x)) s0
theorem Bj7 (p:Pr) (s0:Nat) (l:List Int) (x:Int):bestL p s0 (l++[x])=better (bestL p s0 l) (movedS p x):=by simp [bestL,List.foldl_append]
theorem Bq9 {p:Pr} (hp:p.Ok) {s0:Nat} (h:s0 < 4096) (l:List Int):bestL p s0 l < 4096:=by
  induction l generalizing s0 with
  | nil=>exact h
  | cons x l ih =>
    show bestL p (better s0 (movedS p x)) l < 4096
    refine ih ?_;unfold better
    split
    · exact Ar7 hp x
    · exact h
def nbK (p:Pr) (s:Nat) (w:Int×Int):Nat→Int×Int
  | 0=>w
  | k + 1=>if s >>> k &&& 1=0 then (stillS p (thingAt p k) (nbK p s w k)).1 else nbK p s w k
theorem CM1 {p:Pr} {s:Nat} {w:Int×Int} {k:Nat} {t:Th} (ht:thingAt p k=t) (h:((s >>> k &&& 1:Nat):Int)=0):nbK p s w (k + 1)=(stillS p t (nbK p s w k)).1:=by
  have h2:s >>> k &&& 1=0:=by exact_mod_cast h
  simp only [nbK,h2,if_true,ht]
theorem Ck1 {p:Pr} {s:Nat} {w:Int×Int} {k:Nat} (h:¬ ((s >>> k &&& 1:Nat):Int)=0):nbK p s w (k + 1)=nbK p s w k:=by
  have h2:¬ s >>> k &&& 1=0:=fun e=>h (by exact_mod_cast e)
  rw [nbK,if_neg h2]
def bestS (p:Pr) (w:Int×Int):Nat:=bestL p (movedS p w.1) (triedS p w)
def fewestX (p:Pr):Int×(Int×Int)×Int :=
  match truthsX p [] with
  | .error k=>(0,(0,0),k)
  | .ok w=>(bestS p w,nbK p (bestS p w) w p.things.length,0)
end Go.Pw1
namespace Go.Hp
open Go Go.Eng Go.Pw1
abbrev Str:=List UInt8
structure Bx where
  colour:Int
  titles:List Str
structure Tn where
  colour:Int
  number:Str
  text:Str
structure Mx where
  boxes:List Bx
  cards:List Tn
structure En where
  colour:Int
  number:Str
  title:Str
  deriving DecidableEq
def letterX (c:UInt8):Bool:=decide ((97:Int)≤(c.toNat:Int)) && decide ((c.toNat:Int)≤122)
def digitX (c:UInt8):Bool:=decide ((48:Int)≤(c.toNat:Int)) && decide ((c.toNat:Int)≤57)
def starX (c:UInt8):Bool:=decide ((c.toNat:Int)=42)
def goodX (c:UInt8):Bool:=letterX c || digitX c || decide ((c.toNat:Int)=63) || decide ((c.toNat:Int)=42)
def pieceX (s:Str):Bool:=decide (s.length≤12) && decide (s.countP goodX=s.length) && decide (s.countP starX≤1)
def badTitle (s:Str):Bool:=!within s.length 1 12 || decide (s.countP letterX < s.length)
def badBox (b:Bx):Bool:=!within b.colour 1 9 || b.titles.any badTitle
def badCard (t:Tn):Bool:=!within t.colour 0 9 || !pieceX t.number || !pieceX t.text
def manyX (l:List Bx):Nat:=(l.map fun b=>b.titles.length).sum
def mixedX (m:Mx):Bool:=decide (m.boxes.length≤4) && decide (m.cards.length≤8) && !m.boxes.any badBox && decide (manyX m.boxes≤12) && !m.cards.any badCard
/-! ## Pieces -/
def suitsW:Str→Str→Bool
  | [],[]=>true
  | a::w,c::s=>(decide (a.toNat=63) || decide (a=c)) && suitsW w s
  | _,_=>false
theorem Bf7:∀ {w s:Str},w.length ≠ s.length→suitsW w s=false
  | [],[],h=>absurd rfl h
  | [],_::_,_=>rfl
  | _::_,[],_=>rfl
  | a::w,c::s,h=>by
    unfold suitsW;rw [Bf7 (fun e=>h (by simp [e])),Bool.and_false]
theorem AO7:∀ {w s:Str},suitsW w s=true ↔ w.length=s.length∧∀ k (h:k < w.length) (h2:k < s.length),w[k].toNat=63∨w[k]=s[k]
  | [],[]=>by simp [suitsW]
  | [],_::_=>by simp [suitsW]
  | _::_,[]=>by simp [suitsW]
  | a::w,c::s=>by
    unfold suitsW;rw [Bool.and_eq_true,Bool.or_eq_true,decide_eq_true_eq,decide_eq_true_eq,AO7]
    constructor
    · rintro ⟨h1,h2,h3⟩
      refine ⟨by simp [h2],fun k h h'=>?_⟩
      cases k with
      | zero=>exact h1
      | succ k=>exact h3 k (by simpa using h) (by simpa using h')
    · rintro ⟨h1,h2⟩
      refine ⟨h2 0 (by simp) (by simp),by simpa using h1,fun k h h'=>?_⟩
      have:=h2 (k + 1) (by simpa using h) (by simpa using h')
      simpa using this
def starAt:Str→Option Nat
  | []=>none
  | c::s=>if c.toNat=42 then some 0 else (starAt s).map (· + 1)
def suitsE (h t s:Str):Bool:=decide (h.length + t.length≤s.length) && suitsW h (s.take h.length) && suitsW t (s.drop (s.length - t.length))
def suitsX (p s:Str):Bool:=match starAt p with
  | some i=>suitsE (p.take i) (p.drop (i + 1)) s
  | none=>suitsW p s
/-! ## Entries -/
def digit (n:Nat):UInt8:=UInt8.ofNat (48 + n)
def itoa (n:Nat):Str:=if n < 10 then [digit n] else [digit (n / 10),digit (n % 10)]
def boxEn (c:Int) (i:Nat):List Str→List En
  | []=>[]
  | t::l=>⟨c,itoa (i + 1),t⟩::boxEn c (i + 1) l
def entriesX (l:List Bx):List En:=l.flatMap fun b=>boxEn b.colour 0 b.titles
theorem Bj2 (c:Int):∀ (l:List Str) (i:Nat) (t:Str),boxEn c i (l++[t])=boxEn c i l++[⟨c,itoa (i + l.length + 1),t⟩]
  | [],i,t=>by simp [boxEn]
  | u::l,i,t=>by
    simp only [List.cons_append,boxEn,Bj2 c l (i + 1) t,List.length_cons];rw [show i + 1 + l.length + 1=i + (l.length + 1) + 1 by omega]
theorem Bb7 (c:Int):∀ (l:List Str) (i:Nat),(boxEn c i l).length=l.length
  | [],_=>rfl
  | _::l,i=>by simp [boxEn,Bb7 c l]
theorem AD3:∀ l:List Bx,(entriesX l).length=manyX l
  | []=>rfl
  | b::l=>by
    have:=AD3 l
    simp only [entriesX,List.flatMap_cons,List.length_append,Bb7,manyX,List.map_cons,List.sum_cons] at this ⊢;omega
theorem By7 (l:List Bx) (b:Bx):entriesX (l++[b])=entriesX l++boxEn b.colour 0 b.titles:=by simp [entriesX]
/-! ## What a card fits -/
def fitX (t:Tn) (x:En):Bool:=(decide (t.colour=0) || decide (t.colour=x.colour)) && suitsX t.number x.number && suitsX t.text x.title
def fitsL (t:Tn):Nat→List En→Nat
  | _,[]=>0
  | i,x::l=>(if fitX t x then 2 ^ i else 0) ||| fitsL t (i + 1) l
def fitsX (m:Mx) (t:Tn):Nat:=fitsL t 0 (entriesX m.boxes)
theorem Bi3 (t:Tn):∀ (l:List En) (i:Nat) (x:En),fitsL t i (l++[x])=fitsL t i l ||| (if fitX t x then 2 ^ (i + l.length) else 0)
  | [],i,x=>by simp [fitsL]
  | y::l,i,x=>by
    simp only [List.cons_append,fitsL,Bi3 t l (i + 1) x,List.length_cons];rw [show i + 1 + l.length=i + (l.length + 1) by omega,Nat.or_assoc]
theorem BQ0 (t:Tn) (l:List En):∀ i,fitsL t i l < 2 ^ (i + l.length):=by
  induction l with
  | nil=>intro i;exact Nat.two_pow_pos _
  | cons x l ih =>
    intro i;unfold fitsL;have h1:=ih (i + 1);rw [show i + 1 + l.length=i + (x::l).length by simp;omega] at h1;refine Nat.or_lt_two_pow ?_ h1
    split
    · exact Nat.pow_lt_pow_right (by decide) (by simp)
    · exact Nat.two_pow_pos _
/-! ## The functions -/
def fsX (m:Mx):List Nat:=m.cards.map (fitsX m)
def neX (m:Mx):Nat:=(entriesX m.boxes).length
def cntX (m:Mx):Nat:=cntL (neX m) (fsX m) 0
def CountX (m:Mx):Int×Int:=if mixedX m then ((cntX m:Int),0) else (0,1)
def waysE (m:Mx):Int:=if mixedX m then (if cntX m=0 then 4 else 0) else 1
def lastP (p:Nat→Bool):Nat→Int
  | 0=>-1
  | n + 1=>if p n then (n:Int) else lastP p n
def sureP (m:Mx) (c e:Nat):Bool:=decide (shareL (neX m) (fsX m) c e=cntX m)
def sureC (m:Mx) (c:Nat):Int:=lastP (sureP m c) (neX m)
def SureX (m:Mx):List Int×Int:=if waysE m=0 then ((List.range m.cards.length).map (sureC m),0) else ([],waysE m)
/-! ### Cards that have too few entries -/
def unionL (s:Nat):Nat→List Nat→Nat
  | _,[]=>0
  | i,f::l=>(if s.testBit i then f else 0) ||| unionL s (i + 1) l
def shortX (fs:List Nat) (s:Nat):Bool:=decide (pc (unionL s 0 fs) 12 < pc s 12)
def setsL (n:Nat):List Nat:=((List.range n).map (· + 1)).flatMap fun k=>((List.range (2 ^ n)).filter fun s=>decide (0 < s) && decide (pc s 12=k))
def whyL (fs:List Nat):Option Nat:=(setsL fs.length).find? (shortX fs)
def WhyX (m:Mx):Int×Int:=if mixedX m then (match whyL (fsX m) with | some s=>((s:Int),11) | none=>(0,0)) else (0,1)
end Go.Hp
namespace Go.Dk
open Go Go.Eng Go.Pw1 Go.Hp
structure Vw where
  p:Pr
  cuts:Tr
  up:Bool
structure Bn where
  views:List Vw
  heap:Mx
def wView:Str:=[118,105,101,119]
def wThing:Str:=[116,104,105,110,103]
def wMark:Str:=[109,97,114,107]
def wFar:Str:=[102,97,114]
def wMoved:Str:=[109,111,118,101,100]
def wHurts:Str:=[104,117,114,116,115]
def wTrim:Str:=[116,114,105,109]
def wDeep:Str:=[100,101,101,112]
def wOff:Str:=[111,102,102]
def wBox:Str:=[98,111,120]
def wCard:Str:=[99,97,114,100]
def wWays:Str:=[119,97,121,115]
def wWhich:Str:=[119,104,105,99,104]
def wIs:Str:=[105,115]
def wNone:Str:=[110,111,110,101]
def wDoubt:Str:=[100,111,117,98,116]
def wError:Str:=[101,114,114,111,114]
/-! ## Words, numbers, replies -/
def wordB (c:UInt8):Bool:=(decide (97≤c.toNat) && decide (c.toNat≤122)) || (decide (48≤c.toNat) && decide (c.toNat≤57)) || decide (c.toNat=63) || decide (c.toNat=42)
def wordX (s:Str):Bool:=!s.isEmpty && s.all wordB
def blanks:Str→Str→List Str
  | [],cur=>[cur]
  | c::s,cur=>if c=32 then cur::blanks s [] else blanks s (cur++[c])
def wordsX (s:Str):Option (List Str):=if (blanks s []).all wordX then some (blanks s []) else none
def numX (s:Str):Option Int:=match Lib.atoiAll s with
  | .ok n=>if s.length≤13∧0≤n∧Lib.itoa n=s then some n else none
  | _=>none
def numsX:List Str→Option (List Int)
  | []=>some []
  | s::l=>match numX s,numsX l with
    | some n,some r=>some (n::r)
    | _,_=>none
def sayX (w:Str) (l:List Int):Str:=w++(l.map fun n=>32::Lib.itoa n).flatten
/-! ## What a line does -/
def noTr:Tr:=⟨0,0,0,0⟩
def noVw:Vw:=⟨⟨⟨0,0⟩,⟨0,0⟩,0,0,0,[]⟩,noTr,false⟩
def bareC (c:Cd):Cd:={ c with p:={ c.p with things:=[] } }
def cardV (c:Cd) (v:Vw):Cd:={ c with p:=v.p }
abbrev Ans:=Except Int (Bn×Str)
def putV (b:Bn) (i:Nat) (v:Vw):Bn:={ b with views:=b.views.set i v }
def viewD (c:Cd) (b:Bn):Ans:=if b.views.length < 4 then .ok ({ b with views:=b.views++[⟨c.p,noTr,false⟩] },sayX wView [b.views.length]) else .error 9
def thingD (b:Bn) (i:Nat) (x1 x2 y1 y2:Int):Ans :=
  let v:=b.views.getD i noVw
  if v.up then .error 6 else
  if ¬ v.p.things.length < 12 then .error 9 else
  let p:Pr:={ v.p with things:=v.p.things++[⟨⟨x1,x2⟩,⟨0,0⟩,⟨y1,y2⟩,⟨0,0⟩,0⟩] }
  if (whyX p v.p.things.length).2=0 then .ok (putV b i { v with p:=p },sayX wThing [v.p.things.length,(whyX p v.p.things.length).1]) else .error (whyX p v.p.things.length).2
def markD (b:Bn) (i k:Nat) (far:Int):Ans :=
  let v:=b.views.getD i noVw
  if ¬ k < v.p.things.length then .error 2 else
  if v.up then .error 6 else
  let p:Pr:={ v.p with things:=v.p.things.modify k fun t=>{ t with far:=far } }
  if (powerX p).2=0 then .ok (putV b i { v with p:=p },sayX wMark [(powerX p).1.1,(powerX p).1.2]) else .error (powerX p).2
def farD (b:Bn) (i k:Nat):Ans :=
  let v:=b.views.getD i noVw
  if ¬ k < v.p.things.length then .error 2 else
  if (distX v.p k).2=0 then .ok (b,sayX wFar [(distX v.p k).1.1,(distX v.p k).1.2]) else .error (distX v.p k).2
def movedD (b:Bn) (i:Nat):Ans :=
  let v:=b.views.getD i noVw
  if (fewestX v.p).2.2=0 then .ok (b,sayX wMoved [(fewestX v.p).1]) else .error (fewestX v.p).2.2
def hurtsD (c:Cd) (b:Bn) (i:Nat) (t:Tr):Ans :=
  let h:=hurtsX (cardV c (b.views.getD i noVw)) t
  if h.2.2=11 then .ok (b,sayX wHurts [h.1,h.2.1]) else if h.2.2=0 then .ok (b,wHurts++32::wNone) else .error h.2.2
def trimD (c:Cd) (b:Bn) (i:Nat):Ans :=
  let v:=b.views.getD i noVw
  if v.up then .error 6 else
  let t:=trimX (cardV c v)
  if t.2=0 then .ok (putV b i ⟨v.p,t.1,true⟩,sayX wTrim [t.1.ll,t.1.lr,t.1.rl,t.1.rr]) else .error t.2
def deepD (c:Cd) (b:Bn) (i:Nat):Ans :=
  let v:=b.views.getD i noVw
  if ¬ v.up then .error 6 else
  let s:=depthsX (cardV c v) v.cuts
  if s.2=0 then .ok (b,sayX wDeep [s.1.1,s.1.2]) else .error s.2
def offD (b:Bn) (i:Nat):Ans :=
  let v:=b.views.getD i noVw
  if ¬ v.up then .error 6 else .ok (putV b i ⟨v.p,noTr,false⟩,sayX wOff [i])
def boxD (b:Bn) (w:List Str):Ans :=
  if ¬ 1 < w.length then .error 8 else
  match numX (w.getD 0 []) with
  | none=>.error 8
  | some n =>
    if ¬ b.heap.boxes.length < 4 then .error 9 else
    let m:Mx:={ b.heap with boxes:=b.heap.boxes++[⟨n,w.drop 1⟩] }
    if (WhyX m).2=0 then .ok ({ b with heap:=m },sayX wBox [b.heap.boxes.length]) else .error (WhyX m).2
def newsX (old now:List Int):List (Nat×Int):=(List.range now.length).filterMap fun i=>if now.getD i 0 = -1∨(old++[-1]).getD i 0 ≠ -1 then none else some (i,now.getD i 0)
def cardD (b:Bn) (w:List Str):Ans :=
  if w.length ≠ 3 then .error 8 else
  match numX (w.getD 0 []) with
  | none=>.error 8
  | some n =>
    if ¬ b.heap.cards.length < 8 then .error 9 else
    if (SureX b.heap).2 ≠ 0 then .error (SureX b.heap).2 else
    let m:Mx:={ b.heap with cards:=b.heap.cards++[⟨n,w.getD 1 [],w.getD 2 []⟩] }
    if (WhyX m).2 ≠ 0 then .error (WhyX m).2 else
    if (SureX m).2 ≠ 0 then .error (SureX m).2 else
    .ok ({ b with heap:=m },sayX wCard [b.heap.cards.length]++((newsX (SureX b.heap).1 (SureX m).1).map fun x=>32::sayX wIs [x.1,x.2]).flatten)
def waysD (b:Bn):Ans:=if (CountX b.heap).2=0 then .ok (b,sayX wWays [(CountX b.heap).1]) else .error (CountX b.heap).2
def whichD (b:Bn) (k:Nat):Ans :=
  if ¬ k < b.heap.cards.length then .error 2 else
  if (SureX b.heap).2 ≠ 0 then .error (SureX b.heap).2 else
  let e:=(SureX b.heap).1.getD k 0
  .ok (b,if e = -1 then wWhich++32::wDoubt else sayX wWhich [e])
structure Vb where
  many:Nat
  about:Bool
  does:Cd→Bn→List Int→Ans
def N (l:List Int) (k:Nat):Nat:=(l.getD k 0).toNat
def verbsX:List (Str×Vb):=[(wView,⟨0,false,fun c b _=>viewD c b⟩),(wThing,⟨5,true,fun _ b n=>thingD b (N n 0) (n.getD 1 0) (n.getD 2 0) (n.getD 3 0) (n.getD 4 0)⟩),(wMark,⟨3,true,fun _ b n=>markD b (N n 0) (N n 1) (n.getD 2 0)⟩),
  (wFar,⟨2,true,fun _ b n=>farD b (N n 0) (N n 1)⟩),(wMoved,⟨1,true,fun _ b n=>movedD b (N n 0)⟩),(wHurts,⟨5,true,fun c b n=>hurtsD c b (N n 0) ⟨n.getD 1 0,n.getD 2 0,n.getD 3 0,n.getD 4 0⟩⟩),(wTrim,⟨1,true,fun c b n=>trimD c b (N n 0)⟩),
  (wDeep,⟨1,true,fun c b n=>deepD c b (N n 0)⟩),(wOff,⟨1,true,fun _ b n=>offD b (N n 0)⟩),(wWays,⟨0,false,fun _ b _=>waysD b⟩),(wWhich,⟨1,false,fun _ b n=>whichD b (N n 0)⟩)]
def verbX (s:Str):Option Vb:=(verbsX.find? fun x=>decide (x.1=s)).map (·.2)
def lineX (c:Cd) (b:Bn) (s:Str):Ans :=
  if 200 < s.length then .error 3 else
  match wordsX s with
  | none=>.error 8
  | some w =>
    if w.getD 0 []=wBox then boxD b (w.drop 1) else
    if w.getD 0 []=wCard then cardD b (w.drop 1) else
    match verbX (w.getD 0 []) with
    | none=>.error 8
    | some v =>
      match numsX (w.drop 1) with
      | none=>.error 8
      | some n=>if n.length ≠ v.many then .error 8 else if v.about=true∧¬ N n 0 < b.views.length then .error 2 else v.does c b n
/-! ## Desks and scripts -/
def noBn:Bn:=⟨[],⟨[],[]⟩⟩
def stepX (c:Cd) (b:Bn) (s:Str):Bn×Str×Int:=match lineX c b s with
  | .ok (b',r)=>(b',r,0)
  | .error k=>(b,[],k)
def echoX (r:Str) (e:Int):Str:=if e=0 then r else sayX wError [e]
def runL (c:Cd):Bn→List Str→Bn×Str
  | b,[]=>(b,[])
  | b,s::l=>((runL c (stepX c b s).1 l).1,echoX (stepX c b s).2.1 (stepX c b s).2.2++10::(runL c (stepX c b s).1 l).2)
def linesX:Str→Str→List Str
  | [],_=>[]
  | c::s,cur=>if c=10 then cur::linesX s [] else linesX s (cur++[c])
def runX (c:Cd) (s:Str):Str×Int :=
  if 131072 < s.length then ([],3) else
  if s ≠ []∧s.getLast? ≠ some 10 then ([],8) else
  if cardIs { c with p:={ c.p with things:=c.p.things } } then ((runL (bareC c) noBn (linesX s [])).2,0) else ([],1)
end Go.Dk
namespace Go.Proofs.YtnmkdiagbkkmaabGreatDoor
open Go Go.Eng
theorem CK1:apB Tryz.prog 47=some (3,1,8):=by kernel_rfl
theorem AN8:arr1B Tryz.prog 338=some 5:=by kernel_rfl
theorem Ah8:arrB Tryz.prog 188=some (4,1):=by kernel_rfl
theorem Ah7:arrB Tryz.prog 242=some (2,1):=by kernel_rfl
theorem Cs3:Enters Tryz.prog 112:=Aa1 Tryz.func112 (by kernel_rfl) rfl
theorem Bp6:Enters Tryz.prog 113:=Aa1 Tryz.func113 (by kernel_rfl) rfl
theorem Cs2:Enters Tryz.prog 114:=Aa1 Tryz.func114 (by kernel_rfl) rfl
theorem Bb0:Enters Tryz.prog 115:=Aa1 Tryz.func115 (by kernel_rfl) rfl
theorem BI8:Enters Tryz.prog 116:=Aa1 Tryz.func116 (by kernel_rfl) rfl
theorem Cs1:Enters Tryz.prog 117:=Aa1 Tryz.func117 (by kernel_rfl) rfl
theorem CZ1:Enters Tryz.prog 118:=Aa1 Tryz.func118 (by kernel_rfl) rfl
theorem Cr9:Enters Tryz.prog 123:=Aa1 Tryz.func123 (by kernel_rfl) rfl
theorem CX9:Enters Tryz.prog 164:=Aa1 Tryz.func164 (by kernel_rfl) rfl
theorem CX8:Enters Tryz.prog 165:=Aa1 Tryz.func165 (by kernel_rfl) rfl
theorem Al4:Enters Tryz.prog 166:=Aa1 Tryz.func166 (by kernel_rfl) rfl
theorem Bp4:Enters Tryz.prog 167:=Aa1 Tryz.func167 (by kernel_rfl) rfl
theorem Az6:Enters Tryz.prog 168:=Aa1 Tryz.func168 (by kernel_rfl) rfl
theorem CX7:Enters Tryz.prog 169:=Aa1 Tryz.func169 (by kernel_rfl) rfl
theorem CX6:Enters Tryz.prog 170:=Aa1 Tryz.func170 (by kernel_rfl) rfl
theorem CX5:Enters Tryz.prog 171:=Aa1 Tryz.func171 (by kernel_rfl) rfl
theorem CX4:Enters Tryz.prog 172:=Aa1 Tryz.func172 (by kernel_rfl) rfl
theorem CX3:Enters Tryz.prog 173:=Aa1 Tryz.func173 (by kernel_rfl) rfl
theorem CX2:Enters Tryz.prog 174:=Aa1 Tryz.func174 (by kernel_rfl) rfl
theorem Bp3:Enters Tryz.prog 175:=Aa1 Tryz.func175 (by kernel_rfl) rfl
theorem BI2:Enters Tryz.prog 176:=Aa1 Tryz.func176 (by kernel_rfl) rfl
theorem Bp2:Enters Tryz.prog 178:=Aa1 Tryz.func178 (by kernel_rfl) rfl
theorem Ba7:Enters Tryz.prog 179:=Aa1 Tryz.func179 (by kernel_rfl) rfl
theorem BI1:Enters Tryz.prog 180:=Aa1 Tryz.func180 (by kernel_rfl) rfl
theorem At7:Enters Tryz.prog 181:=Aa1 Tryz.func181 (by kernel_rfl) rfl
theorem Bp1:Enters Tryz.prog 182:=Aa1 Tryz.func182 (by kernel_rfl) rfl
theorem BI0:Enters Tryz.prog 183:=Aa1 Tryz.func183 (by kernel_rfl) rfl
theorem CX1:Enters Tryz.prog 184:=Aa1 Tryz.func184 (by kernel_rfl) rfl
theorem CX0:Enters Tryz.prog 185:=Aa1 Tryz.func185 (by kernel_rfl) rfl
theorem BH9:Enters Tryz.prog 186:=Aa1 Tryz.func186 (by kernel_rfl) rfl
theorem CW9:Enters Tryz.prog 187:=Aa1 Tryz.func187 (by kernel_rfl) rfl
theorem CW8:Enters Tryz.prog 188:=Aa1 Tryz.func188 (by kernel_rfl) rfl
theorem Cr1:Enters Tryz.prog 189:=Aa1 Tryz.func189 (by kernel_rfl) rfl
theorem Cr0:Enters Tryz.prog 190:=Aa1 Tryz.func190 (by kernel_rfl) rfl
theorem CW7:Enters Tryz.prog 191:=Aa1 Tryz.func191 (by kernel_rfl) rfl
theorem CW6:Enters Tryz.prog 192:=Aa1 Tryz.func192 (by kernel_rfl) rfl
theorem CW5:Enters Tryz.prog 193:=Aa1 Tryz.func193 (by kernel_rfl) rfl
theorem CW4:Enters Tryz.prog 194:=Aa1 Tryz.func194 (by kernel_rfl) rfl
theorem CW3:Enters Tryz.prog 195:=Aa1 Tryz.func195 (by kernel_rfl) rfl
theorem Cq9:Enters Tryz.prog 196:=Aa1 Tryz.func196 (by kernel_rfl) rfl
theorem Cq8:Enters Tryz.prog 197:=Aa1 Tryz.func197 (by kernel_rfl) rfl
theorem Cq6:Enters Tryz.prog 216:=Aa1 Tryz.func216 (by kernel_rfl) rfl
theorem BH8:Enters Tryz.prog 217:=Aa1 Tryz.func217 (by kernel_rfl) rfl
theorem Cq5:Enters Tryz.prog 218:=Aa1 Tryz.func218 (by kernel_rfl) rfl
theorem CV6:Enters Tryz.prog 219:=Aa1 Tryz.func219 (by kernel_rfl) rfl
theorem AQ0:Enters Tryz.prog 220:=Aa1 Tryz.func220 (by kernel_rfl) rfl
theorem Cq4:Enters Tryz.prog 221:=Aa1 Tryz.func221 (by kernel_rfl) rfl
theorem CV5:Enters Tryz.prog 222:=Aa1 Tryz.func222 (by kernel_rfl) rfl
theorem CV4:Enters Tryz.prog 223:=Aa1 Tryz.func223 (by kernel_rfl) rfl
theorem CV3:Enters Tryz.prog 224:=Aa1 Tryz.func224 (by kernel_rfl) rfl
theorem CV2:Enters Tryz.prog 225:=Aa1 Tryz.func225 (by kernel_rfl) rfl
theorem CV1:Enters Tryz.prog 226:=Aa1 Tryz.func226 (by kernel_rfl) rfl
theorem CV0:Enters Tryz.prog 227:=Aa1 Tryz.func227 (by kernel_rfl) rfl
theorem CU9:Enters Tryz.prog 228:=Aa1 Tryz.func228 (by kernel_rfl) rfl
theorem Cq2:Enters Tryz.prog 234:=Aa1 Tryz.func234 (by kernel_rfl) rfl
theorem Bp0:Enters Tryz.prog 235:=Aa1 Tryz.func235 (by kernel_rfl) rfl
theorem CU8:Enters Tryz.prog 236:=Aa1 Tryz.func236 (by kernel_rfl) rfl
theorem CU7:Enters Tryz.prog 237:=Aa1 Tryz.func237 (by kernel_rfl) rfl
theorem Cq1:Enters Tryz.prog 239:=Aa1 Tryz.func239 (by kernel_rfl) rfl
theorem CU6:Enters Tryz.prog 240:=Aa1 Tryz.func240 (by kernel_rfl) rfl
theorem CU5:Enters Tryz.prog 241:=Aa1 Tryz.func241 (by kernel_rfl) rfl
theorem CU4:Enters Tryz.prog 242:=Aa1 Tryz.func242 (by kernel_rfl) rfl
theorem BH7:Enters Tryz.prog 243:=Aa1 Tryz.func243 (by kernel_rfl) rfl
theorem BH6:Enters Tryz.prog 244:=Aa1 Tryz.func244 (by kernel_rfl) rfl
theorem CU3:Enters Tryz.prog 245:=Aa1 Tryz.func245 (by kernel_rfl) rfl
theorem CU2:Enters Tryz.prog 246:=Aa1 Tryz.func246 (by kernel_rfl) rfl
theorem Cq0:Enters Tryz.prog 247:=Aa1 Tryz.func247 (by kernel_rfl) rfl
theorem CU0:Enters Tryz.prog 271:=Aa1 Tryz.func271 (by kernel_rfl) rfl
theorem CT9:Enters Tryz.prog 272:=Aa1 Tryz.func272 (by kernel_rfl) rfl
theorem CT8:Enters Tryz.prog 273:=Aa1 Tryz.func273 (by kernel_rfl) rfl
theorem CT7:Enters Tryz.prog 274:=Aa1 Tryz.func274 (by kernel_rfl) rfl
theorem CT6:Enters Tryz.prog 275:=Aa1 Tryz.func275 (by kernel_rfl) rfl
theorem CT5:Enters Tryz.prog 276:=Aa1 Tryz.func276 (by kernel_rfl) rfl
theorem CT4:Enters Tryz.prog 277:=Aa1 Tryz.func277 (by kernel_rfl) rfl
theorem Ba5:Enters Tryz.prog 46:=Aa1 Tryz.func46 (by kernel_rfl) rfl
theorem Di4:Enters Tryz.prog 47:=Aa1 Tryz.func47 (by kernel_rfl) rfl
theorem AR7:Enters Tryz.prog 60:=Aa1 Tryz.func60 (by kernel_rfl) rfl
theorem CM3:Enters Tryz.prog 97:=Aa1 Tryz.func97 (by kernel_rfl) rfl
theorem BQ3:Enters Tryz.prog 98:=Aa1 Tryz.func98 (by kernel_rfl) rfl
theorem BQ2:Enters Tryz.prog 99:=Aa1 Tryz.func99 (by kernel_rfl) rfl
theorem CT3:aggB Tryz.prog 312=true:=by kernel_rfl
theorem BH4:field1B Tryz.prog 23 0=some 0:=by kernel_rfl
theorem BH3:field1B Tryz.prog 23 1=some 1:=by kernel_rfl
theorem AB0:fieldB Tryz.prog 142 0=some 0:=by kernel_rfl
instance:Fld Tryz.prog 142 0 0:=⟨AB0⟩
theorem Cp0:fieldB Tryz.prog 142 1=some 17:=by kernel_rfl
instance:Fld Tryz.prog 142 1 17:=⟨Cp0⟩
theorem Co7:fieldB Tryz.prog 195 0=some 0:=by kernel_rfl
instance:Fld Tryz.prog 195 0 0:=⟨Co7⟩
theorem Ba4:fieldB Tryz.prog 195 1=some 1:=by kernel_rfl
instance:Fld Tryz.prog 195 1 1:=⟨Ba4⟩
theorem Ay8:fieldB Tryz.prog 23 0=some 0:=by kernel_rfl
instance:Fld Tryz.prog 23 0 0:=⟨Ay8⟩
theorem Am5:fieldB Tryz.prog 23 1=some 1:=by kernel_rfl
instance:Fld Tryz.prog 23 1 1:=⟨Am5⟩
theorem As5:fieldB Tryz.prog 244 0=some 0:=by kernel_rfl
instance:Fld Tryz.prog 244 0 0:=⟨As5⟩
theorem Bx6:fieldB Tryz.prog 244 1=some 8:=by kernel_rfl
instance:Fld Tryz.prog 244 1 8:=⟨Bx6⟩
theorem Co4:fieldB Tryz.prog 260 0=some 0:=by kernel_rfl
instance:Fld Tryz.prog 260 0 0:=⟨Co4⟩
theorem Ba3:fieldB Tryz.prog 260 1=some 1:=by kernel_rfl
instance:Fld Tryz.prog 260 1 1:=⟨Ba3⟩
theorem Co3:fieldB Tryz.prog 269 0=some 0:=by kernel_rfl
instance:Fld Tryz.prog 269 0 0:=⟨Co3⟩
theorem Co2:fieldB Tryz.prog 269 1=some 1:=by kernel_rfl
instance:Fld Tryz.prog 269 1 1:=⟨Co2⟩
theorem Bo7:fieldB Tryz.prog 26 0=some 0:=by kernel_rfl
instance:Fld Tryz.prog 26 0 0:=⟨Bo7⟩
theorem Bo6:fieldB Tryz.prog 26 1=some 2:=by kernel_rfl
instance:Fld Tryz.prog 26 1 2:=⟨Bo6⟩
theorem CH9:fieldB Tryz.prog 26 2=some 4:=by kernel_rfl
instance:Fld Tryz.prog 26 2 4:=⟨CH9⟩
theorem BP9:fieldB Tryz.prog 26 3=some 5:=by kernel_rfl
instance:Fld Tryz.prog 26 3 5:=⟨BP9⟩
theorem BP8:fieldB Tryz.prog 26 4=some 6:=by kernel_rfl
instance:Fld Tryz.prog 26 4 6:=⟨BP8⟩
theorem Bo5:fieldB Tryz.prog 26 5=some 7:=by kernel_rfl
instance:Fld Tryz.prog 26 5 7:=⟨Bo5⟩
theorem CH8:fieldB Tryz.prog 28 0=some 0:=by kernel_rfl
instance:Fld Tryz.prog 28 0 0:=⟨CH8⟩
theorem CH7:fieldB Tryz.prog 28 1=some 8:=by kernel_rfl
instance:Fld Tryz.prog 28 1 8:=⟨CH7⟩
theorem CH6:fieldB Tryz.prog 28 2=some 9:=by kernel_rfl
instance:Fld Tryz.prog 28 2 9:=⟨CH6⟩
theorem AI4:fieldB Tryz.prog 28 3=some 10:=by kernel_rfl
instance:Fld Tryz.prog 28 3 10:=⟨AI4⟩
theorem Ay7:fieldB Tryz.prog 28 4=some 11:=by kernel_rfl
instance:Fld Tryz.prog 28 4 11:=⟨Ay7⟩
theorem CH5:fieldB Tryz.prog 28 5=some 13:=by kernel_rfl
instance:Fld Tryz.prog 28 5 13:=⟨CH5⟩
theorem CH4:fieldB Tryz.prog 28 6=some 14:=by kernel_rfl
instance:Fld Tryz.prog 28 6 14:=⟨CH4⟩
theorem CH3:fieldB Tryz.prog 28 7=some 15:=by kernel_rfl
instance:Fld Tryz.prog 28 7 15:=⟨CH3⟩
theorem CH2:fieldB Tryz.prog 28 8=some 16:=by kernel_rfl
instance:Fld Tryz.prog 28 8 16:=⟨CH2⟩
theorem Cn9:fieldB Tryz.prog 303 0=some 0:=by kernel_rfl
instance:Fld Tryz.prog 303 0 0:=⟨Cn9⟩
theorem Cn8:fieldB Tryz.prog 312 0=some 0:=by kernel_rfl
instance:Fld Tryz.prog 312 0 0:=⟨Cn8⟩
theorem Cn7:fieldB Tryz.prog 312 1=some 1:=by kernel_rfl
instance:Fld Tryz.prog 312 1 1:=⟨Cn7⟩
theorem Cn6:fieldB Tryz.prog 325 0=some 0:=by kernel_rfl
instance:Fld Tryz.prog 325 0 0:=⟨Cn6⟩
theorem Cn5:fieldB Tryz.prog 327 0=some 0:=by kernel_rfl
instance:Fld Tryz.prog 327 0 0:=⟨Cn5⟩
theorem Cn4:fieldB Tryz.prog 327 1=some 1:=by kernel_rfl
instance:Fld Tryz.prog 327 1 1:=⟨Cn4⟩
theorem CG9:fieldB Tryz.prog 60 0=some 0:=by kernel_rfl
instance:Fld Tryz.prog 60 0 0:=⟨CG9⟩
theorem CG8:fieldB Tryz.prog 60 1=some 1:=by kernel_rfl
instance:Fld Tryz.prog 60 1 1:=⟨CG8⟩
theorem CG7:fieldB Tryz.prog 60 2=some 2:=by kernel_rfl
instance:Fld Tryz.prog 60 2 2:=⟨CG7⟩
theorem CG6:fieldB Tryz.prog 60 3=some 3:=by kernel_rfl
instance:Fld Tryz.prog 60 3 3:=⟨CG6⟩
theorem CG4:fieldB Tryz.prog 64 0=some 0:=by kernel_rfl
instance:Fld Tryz.prog 64 0 0:=⟨CG4⟩
theorem CG3:fieldB Tryz.prog 64 1=some 2:=by kernel_rfl
instance:Fld Tryz.prog 64 1 2:=⟨CG3⟩
theorem CG2:fieldB Tryz.prog 66 0=some 0:=by kernel_rfl
instance:Fld Tryz.prog 66 0 0:=⟨CG2⟩
theorem CG1:fieldB Tryz.prog 66 1=some 4:=by kernel_rfl
instance:Fld Tryz.prog 66 1 4:=⟨CG1⟩
theorem CG0:fieldB Tryz.prog 66 2=some 8:=by kernel_rfl
instance:Fld Tryz.prog 66 2 8:=⟨CG0⟩
theorem Aj3:Tryz.prog.follows .mixedOrders=true:=by kernel_rfl
theorem De8 (a0:Int) (a1:Int) (a2:Int) (a3:Int) (a4:Int) (c0:Int) (c1:Int) (c2:Int) (c3:Int) (c4:Int):eqF Tryz.prog 8 312 [.int .i64 a0,.int .i64 a1,.int .i64 a2,.int .i64 a3,.int .i64 a4] [.int .i64 c0,.int .i64 c1,.int .i64 c2,.int .i64 c3,.int .i64 c4]=some (decide (a0=c0) && ((decide (a1=c1) && (decide (a2=c2) && (decide (a3=c3) && (decide (a4=c4) && true)))) && true)):=by kernel_rfl
theorem Ay4:mapB Tryz.prog 140=some 195:=by kernel_rfl
theorem As4 (v:Value) (w:World):(method (Tryz.prog.types.size + Made.depth) 325 v "pairworks/pair.powers").run Tryz.prog w = .ok (271,v) w:=by kernel_rfl
theorem As3 (v:Value) (w:World):(method (Tryz.prog.types.size + Made.depth) 327 v "pairworks/pair.powers").run Tryz.prog w = .ok (272,v) w:=by kernel_rfl
theorem As2 (v:Value) (w:World):(method (Tryz.prog.types.size + Made.depth) 331 v "pairworks/mount.hurts").run Tryz.prog w = .ok (273,v) w:=by kernel_rfl
theorem As1 (v:Value) (w:World):(method (Tryz.prog.types.size + Made.depth) 332 v "pairworks/mount.hurts").run Tryz.prog w = .ok (274,v) w:=by kernel_rfl
theorem As0 (v:Value) (w:World):(method (Tryz.prog.types.size + Made.depth) 333 v "pairworks/mount.hurts").run Tryz.prog w = .ok (275,v) w:=by kernel_rfl
theorem Ar9 (v:Value) (w:World):(method (Tryz.prog.types.size + Made.depth) 334 v "pairworks/mount.hurts").run Tryz.prog w = .ok (276,v) w:=by kernel_rfl
theorem Ar8 (v:Value) (w:World):(method (Tryz.prog.types.size + Made.depth) 335 v "pairworks/mount.hurts").run Tryz.prog w = .ok (277,v) w:=by kernel_rfl
theorem At5 (v:Value) (w:World):(nilAhead (Tryz.prog.types.size + Made.depth) 331 v "pairworks/mount.hurts").run Tryz.prog w = .ok (some false) w:=by kernel_rfl
theorem At4 (v:Value) (w:World):(nilAhead (Tryz.prog.types.size + Made.depth) 332 v "pairworks/mount.hurts").run Tryz.prog w = .ok (some false) w:=by kernel_rfl
theorem At3 (v:Value) (w:World):(nilAhead (Tryz.prog.types.size + Made.depth) 333 v "pairworks/mount.hurts").run Tryz.prog w = .ok (some false) w:=by kernel_rfl
theorem At2 (v:Value) (w:World):(nilAhead (Tryz.prog.types.size + Made.depth) 334 v "pairworks/mount.hurts").run Tryz.prog w = .ok (some false) w:=by kernel_rfl
theorem At1 (v:Value) (w:World):(nilAhead (Tryz.prog.types.size + Made.depth) 335 v "pairworks/mount.hurts").run Tryz.prog w = .ok (some false) w:=by kernel_rfl
theorem Bn2:(Tryz.prog.underlying 303).any (fun t=>match t with | .interface _=>false | _=>true)=true:=by kernel_rfl
theorem CE0:(Tryz.prog.underlying 325).any (fun t=>match t with | .interface _=>false | _=>true)=true:=by kernel_rfl
theorem CD9:(Tryz.prog.underlying 327).any (fun t=>match t with | .interface _=>false | _=>true)=true:=by kernel_rfl
theorem CD8:(Tryz.prog.underlying 331).any (fun t=>match t with | .interface _=>false | _=>true)=true:=by kernel_rfl
theorem CD7:(Tryz.prog.underlying 332).any (fun t=>match t with | .interface _=>false | _=>true)=true:=by kernel_rfl
theorem CD6:(Tryz.prog.underlying 333).any (fun t=>match t with | .interface _=>false | _=>true)=true:=by kernel_rfl
theorem CD5:(Tryz.prog.underlying 334).any (fun t=>match t with | .interface _=>false | _=>true)=true:=by kernel_rfl
theorem CD4:(Tryz.prog.underlying 335).any (fun t=>match t with | .interface _=>false | _=>true)=true:=by kernel_rfl
theorem BO6:pairB Tryz.prog 260=true:=by kernel_rfl
theorem BV9:placesB Tryz.prog 142=some [(0,17),(17,1)]:=by kernel_rfl
theorem Bg6:placesB Tryz.prog 188=some [(0,1),(1,1),(2,1),(3,1)]:=by kernel_rfl
theorem Ao5:placesB Tryz.prog 195=some [(0,1),(1,1)]:=by kernel_rfl
theorem Al9:placesB Tryz.prog 23=some [(0,1),(1,1)]:=by kernel_rfl
theorem Ai3:placesB Tryz.prog 242=some [(0,1),(1,1)]:=by kernel_rfl
theorem BV7:placesB Tryz.prog 244=some [(0,8),(8,2)]:=by kernel_rfl
theorem BV6:placesB Tryz.prog 260=some [(0,1),(1,1)]:=by kernel_rfl
theorem AH5:placesB Tryz.prog 269=some [(0,1),(1,4)]:=by kernel_rfl
theorem BV4:placesB Tryz.prog 303=some [(0,1)]:=by kernel_rfl
theorem BV3:placesB Tryz.prog 312=some [(0,1),(1,4)]:=by kernel_rfl
theorem BV2:placesB Tryz.prog 325=some [(0,1)]:=by kernel_rfl
theorem BV1:placesB Tryz.prog 327=some [(0,1),(1,1)]:=by kernel_rfl
theorem BV0:placesB Tryz.prog 331=some []:=by kernel_rfl
theorem BU9:placesB Tryz.prog 332=some []:=by kernel_rfl
theorem BU8:placesB Tryz.prog 333=some []:=by kernel_rfl
theorem BU7:placesB Tryz.prog 334=some []:=by kernel_rfl
theorem BU6:placesB Tryz.prog 335=some []:=by kernel_rfl
theorem BU5:placesB Tryz.prog 338=some [(0,1),(1,1),(2,1),(3,1),(4,1)]:=by kernel_rfl
theorem AF2:placesB Tryz.prog 60=some [(0,1),(1,1),(2,1),(3,1)]:=by kernel_rfl
theorem AX2:slB Tryz.prog 184=some (60,4):=by kernel_rfl
instance:Slc Tryz.prog 184 60 4:=⟨AX2⟩
theorem AE5:slB Tryz.prog 24=some (66,9):=by kernel_rfl
instance:Slc Tryz.prog 24 66 9:=⟨AE5⟩
theorem Cf7:slB Tryz.prog 249=some (251,1):=by kernel_rfl
instance:Slc Tryz.prog 249 251 1:=⟨Cf7⟩
theorem AF0:slB Tryz.prog 309=some (242,2):=by kernel_rfl
instance:Slc Tryz.prog 309 242 2:=⟨AF0⟩
theorem Cf6:slB Tryz.prog 346=some (195,2):=by kernel_rfl
instance:Slc Tryz.prog 346 195 2:=⟨Cf6⟩
theorem BN5:slB Tryz.prog 360=some (23,2):=by kernel_rfl
instance:Slc Tryz.prog 360 23 2:=⟨BN5⟩
theorem Ah5:slB Tryz.prog 47=some (3,1):=by kernel_rfl
instance:Slc Tryz.prog 47 3 1:=⟨Ah5⟩
theorem AQ8:tyB Tryz.prog 137=some (false,1):=by kernel_rfl
instance:Tyc Tryz.prog 137 false 1:=⟨AQ8⟩
theorem AW5:tyB Tryz.prog 140=some (false,1):=by kernel_rfl
instance:Tyc Tryz.prog 140 false 1:=⟨AW5⟩
theorem BN1:tyB Tryz.prog 169=some (false,1):=by kernel_rfl
instance:Tyc Tryz.prog 169 false 1:=⟨BN1⟩
theorem Ar4:tyB Tryz.prog 188=some (true,4):=by kernel_rfl
instance:Tyc Tryz.prog 188 true 4:=⟨Ar4⟩
theorem AA3:tyB Tryz.prog 195=some (true,2):=by kernel_rfl
instance:Tyc Tryz.prog 195 true 2:=⟨AA3⟩
theorem Ag5:tyB Tryz.prog 23=some (true,2):=by kernel_rfl
instance:Tyc Tryz.prog 23 true 2:=⟨Ag5⟩
theorem AB8:tyB Tryz.prog 24=some (false,1):=by kernel_rfl
instance:Tyc Tryz.prog 24 false 1:=⟨AB8⟩
theorem AJ0:tyB Tryz.prog 240=some (false,1):=by kernel_rfl
instance:Tyc Tryz.prog 240 false 1:=⟨AJ0⟩
theorem Af4:tyB Tryz.prog 242=some (true,2):=by kernel_rfl
instance:Tyc Tryz.prog 242 true 2:=⟨Af4⟩
theorem CL1:tyB Tryz.prog 251=some (false,1):=by kernel_rfl
instance:Tyc Tryz.prog 251 false 1:=⟨CL1⟩
theorem Cd4:tyB Tryz.prog 258=some (false,1):=by kernel_rfl
instance:Tyc Tryz.prog 258 false 1:=⟨Cd4⟩
theorem Bm1:tyB Tryz.prog 26=some (true,8):=by kernel_rfl
instance:Tyc Tryz.prog 26 true 8:=⟨Bm1⟩
theorem AA2:tyB Tryz.prog 260=some (true,2):=by kernel_rfl
instance:Tyc Tryz.prog 260 true 2:=⟨AA2⟩
theorem BM9:tyB Tryz.prog 263=some (false,1):=by kernel_rfl
instance:Tyc Tryz.prog 263 false 1:=⟨BM9⟩
theorem Db8:tyB Tryz.prog 269=some (true,5):=by kernel_rfl
instance:Tyc Tryz.prog 269 true 5:=⟨Db8⟩
theorem CL0:tyB Tryz.prog 274=some (false,1):=by kernel_rfl
instance:Tyc Tryz.prog 274 false 1:=⟨CL0⟩
theorem BD3:tyB Tryz.prog 28=some (true,17):=by kernel_rfl
instance:Tyc Tryz.prog 28 true 17:=⟨BD3⟩
theorem Ag4:tyB Tryz.prog 3=some (false,1):=by kernel_rfl
instance:Tyc Tryz.prog 3 false 1:=⟨Ag4⟩
theorem Cd3:tyB Tryz.prog 303=some (true,1):=by kernel_rfl
instance:Tyc Tryz.prog 303 true 1:=⟨Cd3⟩
theorem Bf1:tyB Tryz.prog 312=some (true,5):=by kernel_rfl
instance:Tyc Tryz.prog 312 true 5:=⟨Bf1⟩
theorem CK9:tyB Tryz.prog 338=some (true,5):=by kernel_rfl
instance:Tyc Tryz.prog 338 true 5:=⟨CK9⟩
theorem Ag0:tyB Tryz.prog 34=some (false,1):=by kernel_rfl
instance:Tyc Tryz.prog 34 false 1:=⟨Ag0⟩
theorem BT1:tyB Tryz.prog 4=some (false,1):=by kernel_rfl
instance:Tyc Tryz.prog 4 false 1:=⟨BT1⟩
theorem AE8:tyB Tryz.prog 60=some (true,4):=by kernel_rfl
instance:Tyc Tryz.prog 60 true 4:=⟨AE8⟩
theorem Dl5:tyB Tryz.prog 64=some (true,4):=by kernel_rfl
instance:Tyc Tryz.prog 64 true 4:=⟨Dl5⟩
theorem AA1:tyB Tryz.prog 66=some (true,9):=by kernel_rfl
instance:Tyc Tryz.prog 66 true 9:=⟨AA1⟩
theorem Cd0:Tryz.prog.underlying 115=some (.int .u64):=by kernel_rfl
theorem Cc8:Tryz.prog.underlying 179=some (.int .u64):=by kernel_rfl
theorem Bf0:Tryz.prog.underlying 20=some (.interface #[]):=by kernel_rfl
theorem CP7:Tryz.prog.underlying 258=some (.int .u64):=by kernel_rfl
theorem BD2:Tryz.prog.underlying 3=some (.int .i64):=by kernel_rfl
theorem Az9:zeroV Tryz.prog 195=some (.agg #[.int .i64 0,.int .i64 0]):=by kernel_rfl
theorem Cy0:zeroB Tryz.prog 142=some [.int .i64 0,.int .i64 0,.int .i64 0,.int .i64 0,.int .i64 0,.int .i64 0,.int .i64 0,.slice none 0 0,.int .i64 0,.int .i64 0,.int .i64 0,.int .i64 0,.int .i64 0,.int .i64 0,.int .i64 0,.int .i64 0,.int .i64 0,.map none]:=by kernel_rfl
theorem Cx8:zeroB Tryz.prog 169=some [.nilFunc]:=by kernel_rfl
theorem Ax8:zeroB Tryz.prog 188=some [.int .i64 0,.int .i64 0,.int .i64 0,.int .i64 0]:=by kernel_rfl
theorem Aj0:zeroB Tryz.prog 195=some [.int .i64 0,.int .i64 0]:=by kernel_rfl
theorem Ae2:zeroB Tryz.prog 23=some [.int .i64 0,.int .i64 0]:=by kernel_rfl
theorem BM1:zeroB Tryz.prog 240=some [.pointer none]:=by kernel_rfl
theorem Ac8:zeroB Tryz.prog 242=some [.int .i64 0,.int .i64 0]:=by kernel_rfl
theorem Cx7:zeroB Tryz.prog 244=some [.int .i64 0,.int .i64 0,.int .i64 0,.int .i64 0,.int .i64 0,.int .i64 0,.int .i64 0,.slice none 0 0,.int .i64 0,.int .i64 0]:=by kernel_rfl
theorem Cx6:zeroB Tryz.prog 251=some [.nilFunc]:=by kernel_rfl
theorem AG8:zeroB Tryz.prog 260=some [.int .i64 0,.int .u64 0]:=by kernel_rfl
theorem Cx5:zeroB Tryz.prog 263=some [.nilFunc]:=by kernel_rfl
theorem AU3:zeroB Tryz.prog 269=some [.pointer none,.int .i64 0,.int .i64 0,.int .i64 0,.int .i64 0]:=by kernel_rfl
theorem Ax7:zeroB Tryz.prog 3=some [.int .i64 0]:=by kernel_rfl
theorem Bl2:zeroB Tryz.prog 303=some [.int .i64 0]:=by kernel_rfl
theorem Bl1:zeroB Tryz.prog 312=some [.int .i64 0,.int .i64 0,.int .i64 0,.int .i64 0,.int .i64 0]:=by kernel_rfl
theorem Cx3:zeroB Tryz.prog 325=some [.int .i64 0]:=by kernel_rfl
theorem Cx2:zeroB Tryz.prog 327=some [.int .i64 0,.int .i64 0]:=by kernel_rfl
theorem Cx1:zeroB Tryz.prog 331=some []:=by kernel_rfl
theorem Cx0:zeroB Tryz.prog 332=some []:=by kernel_rfl
theorem Cw9:zeroB Tryz.prog 333=some []:=by kernel_rfl
theorem Cw8:zeroB Tryz.prog 334=some []:=by kernel_rfl
theorem Cw7:zeroB Tryz.prog 335=some []:=by kernel_rfl
theorem BM0:zeroB Tryz.prog 338=some [.nilIface,.nilIface,.nilIface,.nilIface,.nilIface]:=by kernel_rfl
theorem At0:zeroB Tryz.prog 34=some [.int .i64 0]:=by kernel_rfl
theorem Da5:zeroB Tryz.prog 4=some [.bool false]:=by kernel_rfl
theorem An6:zeroB Tryz.prog 60=some [.int .i64 0,.int .i64 0,.int .i64 0,.int .i64 0]:=by kernel_rfl
theorem Aw1:zeroB Tryz.prog 66=some [.int .i64 0,.int .i64 0,.int .i64 0,.int .i64 0,.int .i64 0,.int .i64 0,.int .i64 0,.int .i64 0,.int .i64 0]:=by kernel_rfl
end Go.Proofs.YtnmkdiagbkkmaabGreatDoor
namespace Go.Pw1
open Go Go.Eng

theorem Ci6 (p:Pr) (n:Int):openX p [n]=if isPair p then (if thingR p n then .ok () else .error 2) else .error 1:=by
  unfold openX thingR
  split
  · cases h:within n 0 ((p.things.length:Int) - 1) <;> simp [h]
  · rfl
theorem Bu9 (p:Pr):openX p []=if isPair p then .ok () else .error 1:=by simp [openX]
theorem BU2 (p:Pr) (n:Int):shiftX p n=shiftR p n:=by
  unfold shiftX shiftR;rw [Ci6]
  cases isPair p <;> cases thingR p n <;> simp
theorem BT4 (p:Pr) (l:List Int) (h:openX p l=if isPair p then .ok () else .error 1):truthsX p l=if isPair p then (if isB (allS p) then .ok (allS p) else .error 4) else .error 1:=by
  unfold truthsX;rw [h]
  cases hp:isPair p with
  | false=>simp
  | true=>simp only [if_true];exact BP2 (Am1 hp)
theorem AH4 (p:Pr):powerX p=powerR p:=by
  unfold powerX powerR openR;rw [BT4 p [] (Bu9 p)]
  cases isPair p <;> cases isB (allS p) <;> simp
theorem AW9 (p:Pr) (far:Int):standsX p far=standsR p far:=by
  unfold standsX standsR openR;rw [Bu9]
  cases hp:isPair p with
  | false=>simp
  | true =>
    simp only [if_true];rw [BP2 (Am1 hp)]
    cases within far p.near p.far <;> cases isB (allS p) <;> simp
theorem Cv4 {p:Pr} (hp:p.Ok):1≤(allS p).1∧(allS p).2≤500000000:=by
  have hb:=Bg5 hp;have hle:=Bc2 p p.things (powers0 p);rw [show allL p (powers0 p) p.things=allS p from rfl] at hle;omega
end Go.Pw1
namespace Go.Pw1
open Go Go.Eng
theorem AX8 (p:Pr):(powerX p).2=if isPair p then (if isB (allS p) then 0 else 4) else 1:=by
  rw [AH4];unfold powerR openR
  cases isPair p <;> cases isB (allS p) <;> rfl
def cardR (c:Cd):Bool:=(within c.half 1 4000 && within c.step 1 100 && within c.cuts 0 40 && decide (1≤c.eyes.lo) && decide (c.eyes.lo≤c.eyes.hi) && decide (c.eyes.hi≤10000)) && within c.prism 0 10000 && within c.squeeze 0 10000 && within c.front 0 10000 && within c.deep 0 10000 && isPair c.p
theorem AV6 (c:Cd):cardR c=cardIs c:=by
  unfold cardR cardIs;rw [AX8];simp only [sizesM,eyesM,badM,List.any_cons,List.any_nil,Bool.or_false,Bool.not_or,Bool.not_not]
  cases isPair c.p
  · simp
  · cases isB (allS c.p) <;> simp [Bool.and_assoc]
def trR (c:Cd) (t:Tr):Bool:=within t.ll 0 c.cuts && within t.lr 0 c.cuts && within t.rl 0 c.cuts && within t.rr 0 c.cuts && decide (t.ll + t.lr=t.rl + t.rr)
theorem Dc2 (c:Cd) (t:Tr):trR c t=trIs c t:=by simp [trR,trIs,badT,Bool.and_assoc]
def checkR (c:Cd) (v:Bool):Int:=if cardR c then (if v then (powerR c.p).2 else 2) else 1
theorem Ct7 (c:Cd):openM c []=checkR c true:=by simp [openM,checkR,AV6,AH4]
theorem BA0 (c:Cd) (t:Tr):openM c [t]=checkR c (trR c t):=by simp [openM,checkR,AV6,Dc2,AH4]
theorem AI5 {c:Cd} {v:Bool} (h:checkR c v=0):isPair c.p=true∧isB (allS c.p)=true∧c.Ok∧v=true:=by
  unfold checkR at h
  split at h
  · rename_i hc
    rw [AV6] at hc
    split at h
    · rename_i hv
      have h2:(powerX c.p).2=0:=by rw [AH4];exact h
      rw [AX8] at h2
      cases h3:isPair c.p with
      | false=>simp [h3] at h2
      | true =>
        cases h4:isB (allS c.p) with
        | false=>simp [h3,h4] at h2
        | true=>exact ⟨rfl,rfl,(AB1 hc).1,hv⟩
    · simp at h
  · simp at h
theorem CB7 {p:Pr} (hp:isPair p=true) {j:Nat} (hj:j < p.things.length):(shiftX p j).1=shift (thingAt p j):=by
  rw [BU2];unfold shiftR;rw [if_pos hp,if_pos (by simp [thingR,within];omega)]
def hurtR (c:Cd) (t:Tr) (x:Th):Int :=
  if apartM c t - (shift x).2 < c.eyes.hi - c.squeeze then 1
  else if c.eyes.lo + c.prism < apartM c t - (shift x).1 then 2
  else if windowM c t + c.front < (shift x).2 then 3
  else if (shift x).1 < windowM c t - c.deep then 4
  else if offM c t x then 5 else 0
theorem Cm8 {c:Cd} (hp:isPair c.p=true) (t:Tr) {j:Nat} (hj:j < c.p.things.length):whyM c t j=hurtR c t (thingAt c.p j):=by
  unfold whyM;rw [CB7 hp hj];unfold hurtR hurtL
  generalize shift (thingAt c.p j)=s
  by_cases h1:apartM c t - s.2 < c.eyes.hi - c.squeeze
  · simp [idxF,h1]
  · by_cases h2:c.eyes.lo + c.prism < apartM c t - s.1
    · simp [idxF,h1,h2]
    · by_cases h3:windowM c t + c.front < s.2
      · simp [idxF,h1,h2,h3]
      · by_cases h4:s.1 < windowM c t - c.deep
        · simp [idxF,h1,h2,h3,h4]
        · by_cases h5:offM c t (thingAt c.p j)=true
          · simp [idxF,h1,h2,h3,h4,h5]
          · simp [idxF,h1,h2,h3,h4,h5]
def hurtRF (c:Cd) (t:Tr):List Int→Option (Int×Int)
  | []=>none
  | i::l=>if hurtR c t (thingAt c.p i)=0 then hurtRF c t l else some (i,hurtR c t (thingAt c.p i))
theorem Bi0 {c:Cd} (hp:isPair c.p=true) (t:Tr):∀ {l:List Int},(∀ i∈l,∃ j:Nat,i=j∧j < c.p.things.length)→hurtF c t l=((hurtRF c t l).getD (0,0))
  | [],_=>rfl
  | i::l,h=>by
    obtain ⟨j,rfl,hj⟩:=h i (by simp);have ih:=Bi0 hp t (l:=l) (fun k hk=>h k (List.mem_cons_of_mem _ hk));unfold hurtF hurtRF;rw [Cm8 hp t hj]
    split
    · exact ih
    · rfl
theorem Ba1 {c:Cd} {t:Tr}:∀ {l:List Int},hurtRF c t l=none ↔ (hurtRF c t l).getD (0,0)=(0,0)∧((hurtRF c t l).getD (0,0)).2=0
  | []=>by simp [hurtRF]
  | i::l=>by
    have ih:=Ba1 (c:=c) (t:=t) (l:=l);unfold hurtRF
    split
    · exact ih
    · rename_i h
      simp [h]
theorem BX7 {c:Cd} (hp:isPair c.p=true) (t:Tr):hurtM c t=(hurtRF c t (seenN c.p)).getD (0,0):=Bi0 hp t (fun i hi=>by
  obtain ⟨j,h1,h2,_⟩:=AU7 hi;exact ⟨j,h1,h2⟩)
def hurtsR (c:Cd) (t:Tr):Int×Int×Int:=if checkR c (trR c t)=0 then (match hurtRF c t (seenN c.p) with | some x=>(x.1,x.2,11) | none=>(0,0,0)) else (0,0,checkR c (trR c t))
theorem Bh9 (c:Cd) (t:Tr):hurtsX c t=hurtsR c t:=by
  unfold hurtsX hurtsR;rw [BA0]
  split
  · rename_i h
    have hp:=(AI5 h).1;rw [BX7 hp]
    cases h2:hurtRF c t (seenN c.p) with
    | none=>rfl
    | some x =>
      have h3:=(not_congr (Ba1 (c:=c) (t:=t) (l:=seenN c.p))).1 (by rw [h2];simp);rw [h2] at h3;simp only [Option.getD_some] at h3 ⊢;rw [if_neg];intro h0;refine h3 ⟨?_,h0⟩
      exact absurd h0 (by
        have:∀ l:List Int,hurtRF c t l=some x→x.2 ≠ 0:=by
          intro l
          induction l with
          | nil=>intro h;cases h
          | cons i l ih =>
            unfold hurtRF
            split
            · exact ih
            · rename_i hz;intro h;cases h;exact hz
        exact this _ h2)
  · rfl
/-! ## Eyes and rooms -/
def roomR (c:Cd) (t:Tr):(Int×Int)×Int:=if checkR c (trR c t)=0 then (if (roomOf c t).2 < (roomOf c t).1 then ((0,0),4) else (roomOf c t,0)) else ((0,0),checkR c (trR c t))
theorem Bu2 (c:Cd) (t:Tr):roomX c t=roomR c t:=by unfold roomX roomR;rw [BA0]
def depthsO (c:Cd) (w r:Int×Int):Int×Int:=(max c.p.near (w.2 / (r.2 + 1) + 1),if 0 < r.1 then min c.p.far (w.1 / r.1) else c.p.far)
def depthsR (c:Cd) (t:Tr):(Int×Int)×Int :=
  if (roomR c t).2=0 then
    (if (depthsO c (powerR c.p).1 (roomR c t).1).2 < (depthsO c (powerR c.p).1 (roomR c t).1).1 then ((0,0),4) else (depthsO c (powerR c.p).1 (roomR c t).1,0))
  else ((0,0),(roomR c t).2)
theorem BQ8 {a b k:Int} (hb:0 < b):a / b < k ↔ a < k * b:=Int.ediv_lt_iff_lt_mul hb
theorem AZ2 {lo hi e:Int} {f:Nat→Bool} (h0:lo≤hi) (hf:∀ j:Nat,j < (hi - lo + 1).toNat→(f j=true ↔ e≤lo + j)):lo + (leastN f (hi - lo + 1).toNat:Int)=min (hi + 1) (max lo e):=by
  have h:leastN f (hi - lo + 1).toNat=(min (hi + 1) (max lo e) - lo).toNat:=by
    refine AZ3 (by omega) (fun j hj=>?_) (fun h=>?_)
    · have h2:=hf j (by omega)
      cases hj2:f j with
      | false=>rfl
      | true=>have:=h2.1 hj2;omega
    · exact (hf _ h).2 (by omega)
  rw [h];omega
theorem BJ7 (c:Cd) (t:Tr):depthsX c t=depthsR c t:=by
  unfold depthsX depthsR;rw [Bu2]
  split
  · rename_i h
    have h1:checkR c (trR c t)=0:=by
      unfold roomR at h
      split at h
      · assumption
      · exact h
    obtain ⟨hp,hb,hc,_⟩:=AI5 h1;have hpk:=Am1 hp;have n1:=hpk.n1;have n2:=hpk.n2
    have r1:0≤(roomR c t).1.1∧(roomR c t).1.1≤(roomR c t).1.2:=by
      unfold roomR at h ⊢;rw [if_pos h1] at h ⊢
      split
      · rename_i h2;rw [if_pos h2] at h;simp at h
      · rename_i h2
        refine ⟨?_,by simpa using h2⟩
        simp only [roomOf,nar];omega
    generalize (roomR c t).1=r at r1 ⊢
    have hw:(powerR c.p).1=allS c.p:=by simp [powerR,openR,hp,hb]
    rw [hw];have w1:=Cv4 hpk;have w2:(allS c.p).1≤(allS c.p).2:=by simpa [isB] using hb
    have hst:∀ z,c.p.near≤z→z≤c.p.far→standsAt c.p z=((allS c.p).1 / z,(allS c.p).2 / z):=fun z h2 h3=>by
      unfold standsAt;rw [AW9]
      have:within z c.p.near c.p.far=true:=by simp [within,h2,h3]
      simp [standsR,openR,hp,hb,this]
    generalize allS c.p=w at hst w1 w2 ⊢
    have e1:=AZ2 (lo:=c.p.near) (hi:=c.p.far) (e:=w.2 / (r.2 + 1) + 1) (f:=fun i=>decide ((standsAt c.p (c.p.near + i)).2≤r.2)) n2 (fun j hj=>by
      rw [hst _ (by omega) (by omega)];simp only [decide_eq_true_eq];have g1:w.2 / (c.p.near + j) < r.2 + 1 ↔ w.2 < (r.2 + 1) * (c.p.near + j):=BQ8 (by omega);have g2:w.2 / (r.2 + 1) < c.p.near + j ↔ w.2 < (c.p.near + j) * (r.2 + 1):=BQ8 (by omega);rw [Int.mul_comm] at g2;omega)
    have hf2:depthsOf c r=(min (c.p.far + 1) (max c.p.near (w.2 / (r.2 + 1) + 1)),(c.p.near + leastN (fun i=>decide ((standsAt c.p (c.p.near + i)).1 < r.1)) (c.p.far - c.p.near + 1).toNat - 1)):=by
      unfold depthsOf;simp only [e1]
    by_cases h0:0 < r.1
    · have e2:=AZ2 (lo:=c.p.near) (hi:=c.p.far) (e:=w.1 / r.1 + 1) (f:=fun i=>decide ((standsAt c.p (c.p.near + i)).1 < r.1)) n2 (fun j hj=>by
        rw [hst _ (by omega) (by omega)];simp only [decide_eq_true_eq];have g1:w.1 / (c.p.near + j) < r.1 ↔ w.1 < r.1 * (c.p.near + j):=BQ8 (by omega);have g2:w.1 / r.1 < c.p.near + j ↔ w.1 < (c.p.near + j) * r.1:=BQ8 (by omega);rw [Int.mul_comm] at g2;omega)
      rw [hf2,e2];simp only [depthsO,if_pos h0]
      split <;> split <;> first | rfl | omega | (congr 1;congr 1 <;> omega)
    · have e2:leastN (fun i=>decide ((standsAt c.p (c.p.near + i)).1 < r.1)) (c.p.far - c.p.near + 1).toNat=(c.p.far - c.p.near + 1).toNat:=by
        refine AZ3 (Nat.le_refl _) (fun j hj=>?_) (fun h=>absurd h (by omega))
        rw [hst _ (by omega) (by omega)]
        have:=Int.ediv_nonneg (show 0≤w.1 by omega) (show 0≤c.p.near + j by omega)
        simp only [decide_eq_false_iff_not];omega
      rw [hf2,e2];simp only [depthsO,if_neg h0]
      split <;> split <;> first | rfl | omega | (congr 1;congr 1 <;> omega)
  · rfl
end Go.Pw1
namespace Go.Pw1
open Go Go.Eng
def fitR (c:Cd) (t:Tr):Bool:=(hurtRF c t (seenN c.p)).isNone
def blockR (o:Option Tr) (t:Tr):Bool:=match o with | some u=>decide (sumT u≤sumT t) | none=>false
def stepR (c:Cd) (o:Option Tr) (t:Tr):Option Tr:=if !trR c t || blockR o t then o else if fitR c t then some t else o
def okR (c:Cd) (t:Tr):Bool:=trR c t && fitR c t
def BestOf (c:Cd) (l:List Tr) (o:Option Tr):Prop :=
  (o=none→∀ v∈l,okR c v=false)∧∀ u,o=some u→u∈l∧okR c u=true∧∀ v∈l,okR c v=true→v=u∨befT u v
theorem BestOf.step {c:Cd} {l:List Tr} {o:Option Tr} {t:Tr} (h:BestOf c l o) (hl:∀ v∈l,lexT v t):BestOf c (l++[t]) (stepR c o t):=by
  obtain ⟨h1,h2⟩:=h;unfold stepR
  by_cases ht:trR c t=true
  · by_cases hb:blockR o t=true
    · simp only [ht,hb,Bool.not_true,Bool.false_or,if_true]
      cases o with
      | none=>cases hb
      | some u =>
        obtain ⟨g1,g2,g3⟩:=h2 u rfl;have hs:sumT u≤sumT t:=by simpa [blockR] using hb
        refine ⟨fun h=>(by cases h),fun u' hu'=>?_⟩
        cases hu'
        refine ⟨List.mem_append_left _ g1,g2,fun v hv hv2=>?_⟩
        rcases List.mem_append.1 hv with hv | hv
        · exact g3 v hv hv2
        · cases List.mem_singleton.1 hv
          right
          have:=hl u g1
          unfold befT
          rcases Int.lt_or_eq_of_le hs with h | h
          · exact .inl h
          · exact .inr ⟨h,this⟩
    · have hb':blockR o t=false:=by simpa using hb
      by_cases hf:fitR c t=true
      · simp only [ht,hb',hf,Bool.not_true,Bool.false_or,Bool.false_eq_true,if_false,if_true]
        refine ⟨fun h=>(by cases h),fun u' hu'=>?_⟩
        cases hu'
        refine ⟨by simp,by simp [okR,ht,hf],fun v hv hv2=>?_⟩
        rcases List.mem_append.1 hv with hv | hv
        · right
          cases o with
          | none=>rw [h1 rfl v hv] at hv2;cases hv2
          | some u =>
            obtain ⟨g1,g2,g3⟩:=h2 u rfl;have hs:sumT t < sumT u:=by simpa [blockR] using hb'
            left
            rcases g3 v hv hv2 with rfl | h
            · exact hs
            · unfold befT at h;omega
        · exact .inl (List.mem_singleton.1 hv)
      · have hf':fitR c t=false:=by simpa using hf
        simp only [ht,hb',hf',Bool.not_true,Bool.false_or,Bool.false_eq_true,if_false];have hok:okR c t=false:=by simp [okR,hf']
        refine ⟨fun h v hv=>?_,fun u hu=>?_⟩
        · rcases List.mem_append.1 hv with hv | hv
          · exact h1 h v hv
          · cases List.mem_singleton.1 hv;exact hok
        · obtain ⟨g1,g2,g3⟩:=h2 u hu
          refine ⟨List.mem_append_left _ g1,g2,fun v hv hv2=>?_⟩
          rcases List.mem_append.1 hv with hv | hv
          · exact g3 v hv hv2
          · cases List.mem_singleton.1 hv;rw [hok] at hv2;cases hv2
  · have ht':trR c t=false:=by simpa using ht
    simp only [ht',Bool.not_false,Bool.true_or,if_true];have hok:okR c t=false:=by simp [okR,ht']
    refine ⟨fun h v hv=>?_,fun u hu=>?_⟩
    · rcases List.mem_append.1 hv with hv | hv
      · exact h1 h v hv
      · cases List.mem_singleton.1 hv;exact hok
    · obtain ⟨g1,g2,g3⟩:=h2 u hu
      refine ⟨List.mem_append_left _ g1,g2,fun v hv hv2=>?_⟩
      rcases List.mem_append.1 hv with hv | hv
      · exact g3 v hv hv2
      · cases List.mem_singleton.1 hv;rw [hok] at hv2;cases hv2
end Go.Pw1
namespace Go.Pw1
open Go Go.Eng
theorem AV1 {c:Cd} {t:Tr}:∀ {l:List Int},(hurtF c t l).2 ≠ 0→(hurtF c t l).1∈l∧whyM c t (hurtF c t l).1=(hurtF c t l).2
  | [],h=>absurd rfl h
  | i::l,h=>by
    unfold hurtF at h ⊢
    split at h
    · rename_i h0
      rw [if_pos h0];obtain ⟨g1,g2⟩:=AV1 h;exact ⟨List.mem_cons_of_mem _ g1,g2⟩
    · rename_i h0
      rw [if_neg h0];exact ⟨by simp,rfl⟩
theorem Cg4 {p:Pr} {j:Nat}:(j:Int)∈seenN p ↔ j < p.things.length∧(whyX p j).1=0:=by
  constructor
  · intro h
    obtain ⟨k,h1,h2,h3⟩:=AU7 h
    have:j=k:=by omega
    subst this;exact ⟨h2,h3⟩
  · rintro ⟨h1,h2⟩
    exact List.mem_map.2 ⟨_,AU8 h1 h2,rfl⟩
/-! ## The truth -/
/-! ## The least one -/
/-! ## Two things too far apart -/
/-! ## Eyes -/
theorem Cg5 {p:Pr} {e:Int×(Int×Int)}:e∈seenM p ↔ ∃ j:Nat,e=((j:Int),(shiftX p j).1)∧j < p.things.length∧(whyX p j).1=0 :=
  ⟨AL7 p _ e,fun ⟨_,h1,h2,h3⟩=>h1 ▸ AU8 h2 h3⟩
theorem CK3 {α:Type} {f:α→Bool} {l:List α} {k:Nat} (h:k < l.length) (h1:(l.take k).all f=true) (h2:f l[k]=true):(l.take (k + 1)).all f=true:=by
  rw [List.take_succ_eq_append_getElem h,List.all_append,h1];simp [h2]
theorem Da3 {α:Type} {f:α→Bool} {l:List α} {k:Nat} (h:k < l.length) (h2:f l[k]=false):l.all f=false:=by
  rw [Bool.eq_false_iff];intro h3;rw [List.all_eq_true.1 h3 _ (List.getElem_mem h)] at h2
  cases h2
end Go.Pw1
namespace Go.Proofs.YtnmkdiagbkkmaabGreatDoor
open Go Go.Eng Go.Pw1

theorem Ao4 (n lo hi:Int) (W:World):Calls Tryz.prog 220 #[.int .i64 n,.int .i64 lo,.int .i64 hi] W (Pure (.bool (within n lo hi)) W):=by
  refine Aa0 Tryz.func220 rfl rfl ?_;refine st ?_
  refine Ab3 (dj:=10) (dp:=14) 4 rfl (fun g10=>by
    have g10':=g10;try simp only [nH] at g10'
    refine sv ?_;exact zs g10
  ) (fun g10=>by
    have g10':=g10;try simp only [nH] at g10'
    iterate 3 refine Ab8 rfl rfl rfl ?_
    refine sv ?_;exact zs g10
  ) ?_
  refine su ?_;exact Aa4 (.r1 rfl (.tmp rfl)) (by first | rfl | simp)
theorem Ay6 (s:Sp) (lo hi:Int) (W:World):Calls Tryz.prog 235 #[.agg #[.int .i64 s.lo,.int .i64 s.hi],.int .i64 lo,.int .i64 hi] W (Pure (.bool (isSpan s lo hi)) W):=by
  refine Aa0 Tryz.func235 rfl rfl ?_;refine st ?_;refine zn (New.box rfl) (fun b3=>?_)
  refine Ab3 (dj:=11) (dp:=17) 6 rfl (fun g11=>by
    have g11':=g11;try simp only [nH] at g11'
    refine lv (Val.fieldAddr rfl Ay8) ?_;refine lv (Ab6 rfl (.head _) Ag4 rfl) ?_;refine lv (Val.fieldAddr rfl Am5) ?_;refine Ac7 (Ab6 rfl (.head _) Ag4 rfl) rfl rfl rfl ?_;refine sv ?_;exact zs g11
  ) (fun g11=>by
    have g11':=g11;try simp only [nH] at g11'
    iterate 5 refine Ab8 rfl rfl rfl ?_
    refine sv ?_;exact zs g11
  ) ?_
  refine st ?_
  refine Ab3 (dj:=18) (dp:=23) 5 rfl (fun g18=>by
    have g18':=g18;try simp only [nH] at g18'
    refine lv (Val.fieldAddr rfl Am5) ?_;refine Ac7 (Ab6 rfl (.head _) Ag4 rfl) rfl rfl rfl ?_;refine sv ?_;exact zs g18
  ) (fun g18=>by
    have g18':=g18;try simp only [nH] at g18'
    iterate 4 refine Ab8 rfl rfl rfl ?_
    refine sv ?_;exact zs g18
  ) ?_
  refine su ?_;exact Aa4 (.r1 rfl (.tmp rfl)) (by first | rfl | simp)
theorem AM8 (x y:Sp) (W:World):Calls Tryz.prog 234 #[.agg #[.int .i64 x.lo,.int .i64 x.hi,.int .i64 y.lo,.int .i64 y.hi]] W (Pure (.bool (isPlace x y)) W):=by
  refine Aa0 Tryz.func234 rfl rfl ?_;refine st ?_;refine zn (New.box rfl) (fun b1=>?_)
  refine zc (zF rfl Bp0) (fun w hm=>Ay6 ⟨_,_⟩ _ _ w) ?_
  refine Ab3 (dj:=6) (dp:=10) 4 rfl (fun g6=>by
    have g6':=g6;try simp only [nH] at g6'
    refine su ?_;refine Ab7 (zF rfl Bp0) rfl rfl rfl (fun w hm=>Ay6 ⟨_,_⟩ _ _ w) ?_;refine sv ?_;exact zs g6
  ) (fun g6=>by
    have g6':=g6;try simp only [nH] at g6'
    iterate 3 refine Ab8 rfl rfl rfl ?_
    refine sv ?_;exact zs g6
  ) ?_
  refine su ?_;exact Aa4 (.r1 rfl (.tmp rfl)) (by first | rfl | simp)
theorem Cu5 (p:Pr) (q:Option Addr) (cap:Nat) (t:Th) (bf bp:Nat) (W:World) (hf:W.heap[bf]? = some (.cells #[.func (.func 234) #[] #[]] 169 (0,0))) (hp:W.heap[bp]? = some (.cells (p.cells q cap).toArray 26 (0,0))) :
    Calls Tryz.prog 236 #[t.v,.pointer (some ⟨bf,0,none⟩),.pointer (some ⟨bp,0,none⟩)] W (Pure (.bool (bad p t)) W):=by
  refine Aa0 Tryz.func236 rfl rfl ?_;refine st ?_;refine zn (New.box rfl) (fun b3=>?_)
  refine lu (Aa2 rfl hf (by simp) BN1 rfl) ?_;refine Ab7 (Ac5 rfl rfl Cq2) rfl rfl rfl (fun w hm=>AM8 ⟨_,_⟩ ⟨_,_⟩ w) ?_;refine st ?_
  refine Ad4 (dj:=10) (dp:=16) 6 rfl (fun g10=>by
    have g10':=g10;try simp only [nH] at g10'
    refine lu (Aa2 rfl hf (by simp) BN1 rfl) ?_;refine Ab7 (Ac5 rfl rfl Cq2) rfl rfl rfl (fun w hm=>AM8 ⟨_,_⟩ ⟨_,_⟩ w) ?_;refine sv ?_;exact zs g10
  ) (fun g10=>by
    have g10':=g10;try simp only [nH] at g10'
    iterate 5 refine Ab8 rfl rfl rfl ?_
    refine sv ?_;exact zs g10
  ) ?_
  refine st ?_
  refine Ad4 (dj:=17) (dp:=31) 14 rfl (fun g17=>by
    have g17':=g17;try simp only [nH] at g17'
    refine su ?_
    refine Ab3 (dj:=21) (dp:=30) 9 rfl (fun g21=>by
      have g21':=g21;try simp only [nH] at g21'
      refine su ?_;refine lu (Aa2 rfl hp (by simp) Ag4 rfl) ?_;refine lv (Aa2 rfl hp (by simp) Ag4 rfl) ?_;refine Ab7 (zF rfl AQ0) rfl rfl rfl (fun w hm=>Ao4 _ _ _ w) ?_;refine sv ?_;exact zs g21
    ) (fun g21=>by
      have g21':=g21;try simp only [nH] at g21'
      iterate 8 refine Ab8 rfl rfl rfl ?_
      refine sv ?_;exact zs g21
    ) ?_
    refine sv ?_;exact zs g17
  ) (fun g17=>by
    have g17':=g17;try simp only [nH] at g17'
    iterate 13 refine Ab8 rfl rfl rfl ?_
    refine sv ?_;exact zs g17
  ) ?_
  refine su ?_;exact Aa4 (.r1 rfl (.tmp rfl)) (by first | rfl | simp)

theorem Au6 (t:Th) (ht:t.Ok) (W:World):Calls Tryz.prog 175 #[t.v] W (Pure (b2v (shift t)) W):=by
  obtain ⟨⟨h1,h2,h3⟩,⟨h4,h5,h6⟩,⟨h7,h8,h9⟩,⟨h10,h11,h12⟩⟩:=ht;refine Aa0 Tryz.func175 rfl rfl ?_;refine st ?_;refine zn (New.box rfl) (fun b1=>?_)
  refine zn (New.alloc Ae2) (fun b2=>?_)
  refine lu (Ae9 rfl rfl (IntWalk.i64_in _ ⟨by omega,by omega⟩)) ?_;refine lv (Ae9 rfl rfl (IntWalk.i64_in _ ⟨by omega,by omega⟩)) ?_;refine lv (Val.build (parts:=[(0,.tmp 11),(1,.tmp 20)]) rfl Ae2 Al9 rfl) ?_;refine Aa9 (Sto.store rfl rfl .here Ag5 rfl rfl) rfl rfl ?_;refine su ?_;exact Aa4 (.r1 rfl (.agg rfl (.head _) Ag5 rfl)) (by first | rfl | simp)
theorem Ay1 (b:Int×Int) (W:World):Calls Tryz.prog 178 #[.agg #[.int .i64 b.1,.int .i64 b.2]] W (Pure (b2v b) W):=by
  refine Aa0 Tryz.func178 rfl rfl ?_;refine st ?_;refine zn (New.box rfl) (fun b1=>?_)
  refine zn (New.alloc Ae2) (fun b2=>?_)
  refine lu (Ab2 rfl rfl Ah7 (by decide) (by decide)) ?_;refine lu (Ab2 rfl rfl Ah7 (by decide) (by decide)) ?_;refine lv (Val.build (parts:=[(0,.tmp 4),(1,.tmp 6)]) rfl Ae2 Al9 rfl) ?_;refine Aa9 (Sto.store rfl rfl .here Ag5 rfl rfl) rfl rfl ?_;refine su ?_;exact Aa4 (.r1 rfl (.agg rfl (.head _) Ag5 rfl)) (by first | rfl | simp)

theorem Af5 (a:Int×Int) (l:List (Int×Int)) (q:Option Addr) (b o cap:Nat) (W:World) (hS:Sl W q b o 2 (l.map b2c)) (hl:l.length≤100) :
    Calls Tryz.prog 181 #[b2v a,.slice q l.length cap] W (Pure (.tuple #[b2v (narL a l),.bool (isB (narL a l))]) W):=by
  refine Aa0 Tryz.func181 rfl rfl ?_;refine st ?_;refine zn (New.box rfl) (fun b2=>?_)
  refine zn (New.alloc Ac8) (fun b4=>?_)
  refine Ae5 (l.length) (fun k q=>(10,.int .i64 (k:Int))::q) (fun _=>_) (fun k=>[(b2,.cells (b2c (narL a (l.take k))).toArray 242 (0,0))]) (fun _=>True) trivial rfl (zE 10 rfl rfl (zS 8 rfl (zS 9 rfl (zS 2 rfl (zS 4 rfl (Sub.nil _)))))) (.cons (.there .here) rfl (.cons .here rfl .nil)) ?_;intro k kN kI;clear kI;refine st ?_;refine cn rfl ?_ ?_
  ·intro c0'
   have hk:k < l.length:=by omega
   refine st ?_;refine lv (Aa8 rfl rfl AF0 (by omega) (by omega) (hS.ptrM hk)) ?_;refine lv (Ab0 rfl (fun w hm=>hS.loadM (by decide) hm (by simp) Af4 hk)) ?_;refine zn (New.alloc Ac8) (fun b7=>?_)
   refine Aa9 (Sto.store rfl rfl .here Af4 rfl rfl) rfl rfl ?_;refine st ?_;refine lu (Ab2 rfl rfl Ah7 (by decide) (by decide)) ?_;refine lu (Ab2 rfl rfl Ah7 (by decide) (by decide)) ?_;refine lv (Val.max rfl rfl) ?_;refine lu (Ab2 rfl rfl Ah7 (by decide) (by decide)) ?_;refine lu (Ab2 rfl rfl Ah7 (by decide) (by decide)) ?_;refine lv (Val.min rfl rfl) ?_;refine lv (Val.build (parts:=[(0,.tmp 18),(1,.tmp 23)]) rfl Ac8 Ai3 rfl) ?_;refine Aa9 (Sto.store rfl rfl (.there .here) Af4 rfl rfl) rfl rfl ?_;refine st ?_;refine lv (Val.add rfl rfl (IntWalk.i64_in _ ⟨by omega,by omega⟩)) ?_;exact Ad0 (by omega) trivial rfl (zE 10 rfl rfl (zS 8 rfl (zS 9 rfl (zS 2 rfl (zS 4 rfl (Sub.nil _)))))) (.cons (.there .here) (by rw [List.take_succ_eq_append_getElem hk,Bv2];rfl) (.cons (.there .here) rfl .nil))
  intro c0';obtain rfl:k=l.length:=by omega
  rw [List.take_length];refine RunC.exit ?_;refine su ?_;refine Ab1 ?_;refine st ?_;refine Ac4 7 Aj3 (.cons .here rfl .nil) ?_;refine zw 0 ?_;refine zv 1 rfl (Ab2 rfl rfl Ah7 (by decide) (by decide)) ?_;refine zw 2 ?_;refine zv 3 rfl (Ab2 rfl rfl Ah7 (by decide) (by decide)) ?_;refine zw 4 ?_;refine zw 5 ?_;refine zA 6 ?_;refine Ac0 rfl (Sto.store rfl rfl (.there .here) Af4 rfl rfl) rfl rfl (Aa7 (.cons .here rfl .nil) (.cons .here rfl .nil) rfl ?_)
  refine zt ?_;refine zp 7 ?_;refine zd ?_;refine su ?_;exact Aa4 (.r2 rfl (.agg rfl (.tail _ (.head _)) Af4 rfl) (.tmp rfl)) (by first | rfl | simp)
end Go.Proofs.YtnmkdiagbkkmaabGreatDoor
namespace Go.Proofs.YtnmkdiagbkkmaabGreatDoor
open Go Go.Eng Go.Pw1

theorem AK1 (t:Th) (ht:t.Ok) (W:World):Calls Tryz.prog 180 #[t.v] W (Pure (.tuple #[b2v (shownS t),.bool (isB (shownS t))]) W):=by
  refine Aa0 Tryz.func180 rfl rfl ?_;refine st ?_;refine zn (New.box rfl) (fun b1=>?_)
  refine zn (New.alloc Ac8) (fun b2=>?_)
  refine zc (zF rfl Bp3) (fun w hm=>Au6 ⟨⟨_,_⟩,⟨_,_⟩,⟨_,_⟩,⟨_,_⟩,_⟩ (by assumption) w) ?_;refine zn (New.alloc Ae2) (fun b4=>?_)
  refine Aa9 (Sto.store rfl rfl .here Ag5 rfl rfl) rfl rfl ?_;refine su ?_;refine lv (Val.build (parts:=[(0,.tmp 8),(1,.tmp 10)]) rfl Ac8 Ai3 rfl) ?_;refine lv (Val.build (parts:=[(0,.const (.int .i64 0)),(1,.const (.int .i64 2000))]) rfl Ac8 Ai3 rfl) ?_;refine zn (New.buildSlice (parts:=[(0,.tmp 12)]) rfl AF0 Ac8 rfl rfl rfl rfl) (fun b13=>?_)
  refine zc (zF rfl At7) (fun w hm=>Af5 (_,_) [(_,_)] _ _ _ _ w (Sl.one (hm.at (.head _)) rfl) (by simp)) ?_;refine Aa9 (Sto.store rfl rfl (.there (.there .here)) Af4 rfl rfl) rfl rfl ?_;refine su ?_;exact Aa4 (.r2 rfl (.agg rfl (.tail _ (.tail _ (.head _))) Af4 rfl) (.tmp rfl)) (by first | rfl | simp)
theorem AK7 (p:Pr) (hp:p.Ok) (q:Option Addr) (cap:Nat) (pw:Int×Int) (t:Th) (ht:t.Ok) (bv:Nat) (W:World) (hV:W.heap[bv]? = some (.cells (vwCells p q cap pw).toArray 244 (0,0))) :
    Calls Tryz.prog 217 #[.pointer (some ⟨bv,0,none⟩),t.v] W (Pure (.bool (levelS p t)) W):=by
  obtain ⟨⟨h1,h2,h3⟩,⟨h4,h5,h6⟩,⟨h7,h8,h9⟩,⟨h10,h11,h12⟩⟩:=ht;have t1:=hp.t1;have t2:=hp.t2;refine Aa0 Tryz.func217 rfl rfl ?_;refine st ?_;refine zn (New.box rfl) (fun b3=>?_)
  refine lu (Ae9 rfl rfl (IntWalk.i64_in _ ⟨by omega,by omega⟩)) ?_;refine lv (Ae9 rfl rfl (IntWalk.i64_in _ ⟨by omega,by omega⟩)) ?_;refine lv (Val.build (parts:=[(0,.tmp 16),(1,.tmp 25)]) rfl Ac8 Ai3 rfl) ?_;refine zn (New.alloc Ac8) (fun b5=>?_)
  refine Aa9 (Sto.store rfl rfl .here Af4 rfl rfl) rfl rfl ?_;refine nnx ?_;refine RunC.seq ?_
  apply Al3 (J:=J2 _ _ _ _ _ _) 20 Aj3 (.cons .here rfl (.cons .here rfl .nil))
  ·refine zw 0 ?_
   refine zw 1 ?_;refine zw 2 ?_;refine zw 3 ?_;refine zw 4 ?_;refine zv 5 rfl (Aa2 rfl hV (by simp) Ag4 rfl) ?_;refine zv 6 rfl (Val.neg rfl (IntWalk.i64_in _ ⟨by omega,by omega⟩)) ?_;refine zw 7 ?_;refine zw 8 ?_;refine zw 9 ?_;refine zw 10 ?_;refine zv 11 rfl (Aa2 rfl hV (by simp) Ag4 rfl) ?_;refine zv 12 rfl (Val.build (parts:=[(0,.tmp 34),(1,.tmp 39)]) rfl Ac8 Ai3 rfl) ?_;refine Ag7 (rs:=[13,18]) (by kernel_rfl) (by simp) (by kernel_rfl) (fun m hm=>?_)
   simp only [List.mem_cons,List.not_mem_nil,or_false] at hm
   rcases hm with rfl | rfl
   ·refine Ac6 rfl (New.buildSlice (parts:=[(0,.tmp 40)]) rfl AF0 Ac8 rfl rfl rfl rfl) rfl rfl rfl (fun b41=>(Aa7 (.cons .here rfl (.cons .here rfl (.cons .here rfl .nil))) (.cons (.there .here) rfl (.cons (.there .here) rfl .nil)) rfl ?_))
    refine Ag7 (rs:=[14,18]) (by kernel_rfl) (by simp) (by kernel_rfl) (fun m hm=>?_)
    simp only [List.mem_cons,List.not_mem_nil,or_false] at hm
    rcases hm with rfl | rfl
    ·refine Ab5 rfl (zF rfl At7) rfl rfl rfl (fun w hm=>Af5 (_,_) [(_,_)] _ _ _ _ w (Sl.one (hm.at (.head _)) rfl) (by simp)) (Aa7 (.cons .here rfl (.cons .here rfl (.cons .here rfl .nil))) (.cons .here rfl (.cons .here rfl (.cons .here rfl .nil))) rfl ?_)
     refine zw 15 ?_;refine zw 16 ?_;refine zw 17 ?_;refine zA 18 ?_;refine Ac6 rfl (New.alloc Ac8) rfl rfl rfl (fun b6=>(Aa7 (.cons (.there .here) rfl (.cons (.there .here) rfl (.cons (.there .here) rfl .nil))) (.cons .here rfl (.cons .here rfl (.cons .here rfl .nil))) rfl ?_))
     refine zA 19 ?_;refine Ac0 rfl (Sto.store rfl rfl .here Af4 rfl rfl) rfl rfl (Aa7 (.cons (.there .here) rfl (.cons (.there .here) rfl (.cons (.there .here) rfl .nil))) (.cons .here rfl (.cons .here rfl (.cons .here rfl .nil))) rfl ?_)
     refine zt ?_;refine zp 20 ?_;refine zd ?_;exact Ai9 b41 b6 (Ac1 _) (Pick.refl _)
    refine Ac6 rfl (New.alloc Ac8) rfl rfl rfl (fun b6=>(Aa7 (.cons (.there .here) rfl (.cons (.there .here) rfl (.cons (.there .here) rfl .nil))) (.cons .here rfl (.cons .here rfl (.cons .here rfl .nil))) rfl ?_))
    refine zA 14 ?_;refine Ab5 rfl (zF rfl At7) rfl rfl rfl (fun w hm=>Af5 (_,_) [(_,_)] _ _ _ _ w (Sl.one (hm.at (.tail _ (.head _))) rfl) (by simp)) (Aa7 (.cons (.there .here) rfl (.cons (.there .here) rfl (.cons (.there .here) rfl .nil))) (.cons .here rfl (.cons .here rfl (.cons .here rfl .nil))) rfl ?_)
    refine zw 15 ?_;refine zw 16 ?_;refine zw 17 ?_;refine zA 19 ?_;refine Ac0 rfl (Sto.store rfl rfl .here Af4 rfl rfl) rfl rfl (Aa7 (.cons (.there .here) rfl (.cons (.there .here) rfl (.cons (.there .here) rfl .nil))) (.cons .here rfl (.cons .here rfl (.cons .here rfl .nil))) rfl ?_)
    refine zt ?_;refine zp 20 ?_;refine zd ?_;exact Ai9 b41 b6 (zS 7 rfl (zS 6 rfl (zS 44 rfl (zS 43 rfl (zS 27 rfl (zS 42 rfl (zS 41 rfl (zS 40 rfl (zS 39 rfl (zS 38 rfl (zS 37 rfl (zS 36 rfl (zS 35 rfl (zS 34 rfl (zS 33 rfl (zS 32 rfl (zS 31 rfl (zS 30 rfl (zS 29 rfl (zS 28 rfl (Sub.skip rfl (Sub.skip rfl (Sub.skip rfl (Sub.skip rfl (Sub.skip rfl (Sub.skip rfl (Sub.skip rfl (Sub.skip rfl (Sub.skip rfl (Sub.skip rfl (Sub.skip rfl (Sub.skip rfl (Sub.skip rfl (Sub.skip rfl (Sub.skip rfl (Sub.skip rfl (Sub.skip rfl (Sub.skip rfl (Sub.skip rfl (Sub.skip rfl (Ac1 _))))))))))))))))))))))))))))))))))))))))) (.cons .here rfl (.cons .here rfl (.cons .here rfl (.cons .here rfl .nil))))
   refine Ac6 rfl (New.alloc Ac8) rfl rfl rfl (fun b6=>(Aa7 (.cons (.there .here) rfl (.cons (.there .here) rfl .nil)) (.cons .here rfl (.cons .here rfl .nil)) rfl ?_))
   refine zA 13 ?_;refine Ac6 rfl (New.buildSlice (parts:=[(0,.tmp 40)]) rfl AF0 Ac8 rfl rfl rfl rfl) rfl rfl rfl (fun b41=>(Aa7 (.cons .here rfl (.cons (.there .here) rfl (.cons (.there .here) rfl .nil))) (.cons (.there .here) rfl (.cons (.there .here) rfl .nil)) rfl ?_))
   refine zA 14 ?_;refine Ab5 rfl (zF rfl At7) rfl rfl rfl (fun w hm=>Af5 (_,_) [(_,_)] _ _ _ _ w (Sl.one (hm.at (.head _)) rfl) (by simp)) (Aa7 (.cons .here rfl (.cons (.there .here) rfl (.cons (.there .here) rfl .nil))) (.cons .here rfl (.cons .here rfl (.cons .here rfl .nil))) rfl ?_)
   refine zw 15 ?_;refine zw 16 ?_;refine zw 17 ?_;refine zA 19 ?_;refine Ac0 rfl (Sto.store rfl rfl (.there .here) Af4 rfl rfl) rfl rfl (Aa7 (.cons .here rfl (.cons (.there .here) rfl (.cons (.there .here) rfl .nil))) (.cons .here rfl (.cons .here rfl (.cons .here rfl .nil))) rfl ?_)
   refine zt ?_;refine zp 20 ?_;refine zd ?_;exact Ai9 b41 b6 (zS 7 rfl (zS 6 rfl (zS 44 rfl (zS 43 rfl (zS 27 rfl (zS 42 rfl (zS 41 rfl (zS 40 rfl (zS 39 rfl (zS 38 rfl (zS 37 rfl (zS 36 rfl (zS 35 rfl (zS 34 rfl (zS 33 rfl (zS 32 rfl (zS 31 rfl (zS 30 rfl (zS 29 rfl (zS 28 rfl (Sub.skip rfl (Sub.skip rfl (Sub.skip rfl (Sub.skip rfl (Sub.skip rfl (Sub.skip rfl (Sub.skip rfl (Sub.skip rfl (Sub.skip rfl (Sub.skip rfl (Sub.skip rfl (Sub.skip rfl (Sub.skip rfl (Sub.skip rfl (Sub.skip rfl (Sub.skip rfl (Sub.skip rfl (Sub.skip rfl (Sub.skip rfl (Sub.skip rfl (Ac1 _))))))))))))))))))))))))))))))))))))))))) (.cons (.there .here) rfl (.cons .here rfl (.cons .here rfl (.cons .here rfl .nil))))
  refine J2.out (fun b41 b6=>?_)
  refine su ?_;exact Aa4 (.r1 rfl (.tmp rfl)) (by first | rfl | simp)
theorem CS2 (p:Pr) (q:Option Addr) (cap:Nat) (pw:Int×Int) (t:Th) (hf:t.far ≠ 0) (bv:Nat) (W:World) (_hV:W.heap[bv]? = some (.cells (vwCells p q cap pw).toArray 244 (0,0))) :
    Calls Tryz.prog 218 #[.pointer (some ⟨bv,0,none⟩),t.v] W (Pure (.iface 325 (.agg #[.int .i64 t.far])) W):=by
  refine Aa0 Tryz.func218 rfl rfl ?_;refine st ?_;refine zn (New.box rfl) (fun b3=>?_)
  refine RunC.cond rfl ?_ (fun h=>absurd h (by simpa using hf))
  intro c0;clear c0;refine su ?_;refine lv (Val.build (parts:=[(0,.tmp 9)]) rfl Cx3 BV2 rfl) ?_;refine lu (Val.makeInterface rfl CE0) ?_;exact Aa4 (.r1 rfl (.tmp rfl)) (by first | rfl | simp)
theorem CD2 (p:Pr) (q:Option Addr) (cap:Nat) (pw:Int×Int) (t:Th) (hf:t.far=0) (bv:Nat) (W:World) (hV:W.heap[bv]? = some (.cells (vwCells p q cap pw).toArray 244 (0,0))) :
    Calls Tryz.prog 218 #[.pointer (some ⟨bv,0,none⟩),t.v] W (Pure (.iface 327 (.agg #[.int .i64 p.near,.int .i64 p.far])) W):=by
  refine Aa0 Tryz.func218 rfl rfl ?_;refine st ?_;refine zn (New.box rfl) (fun b3=>?_)
  refine RunC.cond rfl (fun h=>absurd h (by simpa using hf)) ?_;intro c0;clear c0;refine st ?_;refine Ac4 10 Aj3 (.cons .here rfl .nil) ?_;refine zw 0 ?_;refine zw 1 ?_;refine zw 2 ?_;refine zw 3 ?_;refine zv 4 rfl (Aa2 rfl hV (by simp) Ag4 rfl) ?_;refine zw 5 ?_;refine zw 6 ?_;refine zw 7 ?_;refine zw 8 ?_;refine zv 9 rfl (Aa2 rfl hV (by simp) Ag4 rfl) ?_;refine zt ?_;refine zo 10 rfl (Val.build (parts:=[(0,.tmp 16),(1,.tmp 21)]) rfl Cx2 BV1 rfl) ?_;refine zo 11 rfl (Val.makeInterface rfl CD9) ?_;refine zp 12 ?_;refine zd ?_;refine su ?_;exact Aa4 (.r1 rfl (.tmp rfl)) (by first | rfl | simp)
theorem BW8 (f:Int) (h0:0≤f) (h1:f≤1073741824) (s:Int×Int) (g0:0≤s.1) (g1:s.1≤s.2) (g2:s.2≤2000) (W:World) :
    Calls Tryz.prog 271 #[.agg #[.int .i64 f],.agg #[.int .i64 s.1,.int .i64 s.2]] W (Pure (b2v (s.1 * f,(s.2 + 1) * f - 1)) W):=by
  have m1:=AR0 g0 (Int.le_trans g1 g2) h0 h1;have m2:=AR0 (a:=s.2 + 1) (A:=2001) (by omega) (by omega) h0 h1;refine Aa0 Tryz.func271 rfl rfl ?_;refine st ?_;refine zn (New.box rfl) (fun b2=>?_)
  refine zn (New.box rfl) (fun b3=>?_)
  refine zn (New.alloc Ac8) (fun b4=>?_)
  refine lu (Ab2 rfl rfl Ah7 (by decide) (by decide)) ?_;refine lv (Val.mul rfl rfl (IntWalk.i64_in _ ⟨by omega,by omega⟩)) ?_;refine lu (Ab2 rfl rfl Ah7 (by decide) (by decide)) ?_;refine lu (Val.add rfl rfl (IntWalk.i64_in _ ⟨by omega,by omega⟩)) ?_;refine lv (Val.mul rfl rfl (IntWalk.i64_in _ ⟨by omega,by omega⟩)) ?_;refine lv (Ae9 rfl rfl (IntWalk.i64_in _ ⟨by omega,by omega⟩)) ?_;refine lv (Val.build (parts:=[(0,.tmp 9),(1,.tmp 16)]) rfl Ac8 Ai3 rfl) ?_;refine Aa9 (Sto.store rfl rfl .here Af4 rfl rfl) rfl rfl ?_;refine su ?_;exact Aa4 (.r1 rfl (.agg rfl (.head _) Af4 rfl)) (by first | rfl | simp)
theorem BF2 (f f':Int) (h0:0≤f) (h1:f≤1073741824) (h0':0≤f') (h1':f'≤1073741824) (s:Int×Int) (g0:0≤s.1) (g1:s.1≤s.2) (g2:s.2≤2000) (W:World) :
    Calls Tryz.prog 272 #[.agg #[.int .i64 f,.int .i64 f'],.agg #[.int .i64 s.1,.int .i64 s.2]] W (Pure (b2v (s.1 * f,(s.2 + 1) * f' - 1)) W):=by
  have m1:=AR0 g0 (Int.le_trans g1 g2) h0 h1;have m2:=AR0 (a:=s.2 + 1) (A:=2001) (by omega) (by omega) h0' h1';refine Aa0 Tryz.func272 rfl rfl ?_;refine st ?_;refine zn (New.box rfl) (fun b2=>?_)
  refine zn (New.box rfl) (fun b3=>?_)
  refine zn (New.alloc Ac8) (fun b4=>?_)
  refine lu (Ab2 rfl rfl Ah7 (by decide) (by decide)) ?_;refine lv (Val.mul rfl rfl (IntWalk.i64_in _ ⟨by omega,by omega⟩)) ?_;refine lu (Ab2 rfl rfl Ah7 (by decide) (by decide)) ?_;refine lu (Val.add rfl rfl (IntWalk.i64_in _ ⟨by omega,by omega⟩)) ?_;refine lv (Val.mul rfl rfl (IntWalk.i64_in _ ⟨by omega,by omega⟩)) ?_;refine lv (Ae9 rfl rfl (IntWalk.i64_in _ ⟨by omega,by omega⟩)) ?_;refine lv (Val.build (parts:=[(0,.tmp 9),(1,.tmp 16)]) rfl Ac8 Ai3 rfl) ?_;refine Aa9 (Sto.store rfl rfl .here Af4 rfl rfl) rfl rfl ?_;refine su ?_;exact Aa4 (.r1 rfl (.agg rfl (.head _) Af4 rfl)) (by first | rfl | simp)
theorem Aj2 (p:Pr) (hp:p.Ok) (q:Option Addr) (cap:Nat) (pw:Int×Int) (t:Th) (ht:t.Ok) (hf:t.far=0∨(p.near≤t.far∧t.far≤p.far)) (w0:Int×Int) (bv:Nat) (W:World) (hV:W.heap[bv]? = some (.cells (vwCells p q cap pw).toArray 244 (0,0))) :
    Calls Tryz.prog 168 #[.pointer (some ⟨bv,0,none⟩),t.v,.agg #[.int .i64 w0.1,.int .i64 w0.2]] W (Pure (.tuple #[b2v (stillS p t w0).1,.bool (stillS p t w0).2]) W):=by
  have n1:=hp.n1;have n2:=hp.n2;have n3:=hp.n3
  by_cases h0:t.far=0
  · refine Aa0 Tryz.func168 rfl rfl ?_
    refine st ?_;refine zn (New.box rfl) (fun b4=>?_)
    refine zn (New.box rfl) (fun b5=>?_)
    refine zn (New.alloc Ac8) (fun b6=>?_)
    refine zc (zF rfl BI1) (fun w hm=>AK1 t ht w) ?_;refine zn (New.alloc Ac8) (fun b8=>?_)
    refine Aa9 (Sto.store rfl rfl .here Af4 rfl rfl) rfl rfl ?_;refine st ?_
    refine Ad4 (dj:=17) (dp:=22) 5 rfl (fun g17=>by
      have g17':=g17;try simp only [nH] at g17'
      refine su ?_;refine Ab7 (zF rfl BH8) rfl rfl rfl (fun w hm=>AK7 p hp q cap pw t ht bv w (hm.old_at hV (by simp))) ?_;refine sv ?_;exact zs g17
    ) (fun g17=>by
      have g17':=g17;try simp only [nH] at g17'
      iterate 4 refine Ab8 rfl rfl rfl ?_
      refine sv ?_;exact zs g17
    ) ?_
    refine st ?_;refine cn rfl ?_ ?_
    ·intro c0'
     refine su ?_;refine Aa9 (Sto.store rfl rfl (.there .here) Af4 rfl rfl) rfl rfl ?_;refine su ?_;exact Aa4 (.r2 rfl (.agg rfl (.tail _ (.head _)) Af4 rfl) (.tmp rfl)) (by have e:stillS p t w0=(w0,false):=(by rcases c0' with h | h <;> simp [stillS,h]);rw [e];rfl)
    intro c0';have bd:=AU5 c0'.1;refine st ?_;refine Ac4 10 Aj3 (.cons .here rfl (.cons .here rfl (.cons .here rfl (.cons .here rfl .nil)))) ?_;refine zw 0 ?_;refine zw 1 ?_;refine zw 2 ?_;refine zw 4 ?_;refine zA 3 ?_;refine Ab5 rfl (zF rfl Cq5) rfl rfl rfl (fun w hm=>CD2 p q cap pw t h0 bv w (hm.old_at hV (by simp))) (Aa7 (.cons .here rfl (.cons .here rfl (.cons .here rfl (.cons .here rfl .nil)))) (.cons .here rfl (.cons .here rfl (.cons .here rfl (.cons .here rfl .nil)))) rfl ?_)
    refine zA 5 ?_;refine Ab5 rfl (Ai2 rfl rfl (fun w=>As3 _ w) CT9) rfl rfl rfl (fun w hm=>BF2 _ _ (by omega) (by omega) (by omega) (by omega) (shownS t) bd.1 bd.2.1 bd.2.2 w) (Aa7 (.cons .here rfl (.cons .here rfl (.cons .here rfl (.cons .here rfl .nil)))) (.cons .here rfl (.cons .here rfl (.cons .here rfl (.cons .here rfl .nil)))) rfl ?_)
    refine zA 6 ?_;refine Ac6 rfl (New.buildSlice (parts:=[(0,.tmp 29)]) rfl AF0 Ac8 rfl rfl rfl rfl) rfl rfl rfl (fun b30=>(Aa7 (.cons .here rfl (.cons .here rfl (.cons .here rfl (.cons .here rfl (.cons .here rfl .nil))))) (.cons (.there .here) rfl (.cons (.there .here) rfl (.cons (.there .here) rfl (.cons (.there .here) rfl .nil)))) rfl ?_))
    refine zA 7 ?_;refine Ab5 rfl (zF rfl At7) rfl rfl rfl (fun w hm=>Af5 (_,_) [(_,_)] _ _ _ _ w (Sl.one (hm.at (.head _)) rfl) (by simp)) (Aa7 (.cons .here rfl (.cons .here rfl (.cons .here rfl (.cons .here rfl (.cons .here rfl .nil))))) (.cons .here rfl (.cons .here rfl (.cons .here rfl (.cons .here rfl (.cons .here rfl .nil))))) rfl ?_)
    refine zw 8 ?_;refine zw 9 ?_;refine zt ?_;refine zB 10 ?_;refine Ac0 rfl (Sto.store rfl rfl (.there (.there .here)) Af4 rfl rfl) rfl rfl (Ab9 ?_)
    refine zp 11 ?_;refine zd ?_;refine su ?_;exact Aa4 (.r2 rfl (.agg rfl (.tail _ (.tail _ (.head _))) Af4 rfl) (.tmp rfl)) (by have e:stillS p t w0=(nar w0 (powersS p t (shownS t)),isB (nar w0 (powersS p t (shownS t)))):=(by simp [stillS,c0'.1,c0'.2]);rw [e];simp only [powersS,h0,if_true];rfl)
  · refine Aa0 Tryz.func168 rfl rfl ?_
    refine st ?_;refine zn (New.box rfl) (fun b4=>?_)
    refine zn (New.box rfl) (fun b5=>?_)
    refine zn (New.alloc Ac8) (fun b6=>?_)
    refine zc (zF rfl BI1) (fun w hm=>AK1 t ht w) ?_;refine zn (New.alloc Ac8) (fun b8=>?_)
    refine Aa9 (Sto.store rfl rfl .here Af4 rfl rfl) rfl rfl ?_;refine st ?_
    refine Ad4 (dj:=17) (dp:=22) 5 rfl (fun g17=>by
      have g17':=g17;try simp only [nH] at g17'
      refine su ?_;refine Ab7 (zF rfl BH8) rfl rfl rfl (fun w hm=>AK7 p hp q cap pw t ht bv w (hm.old_at hV (by simp))) ?_;refine sv ?_;exact zs g17
    ) (fun g17=>by
      have g17':=g17;try simp only [nH] at g17'
      iterate 4 refine Ab8 rfl rfl rfl ?_
      refine sv ?_;exact zs g17
    ) ?_
    refine st ?_;refine cn rfl ?_ ?_
    ·intro c0'
     refine su ?_;refine Aa9 (Sto.store rfl rfl (.there .here) Af4 rfl rfl) rfl rfl ?_;refine su ?_;exact Aa4 (.r2 rfl (.agg rfl (.tail _ (.head _)) Af4 rfl) (.tmp rfl)) (by have e:stillS p t w0=(w0,false):=(by rcases c0' with h | h <;> simp [stillS,h]);rw [e];rfl)
    intro c0';have bd:=AU5 c0'.1;refine st ?_;refine Ac4 10 Aj3 (.cons .here rfl (.cons .here rfl (.cons .here rfl (.cons .here rfl .nil)))) ?_;refine zw 0 ?_;refine zw 1 ?_;refine zw 2 ?_;refine zw 4 ?_;refine zA 3 ?_;refine Ab5 rfl (zF rfl Cq5) rfl rfl rfl (fun w hm=>CS2 p q cap pw t h0 bv w (hm.old_at hV (by simp))) (Aa7 (.cons .here rfl (.cons .here rfl (.cons .here rfl (.cons .here rfl .nil)))) (.cons .here rfl (.cons .here rfl (.cons .here rfl (.cons .here rfl .nil)))) rfl ?_)
    refine zA 5 ?_;refine Ab5 rfl (Ai2 rfl rfl (fun w=>As4 _ w) CU0) rfl rfl rfl (fun w hm=>BW8 _ (by omega) (by omega) (shownS t) bd.1 bd.2.1 bd.2.2 w) (Aa7 (.cons .here rfl (.cons .here rfl (.cons .here rfl (.cons .here rfl .nil)))) (.cons .here rfl (.cons .here rfl (.cons .here rfl (.cons .here rfl .nil)))) rfl ?_)
    refine zA 6 ?_;refine Ac6 rfl (New.buildSlice (parts:=[(0,.tmp 29)]) rfl AF0 Ac8 rfl rfl rfl rfl) rfl rfl rfl (fun b30=>(Aa7 (.cons .here rfl (.cons .here rfl (.cons .here rfl (.cons .here rfl (.cons .here rfl .nil))))) (.cons (.there .here) rfl (.cons (.there .here) rfl (.cons (.there .here) rfl (.cons (.there .here) rfl .nil)))) rfl ?_))
    refine zA 7 ?_;refine Ab5 rfl (zF rfl At7) rfl rfl rfl (fun w hm=>Af5 (_,_) [(_,_)] _ _ _ _ w (Sl.one (hm.at (.head _)) rfl) (by simp)) (Aa7 (.cons .here rfl (.cons .here rfl (.cons .here rfl (.cons .here rfl (.cons .here rfl .nil))))) (.cons .here rfl (.cons .here rfl (.cons .here rfl (.cons .here rfl (.cons .here rfl .nil))))) rfl ?_)
    refine zw 8 ?_;refine zw 9 ?_;refine zt ?_;refine zB 10 ?_;refine Ac0 rfl (Sto.store rfl rfl (.there (.there .here)) Af4 rfl rfl) rfl rfl (Ab9 ?_)
    refine zp 11 ?_;refine zd ?_;refine su ?_;exact Aa4 (.r2 rfl (.agg rfl (.tail _ (.tail _ (.head _))) Af4 rfl) (.tmp rfl)) (by have e:stillS p t w0=(nar w0 (powersS p t (shownS t)),isB (nar w0 (powersS p t (shownS t)))):=(by simp [stillS,c0'.1,c0'.2]);rw [e];simp only [powersS,h0,if_false];rfl)
end Go.Proofs.YtnmkdiagbkkmaabGreatDoor
namespace Go.Proofs.YtnmkdiagbkkmaabGreatDoor
open Go Go.Eng Go.Pw1

def misf (k:Int):Value:=.iface 303 (.agg #[.int .i64 k])
theorem AA8 (b:Bool) (e:Int) (W:World):Calls Tryz.prog 179 #[.bool b,.int .i64 e] W (Try misf (needX b e) W):=by
  refine Aa0 Tryz.func179 rfl rfl ?_;refine st ?_;refine cn rfl ?_ ?_
  ·intro c0'
   refine st ?_;refine lv (Val.build (parts:=[(0,.tmp 6)]) rfl Bl2 BV4 rfl) ?_;refine lv (Val.makeInterface rfl Bn2) ?_;refine AS5 rfl ?_;exact Ae8 (k:=e) (by simp [needX,show b=false by simpa using c0'])
  intro c0';refine st ?_;exact AB4 (.r0 rfl) (by simp [needX,show b=true by simpa using c0'])

theorem AZ8 (f:Th→Bool) (l:List Th) (q:Option Addr) (b o cap:Nat) (fn:FuncId) (cp:List Value) (W:World) (hS:Sl W q b o 9 (l.map Th.cells)) (hl:l.length≤100000000000) (he:Enters Tryz.prog fn)
    (hf:∀ t∈l,∀ w,Mem W [] [] w→Calls Tryz.prog fn ([t.v]++cp).toArray w (Pure (.bool (f t)) w)) :
    Calls Tryz.prog 245 #[.slice q l.length cap,.func (.func fn) #[] cp.toArray] W (Pure (.int .i64 (idxF f l)) W):=by
  refine Aa0 Tryz.func245 rfl rfl ?_;refine su ?_;refine Ae5 (l.length) (fun k q=>(8,.int .i64 (k:Int))::q) (fun _=>_) (fun _=>[]) (fun k=>(l.take k).any f=false) (by simp) rfl (zE 8 rfl rfl (zS 0 rfl (zS 1 rfl (zS 7 rfl (Sub.nil _))))) .nil ?_;intro k kN kI;refine st ?_;refine cn rfl ?_ ?_
  ·intro c0'
   have hk:k < l.length:=by omega
   refine st ?_;refine lv (Aa8 rfl rfl AE5 (by omega) (by omega) (hS.ptrM hk)) ?_;refine lv (Ab0 rfl (fun w hm=>hS.loadM (by decide) hm (by simp) AA1 hk)) ?_;refine Ab7 (Ac5 rfl rfl he) rfl rfl rfl (fun w hm=>hf _ (List.getElem_mem hk) w hm.drop) ?_;refine st ?_;refine cn rfl ?_ ?_
   ·intro c1'
    refine su ?_;exact Aa4 (.r1 rfl (.tmp rfl)) (by rw [AC8 f l k hk kI c1'])
   intro c1';refine st ?_;refine lv (Val.add rfl rfl (IntWalk.i64_in _ ⟨by omega,by omega⟩)) ?_;exact Ad0 (by omega) (Ay9 hk kI c1') rfl (zE 8 rfl rfl (zS 0 rfl (zS 1 rfl (zS 7 rfl (Sub.nil _))))) .nil
  intro c0';obtain rfl:k=l.length:=by omega
  rw [List.take_length] at kI;refine RunC.exit ?_;refine su ?_;refine Ab1 ?_;refine su ?_;exact Aa4 (.r1 rfl (.tmp rfl)) (by rw [Aw8 f l kI])
theorem AN6 (f:Th→Bool) (l:List Th) (q:Option Addr) (b o cap:Nat) (fn:FuncId) (cp:List Value) (W:World) (hS:Sl W q b o 9 (l.map Th.cells)) (hl:l.length≤100000000000) (he:Enters Tryz.prog fn)
    (hf:∀ t∈l,∀ w,Mem W [] [] w→Calls Tryz.prog fn ([t.v]++cp).toArray w (Pure (.bool (f t)) w)) :
    Calls Tryz.prog 237 #[.slice q l.length cap,.func (.func fn) #[] cp.toArray] W (Pure (.bool (l.any f)) W):=by
  refine Aa0 Tryz.func237 rfl rfl ?_;refine st ?_;refine zc (zF rfl CU3) (fun w hm=>AZ8 f l q b o cap fn cp w (hS.mono (by decide) hm (by simp)) hl he (fun t ht w2 hm2=>hf t ht w2 ((hm.drop).pass hm2))) ?_;exact Aa4 (.r1 rfl (.tmp rfl)) (by rw [← AI2])
theorem Bw5 (p:Pr) (q:Option Addr) (b o cap:Nat) (W:World) (hS:Sl W q b o 9 (p.things.map Th.cells)) (hl:p.things.length≤100000000000) :
    Calls Tryz.prog 219 #[p.v q cap] W (Pure (.bool (isPair p)) W):=by
  refine Aa0 Tryz.func219 rfl rfl ?_;refine st ?_;refine zn (New.box rfl) (fun b1=>?_)
  refine zn (New.alloc Cx8) (fun b3=>?_)
  refine Aa9 (Sto.store rfl rfl .here BN1 rfl rfl) rfl rfl ?_;refine su ?_;refine zc (zF rfl Bp0) (fun w hm=>Ay6 ⟨_,_⟩ _ _ w) ?_
  refine Ab3 (dj:=10) (dp:=14) 4 rfl (fun g10=>by
    have g10':=g10;try simp only [nH] at g10'
    refine su ?_;refine Ab7 (zF rfl Bp0) rfl rfl rfl (fun w hm=>Ay6 ⟨_,_⟩ _ _ w) ?_;refine sv ?_;exact zs g10
  ) (fun g10=>by
    have g10':=g10;try simp only [nH] at g10'
    iterate 3 refine Ab8 rfl rfl rfl ?_
    refine sv ?_;exact zs g10
  ) ?_
  refine st ?_
  refine Ab3 (dj:=15) (dp:=19) 4 rfl (fun g15=>by
    have g15':=g15;try simp only [nH] at g15'
    refine su ?_;refine Ab7 (zF rfl AQ0) rfl rfl rfl (fun w hm=>Ao4 _ _ _ w) ?_;refine sv ?_;exact zs g15
  ) (fun g15=>by
    have g15':=g15;try simp only [nH] at g15'
    iterate 3 refine Ab8 rfl rfl rfl ?_
    refine sv ?_;exact zs g15
  ) ?_
  refine st ?_
  refine Ab3 (dj:=21) (dp:=25) 4 rfl (fun g21=>by
    have g21':=g21;try simp only [nH] at g21'
    refine su ?_;refine Ab7 (zF rfl AQ0) rfl rfl rfl (fun w hm=>Ao4 _ _ _ w) ?_;refine sv ?_;exact zs g21
  ) (fun g21=>by
    have g21':=g21;try simp only [nH] at g21'
    iterate 3 refine Ab8 rfl rfl rfl ?_
    refine sv ?_;exact zs g21
  ) ?_
  refine st ?_
  refine Ab3 (dj:=26) (dp:=32) 6 rfl (fun g26=>by
    have g26':=g26;try simp only [nH] at g26'
    refine su ?_;refine Ab7 (zF rfl AQ0) rfl rfl rfl (fun w hm=>Ao4 _ _ _ w) ?_;refine sv ?_;exact zs g26
  ) (fun g26=>by
    have g26':=g26;try simp only [nH] at g26'
    iterate 5 refine Ab8 rfl rfl rfl ?_
    refine sv ?_;exact zs g26
  ) ?_
  refine st ?_
  refine Ab3 (dj:=33) (dp:=38) 5 rfl (fun g33=>by
    have g33':=g33;try simp only [nH] at g33'
    refine lv (Val.fieldAddr rfl Bo5) ?_;refine lv (Ab6 rfl (.tail _ (.head _)) AB8 rfl) ?_;refine Ac7 (Al1 rfl AE5) rfl rfl rfl ?_;refine sv ?_;exact zs g33
  ) (fun g33=>by
    have g33':=g33;try simp only [nH] at g33'
    iterate 4 refine Ab8 rfl rfl rfl ?_
    refine sv ?_;exact zs g33
  ) ?_
  refine st ?_
  refine Ab3 (dj:=39) (dp:=45) 6 rfl (fun g39=>by
    have g39':=g39;try simp only [nH] at g39'
    refine su ?_;refine Ab7 (zF rfl CU7) rfl rfl rfl (fun w hm=>AN6 (bad p) p.things q b o cap 236 [_,_] w (hS.mono (by decide) hm (by simp)) hl CU8 (fun t ht w2 hm2=>Cu5 p q cap t _ _ w2 (hm2.old_at (hm.at (.head _)) (by simp)) (hm2.old_at (hm.at (.tail _ (.head _))) (by simp)))) ?_;refine sv ?_;exact zs g39
  ) (fun g39=>by
    have g39':=g39;try simp only [nH] at g39'
    iterate 5 refine Ab8 rfl rfl rfl ?_
    refine sv ?_;exact zs g39
  ) ?_
  refine su ?_;exact Aa4 (.r1 rfl (.tmp rfl)) (by first | rfl | simp)
theorem AP5 (p:Pr) (q:Option Addr) (b o cap:Nat) (l:List Int) (q2:Option Addr) (b2 o2 cap2:Nat) (W:World) (hS:Sl W q b o 9 (p.things.map Th.cells)) (hl:p.things.length≤100000000000) (hL:Sl W q2 b2 o2 1 (l.map fun n=>[.int .i64 n])) (hl2:l.length≤100000) :
    Calls Tryz.prog 176 #[p.v q cap,.slice q2 l.length cap2] W (TryN misf (openX p l) (fun _ b=>.pointer (some ⟨b,0,none⟩)) (fun _ b=>[(b,.cells (vwCells p q cap (0,0)).toArray 244 (0,0))]) W):=by
  refine Aa0 Tryz.func176 rfl rfl ?_;refine st ?_;refine zn (New.box rfl) (fun b2=>?_)
  refine zc (zF rfl CV6) (fun w hm=>Bw5 p q b o cap w (hS.mono (by decide) hm (by simp)) hl) ?_;refine Ac2 (zF rfl Ba7) rfl rfl rfl (fun w hm=>AA8 _ _ w) (fun e9 he9=>?_) (fun v9 hv9=>?_)
  ·obtain ⟨er9,rfl⟩:=Ae0 he9
   refine Aa5 ?_;exact Az4 (by simp [openX,er9])
  obtain ⟨ok9,rfl⟩:=Ae7 hv9;refine su ?_;refine Ae5 (l.length) (fun k q=>(12,.int .i64 (k:Int))::q) (fun _=>_) (fun _=>[]) (fun k=>(l.take k).any (fun n=>!within n 0 ((p.things.length:Int) - 1))=false) (by simp) rfl (zE 12 rfl rfl (zS 2 rfl (zS 4 rfl (zS 10 rfl (zS 11 rfl (Sub.nil _)))))) (.cons .here rfl .nil) ?_;intro k kN kI;refine st ?_;refine cn rfl ?_ ?_
  ·intro c0'
   have hk:k < l.length:=by omega
   refine st ?_;refine lv (Aa8 rfl rfl Ah5 (by omega) (by omega) (hL.ptrM hk)) ?_;refine lu (Ab0 rfl (fun w hm=>hL.loadM1 (by decide) hm (by simp) Ag4 hk (v:=.int .i64 l[k]) rfl)) ?_;refine lv (Ae9 rfl rfl (IntWalk.i64_in _ ⟨by omega,by omega⟩)) ?_;refine zc (zF rfl AQ0) (fun w hm=>Ao4 _ _ _ w) ?_;refine Ac2 (zF rfl Ba7) rfl rfl rfl (fun w hm=>AA8 _ _ w) (fun e22 he22=>?_) (fun v22 hv22=>?_)
   ·obtain ⟨er22,rfl⟩:=Ae0 he22
    refine Ad6 ?_;refine Aa5 ?_;refine Aa5 ?_;refine Ad6 ?_;refine Aa5 ?_;exact Az4 (by simp [openX,ok9,Cv0 hk (f:=fun n=>!within n 0 ((p.things.length:Int) - 1)) (by simp [er22])])
   obtain ⟨ok22,rfl⟩:=Ae7 hv22;refine st ?_;refine lv (Val.add rfl rfl (IntWalk.i64_in _ ⟨by omega,by omega⟩)) ?_;exact Ad0 (by omega) (Ay9 hk kI (by simp [ok22])) rfl (zE 12 rfl rfl (zS 2 rfl (zS 4 rfl (zS 10 rfl (zS 11 rfl (Sub.nil _)))))) (.cons .here rfl .nil)
  intro c0';obtain rfl:k=l.length:=by omega
  rw [List.take_length] at kI;refine RunC.exit ?_;refine su ?_;refine Ab1 ?_;refine su ?_;refine lv (Val.build (parts:=[(0,.tmp 24)]) rfl Cx7 BV7 rfl) ?_;refine zn (New.box rfl) (fun b26=>?_)
  exact Bk3 (a:=()) b26 (.r1 rfl (.tmp rfl)) (by simp [openX,ok9,kI]) rfl (.cons .here rfl .nil)
end Go.Proofs.YtnmkdiagbkkmaabGreatDoor
namespace Go.Proofs.YtnmkdiagbkkmaabGreatDoor
open Go Go.Eng Go.Pw1

theorem Bh4 (p:Pr) (hp:p.Ok) (q:Option Addr) (b o cap:Nat) (pw0:Int×Int) (bv:Nat) (W:World) (hV:W.heap[bv]? = some (.cells (vwCells p q cap pw0).toArray 244 (0,0))) (hS:Sl W q b o 9 (p.things.map Th.cells)) (hne:p.things.map Th.cells ≠ []→b ≠ bv) :
    Calls Tryz.prog 216 #[.pointer (some ⟨bv,0,none⟩)] W (TryU misf (lookX p) (.tuple #[]) bv (fun w=>.cells (vwCells p q cap w).toArray 244 (0,0)) W):=by
  have f1:=hp.f1;have f2:=hp.f2;have f3:=hp.f3;have b1:=hp.b1;have b2:=hp.b2;have b3:=hp.b3;have m1:=AR0 (a:=p.focal.lo) (b:=p.base.lo) (A:=50000) (B:=10000) (by omega) (by omega) (by omega) (by omega);have m2:=AR0 (a:=p.focal.hi) (b:=p.base.hi) (A:=50000) (B:=10000) (by omega) (by omega) (by omega) (by omega);have hlen:=hp.len;obtain ⟨w0,hw0⟩:∃ w0:Int×Int,w0=(p.focal.lo * p.base.lo,p.focal.hi * p.base.hi):=⟨_,rfl⟩;have hl0:lookS p=lookL p w0 p.things:=by rw [hw0];rfl
  have hbs:∀ ob:Obj,∀ ob':Obj,p.things.map Th.cells ≠ []→(b,ob) ∉ [(bv,ob')]:=fun ob ob' h=>by simp [hne h]
  refine Aj7 hV Tryz.func216 rfl rfl ?_;refine RunC.scope ?_;refine st ?_;refine Ac4 28 Aj3 .nil ?_;refine va 0 rfl (Aa3 rfl) rfl rfl rfl .nil rfl ?_;refine va 1 rfl (Aa3 rfl) rfl rfl rfl .nil rfl ?_;refine va 2 rfl (Aa3 rfl) rfl rfl rfl .nil rfl ?_;refine va 3 rfl (Val.fieldAddr rfl As5) rfl rfl rfl .nil rfl ?_;refine va 4 rfl (Val.fieldAddr rfl Bo7) rfl rfl rfl .nil rfl ?_;refine va 5 rfl (Val.fieldAddr rfl Ay8) rfl rfl rfl .nil rfl ?_;refine va 6 rfl (Ab6 rfl (.head _) Ag4 rfl) rfl rfl rfl .nil rfl ?_;refine va 7 rfl (Aa3 rfl) rfl rfl rfl .nil rfl ?_;refine va 8 rfl (Aa3 rfl) rfl rfl rfl .nil rfl ?_;refine va 9 rfl (Val.fieldAddr rfl As5) rfl rfl rfl .nil rfl ?_;refine va 10 rfl (Val.fieldAddr rfl Bo6) rfl rfl rfl .nil rfl ?_;refine va 11 rfl (Val.fieldAddr rfl Ay8) rfl rfl rfl .nil rfl ?_;refine va 12 rfl (Ab6 rfl (.head _) Ag4 rfl) rfl rfl rfl .nil rfl ?_;refine va 13 rfl (Val.mul rfl rfl (IntWalk.i64_in _ ⟨by omega,by omega⟩)) rfl rfl rfl .nil rfl ?_;refine va 14 rfl (Aa3 rfl) rfl rfl rfl .nil rfl ?_;refine va 15 rfl (Aa3 rfl) rfl rfl rfl .nil rfl ?_;refine va 16 rfl (Val.fieldAddr rfl As5) rfl rfl rfl .nil rfl ?_;refine va 17 rfl (Val.fieldAddr rfl Bo7) rfl rfl rfl .nil rfl ?_;refine va 18 rfl (Val.fieldAddr rfl Am5) rfl rfl rfl .nil rfl ?_;refine va 19 rfl (Ab6 rfl (.head _) Ag4 rfl) rfl rfl rfl .nil rfl ?_;refine va 20 rfl (Aa3 rfl) rfl rfl rfl .nil rfl ?_;refine va 21 rfl (Aa3 rfl) rfl rfl rfl .nil rfl ?_;refine va 22 rfl (Val.fieldAddr rfl As5) rfl rfl rfl .nil rfl ?_;refine va 23 rfl (Val.fieldAddr rfl Bo6) rfl rfl rfl .nil rfl ?_;refine va 24 rfl (Val.fieldAddr rfl Am5) rfl rfl rfl .nil rfl ?_;refine va 25 rfl (Ab6 rfl (.head _) Ag4 rfl) rfl rfl rfl .nil rfl ?_;refine va 26 rfl (Val.mul rfl rfl (IntWalk.i64_in _ ⟨by omega,by omega⟩)) rfl rfl rfl .nil rfl ?_;refine va 27 rfl (Val.build (parts:=[(0,.tmp 19),(1,.tmp 32)]) rfl Ac8 Ai3 rfl) rfl rfl rfl .nil rfl ?_;refine zt ?_;refine zp 28 ?_;refine zp 29 ?_;refine zB 30 ?_;refine Ac0 rfl (Ad1 rfl rfl .here Af4 rfl rfl) rfl rfl (Ab9 ?_)
  refine zd ?_;refine st ?_;refine RunC.label ?_;refine su ?_;refine Ae5 (p.things.length) (fun k q=>(42,.int .i64 (k:Int))::q) (fun k=>[(bv,.cells (vwCells p q cap ((lookL p w0 (p.things.take k)).getD (0,0))).toArray 244 (0,0))]) (fun _=>[]) (fun k=>(lookL p w0 (p.things.take k)).isSome=true) (by simp [lookL]) (by simp only [List.take_zero,lookL,hw0];rfl) (zE 42 rfl rfl (zS 0 rfl (zS 40 rfl (zS 41 rfl (Sub.nil _))))) .nil ?_;intro k kN kI;obtain ⟨wk,hwk⟩:=Option.isSome_iff_exists.1 kI;simp only [hwk,Option.getD_some];refine st ?_;refine cn rfl ?_ ?_
  ·intro c0'
   have hk:k < p.things.length:=by omega
   have hx:p.things.map Th.cells ≠ []:=by intro h;simp [List.map_eq_nil_iff] at h;simp [h] at hk
   have hth:=hp.ths _ (List.getElem_mem hk);obtain ⟨t,ht⟩:∃ t,p.things[k]=t:=⟨_,rfl⟩;rw [ht] at hth;refine st ?_;refine lv (Aa8 rfl rfl AE5 (by omega) (by omega) (hS.ptrM hk)) ?_;refine lv (Ab0 rfl (fun w hm=>hS.loadX (by decide) hm (fun ob=>hbs ob _ hx) AA1 hk ht)) ?_;refine zn (New.alloc Aw1) (fun b3=>?_)
   refine Aa9 (Sto.store rfl rfl .here AA1 rfl rfl) rfl rfl ?_;refine su ?_;refine cn rfl ?_ ?_
   ·intro c1'
    refine RunC.exit ?_;refine Al2 ?_;refine Ab1 ?_;refine st ?_;refine lv (Val.add rfl rfl (IntWalk.i64_in _ ⟨by omega,by omega⟩)) ?_;exact Ad0 (by omega) (by first | (simp [Am0 hk ht hwk,lookL,c1'];done) | simp [Am0 hk ht hwk,lookL,c1',ok60]) (by first | (simp [Am0 hk ht hwk,lookL,c1'];done) | (simp [Am0 hk ht hwk,lookL,c1',ok60];done) | (simp [Am0 hk ht hwk,lookL,c1',ok60];rfl)) (zE 42 rfl rfl (zS 0 rfl (zS 40 rfl (zS 41 rfl (Sub.nil _))))) .nil
   intro c1';refine RunC.skip ?_;refine RunE.next ?_;refine RunC.seq ?_
   apply Al3 (J:=J1 _ _ _ _ _ _) 12 Aj3 (.cons .here rfl .nil)
   ·refine zw 0 ?_
    refine zw 1 ?_;refine zw 2 ?_;refine zw 3 ?_;refine zw 4 ?_;refine zw 5 ?_;refine Ag7 (rs:=[6,10]) (by kernel_rfl) (by simp) (by kernel_rfl) (fun m hm=>?_)
    simp only [List.mem_cons,List.not_mem_nil,or_false] at hm
    rcases hm with rfl | rfl
    ·refine Ab5 rfl (zF rfl Az6) rfl rfl rfl (fun w hm=>Aj2 p hp q cap wk t hth.1 hth.2 wk bv w (hm.at (.head _))) (Aa7 (.cons .here rfl .nil) (.cons .here rfl .nil) rfl ?_)
     refine zw 7 ?_;refine zw 8 ?_;refine zw 9 ?_;refine zA 10 ?_;refine Ac6 rfl (New.alloc Ac8) rfl rfl rfl (fun b4=>(Aa7 (.cons (.there .here) rfl .nil) (.cons .here rfl .nil) rfl ?_))
     refine zA 11 ?_;refine Ac0 rfl (Sto.store rfl rfl .here Af4 rfl rfl) rfl rfl (Aa7 (.cons (.there .here) rfl .nil) (.cons .here rfl .nil) rfl ?_)
     refine zt ?_;refine zp 12 ?_;refine zd ?_;exact Af1 b4 (Ac1 _) (Pick.refl _)
    refine Ac6 rfl (New.alloc Ac8) rfl rfl rfl (fun b4=>(Aa7 (.cons (.there .here) rfl .nil) (.cons .here rfl .nil) rfl ?_))
    refine zA 6 ?_;refine Ab5 rfl (zF rfl Az6) rfl rfl rfl (fun w hm=>Aj2 p hp q cap wk t hth.1 hth.2 wk bv w (hm.at (.head _))) (Aa7 (.cons (.there .here) rfl .nil) (.cons .here rfl .nil) rfl ?_)
    refine zw 7 ?_;refine zw 8 ?_;refine zw 9 ?_;refine zA 11 ?_;refine Ac0 rfl (Sto.store rfl rfl .here Af4 rfl rfl) rfl rfl (Aa7 (.cons (.there .here) rfl .nil) (.cons .here rfl .nil) rfl ?_)
    refine zt ?_;refine zp 12 ?_;refine zd ?_;exact Af1 b4 (zS 5 rfl (zS 4 rfl (zS 58 rfl (zS 57 rfl (zS 49 rfl (zS 56 rfl (zS 55 rfl (zS 54 rfl (zS 53 rfl (zS 52 rfl (zS 51 rfl (zS 50 rfl (Sub.skip rfl (Sub.skip rfl (Sub.skip rfl (Sub.skip rfl (Sub.skip rfl (Sub.skip rfl (Sub.skip rfl (Sub.skip rfl (Sub.skip rfl (Sub.skip rfl (Sub.skip rfl (Sub.skip rfl (Ac1 _))))))))))))))))))))))))) (.cons .here rfl (.cons .here rfl .nil))
   refine J1.out (fun b4=>?_)
   refine st ?_;refine Ac2 (zF rfl Ba7) rfl rfl rfl (fun w hm=>AA8 _ _ w) (fun e60 he60=>?_) (fun v60 hv60=>?_)
   ·obtain ⟨er60,rfl⟩:=Ae0 he60
    refine Aa5 ?_;refine Ad6 ?_;refine Aa5 ?_;refine Aa5 ?_;refine Ad6 ?_;refine Af6 ?_;exact BC3 (by rw [lookX,hl0,Cl1 hk ht hwk (by simp [lookL,c1',er60])])
   obtain ⟨ok60,rfl⟩:=Ae7 hv60;refine su ?_;refine Aa9 (Ad1 rfl rfl .here Af4 rfl rfl) rfl rfl ?_;refine st ?_;refine lv (Val.add rfl rfl (IntWalk.i64_in _ ⟨by omega,by omega⟩)) ?_;exact Ad0 (by omega) (by first | (simp [Am0 hk ht hwk,lookL,c1'];done) | simp [Am0 hk ht hwk,lookL,c1',ok60]) (by first | (simp [Am0 hk ht hwk,lookL,c1'];done) | (simp [Am0 hk ht hwk,lookL,c1',ok60];done) | (simp [Am0 hk ht hwk,lookL,c1',ok60];rfl)) (zE 42 rfl rfl (zS 0 rfl (zS 40 rfl (zS 41 rfl (Sub.nil _))))) .nil
  intro c0';obtain rfl:k=p.things.length:=by omega
  rw [List.take_length] at hwk;refine RunC.exit ?_;refine su ?_;refine Ab1 ?_;refine AQ5 ?_;exact Ca7 (.r0 rfl) (a:=wk) (by rw [lookX,hl0,hwk]) rfl rfl
theorem Ax9 (p:Pr) (q:Option Addr) (b o cap:Nat) (l:List Int) (q2:Option Addr) (bb oo cap2:Nat) (W:World) (hS:Sl W q b o 9 (p.things.map Th.cells)) (hl:p.things.length≤100000000000) (hL:Sl W q2 bb oo 1 (l.map fun n=>[.int .i64 n])) (hl2:l.length≤100000) :
    Calls Tryz.prog 167 #[p.v q cap,.slice q2 l.length cap2] W (TryN misf (truthsX p l) (fun _ b=>.pointer (some ⟨b,0,none⟩)) (fun w b=>[(b,.cells (vwCells p q cap w).toArray 244 (0,0))]) W):=by
  refine Aa0 Tryz.func167 rfl rfl ?_;refine st ?_;refine zn (New.box rfl) (fun b2=>?_)
  refine Ao2 (zF rfl BI2) rfl rfl rfl (fun w hm=>AP5 p q b o cap l q2 bb oo cap2 w (hS.mono (by decide) hm (by simp)) hl (hL.mono (by decide) hm (by simp)) hl2) (fun e8 he8=>?_) (fun a8 ha8 b8=>?_)
  ·refine Aa5 ?_
   exact Az4 (by simp [truthsX,he8])
  refine st ?_;refine Bc5 (zF rfl Cq6) rfl rfl rfl (fun _=>.here) (fun w hm=>Bh4 p (Am1 (AM1 ha8).1) q b o cap (0,0) _ w (hm.at (.head _)) (hS.mono (by decide) hm (by simp)) (hS.ne (by decide) hm (.head _))) (fun e10 he10 o10=>?_) (fun a10 ha10=>?_)
  ·refine Aa5 ?_
   exact Az4 (by simp [truthsX,ha8,he10])
  refine su ?_;exact Bk3 (a:=a10) b8 (.r1 rfl (.tmp rfl)) (by simp [truthsX,ha8,ha10]) rfl (.cons .here rfl .nil)
end Go.Proofs.YtnmkdiagbkkmaabGreatDoor
namespace Go.Proofs.YtnmkdiagbkkmaabGreatDoor
open Go Go.Eng Go.Pw1

theorem BK2 (b:Nat) (w:World):CallsD Tryz.prog 166 #[.pointer (some ⟨b,0,none⟩)] .returning w fun e u w'=>(∃ v,e = .returned v)∧u = .returning∧Mem w [] [] w':=by
  refine callsD_of_wpS Tryz.func166 rfl fun c₀ cs hu=>?_
  refine wpS_seq ?_;refine wpS_region ?_;simp [wpOpsS,go_sem,recoverD,hu,Tryz.ntmps166,Exit.thenS]
  refine wpS_of_wp ?_;refine Bs3 20 [(0,.pointer (some ⟨b,0,none⟩)),(2,.nilIface)] w [] ?_ ?_
  · exact ⟨by simp,.consA (by simp) (.consA (by simp [Array.getElem?_append]) (Agree.nil _)),rfl,Mem.refl w⟩
  refine st ?_;refine lv (Ax1 rfl Bf0) ?_;refine RunC.cond rfl (fun h=>absurd h (by simp)) ?_;intro c0;clear c0;refine RunC.skip ?_;intro a w2 s;exact ⟨s.defers,.returning,by rw [← hu],_,results_none rfl _ _ _,⟨_,rfl⟩,rfl,s.mem.drop⟩
theorem BK1 (b:Nat) (k:Int) (x:Value) (w:World) (hb:w.heap[b]? = some (.cells #[x] 34 (0,0))):CallsD Tryz.prog 166 #[.pointer (some ⟨b,0,none⟩)] (.panicking [{ v:=misf k,recovered:=false }]) w fun e u w' =>
    (∃ v,e = .returned v)∧u = .panicking [{ v:=misf k,recovered:=true }]∧Mem w [(b,.cells #[.int .i64 k] 34 (0,0))] [] w':=by
  refine callsD_of_wpS Tryz.func166 rfl fun c₀ cs hu=>?_
  refine wpS_seq ?_;refine wpS_region ?_;simp [wpOpsS,go_sem,recoverD,hu,Tryz.ntmps166,Exit.thenS]
  refine wpS_of_wp ?_;refine Bs3 20 [(0,.pointer (some ⟨b,0,none⟩)),(2,misf k)] w [(b,.cells #[x] 34 (0,0))] ?_ ?_
  · exact ⟨by simp,.consA (by simp) (.consA (by simp [Array.getElem?_append]) (Agree.nil _)),rfl,Mem.start hb⟩
  refine st ?_;refine lv (Aq3 rfl Bf0) ?_;refine RunC.cond rfl ?_ (fun h=>absurd h (by simp))
  intro c0;clear c0;refine st ?_;refine lv (Av2 rfl Bn2) ?_;refine zn (New.alloc Bl2) (fun b3=>?_)
  refine Aa9 (Sto.store rfl rfl .here Cd3 rfl rfl) rfl rfl ?_;refine st ?_;refine RunC.cond rfl (fun h=>absurd h (by simp)) ?_;intro c1;clear c1;refine su ?_;refine Aa9 (Ad1 rfl rfl .here Ag0 rfl rfl) rfl rfl ?_;refine RunL.nil ?_;intro a w2 s;exact ⟨s.defers,.panicking [{ v:=misf k,recovered:=true }],rfl,_,results_none rfl _ _ _,⟨_,rfl⟩,rfl,s.mem.drop⟩
theorem An2:Catches Tryz.prog 166 34 misf:=⟨BK2,fun b k x w h=>BK1 b k x w h⟩
end Go.Proofs.YtnmkdiagbkkmaabGreatDoor
namespace Go.Proofs.YtnmkdiagbkkmaabGreatDoor
open Go Go.Eng Go.Pw1

theorem BL2 (p:Pr) (n:Int) (q:Option Addr) (b o cap:Nat) (W:World) (hS:Sl W q b o 9 (p.things.map Th.cells)) (hl:p.things.length≤100000000000) :
    Calls Tryz.prog 118 #[p.v q cap,.int .i64 n] W (Pure (.tuple #[b2v (shiftX p n).1,.int .i64 (shiftX p n).2]) W):=by
  refine Aj1 Tryz.func118 rfl rfl ?_;refine st ?_;refine zn (New.box rfl) (fun b2=>?_)
  refine zn (New.alloc Ae2) (fun b4=>?_)
  refine zn (New.alloc At0) (fun b5=>?_)
  refine RunL.defer rfl ?_;refine su ?_;refine zn (New.buildSlice (parts:=[(0,.tmp 7)]) rfl Ah5 Ax7 rfl rfl rfl rfl) (fun b8=>?_)
  refine Ao2 (zF rfl BI2) rfl rfl rfl (fun w hm=>AP5 p q b o cap [_] _ _ _ _ w (hS.mono (by decide) hm (by simp)) hl (Sl.row1 (hm.at (.head _))) (by simp)) (fun e9 he9=>?_) (fun a9 ha9 b9=>?_)
  ·refine Aa5 ?_
   exact As9 An2 Al4 (.there .here) (.r2 rfl (.agg rfl (.tail _ (.tail _ (.head _))) Ag5 rfl) (.one rfl (.tail _ (.head _)) Ag0 rfl)) (by simp [b2v,shiftX,he9])
  have hp:=Am1 (AM1 ha9).1;obtain ⟨k,rfl,hk⟩:=AM2 ha9 (List.mem_singleton.2 rfl);obtain ⟨t,ht⟩:∃ t,p.things[k]=t:=⟨_,rfl⟩;have hth:=hp.ths _ (List.getElem_mem hk);rw [ht] at hth;refine su ?_;refine lv (Aa8 rfl rfl AE5 (by omega) (by omega) (hS.ptrM hk)) ?_;refine lv (Ab0 rfl (fun w hm=>hS.loadX (by decide) hm (by simp) AA1 hk ht)) ?_;refine zc (zF rfl Bp3) (fun w hm=>Au6 t hth.1 w) ?_;refine Aa9 (Sto.store rfl rfl (.there (.there (.there .here))) Ag5 rfl rfl) rfl rfl ?_;refine Aa9 (Sto.store rfl rfl (.there (.there .here)) Ag0 rfl rfl) rfl rfl ?_;refine su ?_;exact As8 An2 Al4 (.r2 rfl (.agg rfl (.tail _ (.tail _ (.tail _ (.head _)))) Ag5 rfl) (.one rfl (.tail _ (.tail _ (.head _))) Ag0 rfl)) (by simp [b2v,shiftX,ha9,Af2 hk ht])
theorem Bd2 (p:Pr) (q:Option Addr) (b o cap:Nat) (W:World) (hS:Sl W q b o 9 (p.things.map Th.cells)) (hl:p.things.length≤100000000000) :
    Calls Tryz.prog 123 #[p.v q cap] W (Pure (.tuple #[b2v (powerX p).1,.int .i64 (powerX p).2]) W):=by
  refine Aj1 Tryz.func123 rfl rfl ?_;refine st ?_;refine zn (New.box rfl) (fun b1=>?_)
  refine zn (New.alloc Ae2) (fun b2=>?_)
  refine zn (New.alloc At0) (fun b3=>?_)
  refine RunL.defer rfl ?_;refine su ?_;refine Ao2 (zF rfl Bp4) rfl rfl rfl (fun w hm=>Ax9 p q b o cap [] _ 0 0 _ w (hS.mono (by decide) hm (by simp)) hl Sl.emp (by simp)) (fun e5 he5=>?_) (fun a5 ha5 b5=>?_)
  ·refine Aa5 ?_
   exact As9 An2 Al4 .here (.r2 rfl (.agg rfl (.tail _ (.head _)) Ag5 rfl) (.one rfl (.head _) Ag0 rfl)) (by simp [b2v,powerX,he5])
  refine su ?_;refine zc (zF rfl Bp2) (fun w hm=>Ay1 a5 w) ?_;refine Aa9 (Sto.store rfl rfl (.there (.there .here)) Ag5 rfl rfl) rfl rfl ?_;refine Aa9 (Sto.store rfl rfl (.there .here) Ag0 rfl rfl) rfl rfl ?_;refine su ?_;exact As8 An2 Al4 (.r2 rfl (.agg rfl (.tail _ (.tail _ (.head _))) Ag5 rfl) (.one rfl (.tail _ (.head _)) Ag0 rfl)) (by simp [b2v,powerX,ha5])
theorem BB7 (p:Pr) (far:Int) (q:Option Addr) (b o cap:Nat) (W:World) (hS:Sl W q b o 9 (p.things.map Th.cells)) (hl:p.things.length≤100000000000) :
    Calls Tryz.prog 193 #[p.v q cap,.int .i64 far] W (Pure (.tuple #[b2v (standsX p far).1,.int .i64 (standsX p far).2]) W):=by
  refine Aj1 Tryz.func193 rfl rfl ?_;refine st ?_;refine zn (New.box rfl) (fun b2=>?_)
  refine zn (New.alloc Ae2) (fun b4=>?_)
  refine zn (New.alloc At0) (fun b5=>?_)
  refine RunL.defer rfl ?_;refine su ?_;refine Ao2 (zF rfl BI2) rfl rfl rfl (fun w hm=>AP5 p q b o cap [] _ 0 0 _ w (hS.mono (by decide) hm (by simp)) hl Sl.emp (by simp)) (fun e8 he8=>?_) (fun a8 ha8 b8=>?_)
  ·refine Aa5 ?_
   exact As9 An2 Al4 .here (.r2 rfl (.agg rfl (.tail _ (.head _)) Ag5 rfl) (.one rfl (.head _) Ag0 rfl)) (by simp [b2v,standsX,he8])
  have hp:=Am1 (AM1 ha8).1;refine st ?_;refine Ca9 11 Aj3 (.cons .here rfl (.cons .here rfl (.cons .here rfl (.cons .here rfl .nil)))) ?_;refine Af0 (i:=0) rfl (by kernel_rfl) (by kernel_rfl) (Aa3 rfl) rfl rfl rfl (PanQ.back rfl) (.cons .here rfl (.cons .here rfl (.cons .here rfl (.cons .here rfl .nil)))) rfl ?_;refine Af0 (i:=1) rfl (by kernel_rfl) (by kernel_rfl) (Aa3 rfl) rfl rfl rfl (PanQ.back rfl) (.cons .here rfl (.cons .here rfl (.cons .here rfl (.cons .here rfl .nil)))) rfl ?_;refine Af0 (i:=2) rfl (by kernel_rfl) (by kernel_rfl) (Aa3 rfl) rfl rfl rfl (PanQ.back rfl) (.cons .here rfl (.cons .here rfl (.cons .here rfl (.cons .here rfl .nil)))) rfl ?_;refine Af0 (i:=3) rfl (by kernel_rfl) (by kernel_rfl) (Val.fieldAddr rfl As5) rfl rfl rfl (PanQ.back rfl) (.cons .here rfl (.cons .here rfl (.cons .here rfl (.cons .here rfl .nil)))) rfl ?_;refine Af0 (i:=4) rfl (by kernel_rfl) (by kernel_rfl) (Val.fieldAddr rfl BP9) rfl rfl rfl (PanQ.back rfl) (.cons .here rfl (.cons .here rfl (.cons .here rfl (.cons .here rfl .nil)))) rfl ?_;refine Af0 (i:=5) rfl (by kernel_rfl) (by kernel_rfl) (Ab6 rfl (.head _) Ag4 rfl) rfl rfl rfl (PanQ.back rfl) (.cons .here rfl (.cons .here rfl (.cons .here rfl (.cons .here rfl .nil)))) rfl ?_;refine Af0 (i:=6) rfl (by kernel_rfl) (by kernel_rfl) (Aa3 rfl) rfl rfl rfl (PanQ.back rfl) (.cons .here rfl (.cons .here rfl (.cons .here rfl (.cons .here rfl .nil)))) rfl ?_;refine Af0 (i:=7) rfl (by kernel_rfl) (by kernel_rfl) (Aa3 rfl) rfl rfl rfl (PanQ.back rfl) (.cons .here rfl (.cons .here rfl (.cons .here rfl (.cons .here rfl .nil)))) rfl ?_;refine Af0 (i:=8) rfl (by kernel_rfl) (by kernel_rfl) (Val.fieldAddr rfl As5) rfl rfl rfl (PanQ.back rfl) (.cons .here rfl (.cons .here rfl (.cons .here rfl (.cons .here rfl .nil)))) rfl ?_;refine Af0 (i:=9) rfl (by kernel_rfl) (by kernel_rfl) (Val.fieldAddr rfl BP8) rfl rfl rfl (PanQ.back rfl) (.cons .here rfl (.cons .here rfl (.cons .here rfl (.cons .here rfl .nil)))) rfl ?_;refine Af0 (i:=10) rfl (by kernel_rfl) (by kernel_rfl) (Ab6 rfl (.head _) Ag4 rfl) rfl rfl rfl (PanQ.back rfl) (.cons .here rfl (.cons .here rfl (.cons .here rfl (.cons .here rfl .nil)))) rfl ?_;refine zt ?_;refine zq 11 rfl (zF rfl AQ0) (fun w hm=>Ao4 _ _ _ w) ?_;refine zB 12 ?_;refine Am7 rfl (zF rfl Ba7) rfl rfl rfl (fun w hm=>AA8 _ _ w) (fun e21 he21=>?_) (fun v21 hv21=>(Ab9 ?_))
  ·obtain ⟨er21,rfl⟩:=Ae0 he21
   refine Bc7 (Sub.skip rfl (Sub.skip rfl (Sub.skip rfl (Sub.skip rfl (Sub.skip rfl (Sub.skip rfl (Sub.skip rfl (Sub.skip rfl (Sub.skip rfl (Sub.skip rfl (Sub.skip rfl (Sub.skip rfl (Ac1 _))))))))))))) (.cons .here rfl (.cons .here rfl (.cons .here rfl (.cons .here rfl .nil)))) ?_;refine Aa5 ?_;exact As9 An2 Al4 (.there .here) (.r2 rfl (.agg rfl (.tail _ (.tail _ (.head _))) Ag5 rfl) (.one rfl (.tail _ (.head _)) Ag0 rfl)) (by simp [b2v,standsX,ha8,er21])
  obtain ⟨ok21,rfl⟩:=Ae7 hv21;refine zd ?_;refine AU1 ?_;refine st ?_;refine Bc5 (zF rfl Cq6) rfl rfl rfl (fun _=>.here) (fun w hm=>Bh4 p hp q b o cap (0,0) _ w (hm.at (.head _)) (hS.mono (by decide) hm (by simp)) (hS.ne (by decide) hm (.head _))) (fun e23 he23 o23=>?_) (fun a23 ha23=>?_)
  ·refine Aa5 ?_
   exact As9 An2 Al4 (.there .here) (.r2 rfl (.agg rfl (.tail _ (.tail _ (.head _))) Ag5 rfl) (.one rfl (.tail _ (.head _)) Ag0 rfl)) (by simp [b2v,standsX,ha8,ok21,he23])
  have pb:=Cl2 hp ha23;have n1:=hp.n1;have hw:=ok21;simp only [within,Bool.and_eq_true,decide_eq_true_eq] at hw;refine st ?_;refine Aw0 17 Aj3 (.cons .here rfl (.cons .here rfl (.cons (.there .here) rfl .nil))) ?_;refine zw 0 ?_;refine zw 1 ?_;refine zw 2 ?_;refine zv 3 rfl (Ab2 rfl rfl Ah7 (by decide) (by decide)) ?_;refine zw 4 ?_;refine zw 5 ?_;refine zv 6 rfl (Val.quo rfl rfl (by omega) (by omega) (IntWalk.i64_in _ (Bb1 (by omega) (by omega) (by omega)))) ?_;refine zw 7 ?_;refine zw 8 ?_;refine zw 9 ?_;refine zv 10 rfl (Ab2 rfl rfl Ah7 (by decide) (by decide)) ?_;refine zw 11 ?_;refine zw 12 ?_;refine zv 13 rfl (Val.quo rfl rfl (by omega) (by omega) (IntWalk.i64_in _ (Bb1 (by omega) (by omega) (by omega)))) ?_;refine zA 14 ?_;refine Ac0 rfl (Sto.store rfl rfl (.there (.there .here)) Ag5 rfl rfl) rfl rfl (Aa7 (.cons .here rfl (.cons .here rfl (.cons (.there .here) rfl .nil))) (.cons .here rfl (.cons .here rfl (.cons .here rfl .nil))) rfl ?_)
  refine zw 15 ?_;refine zA 16 ?_;refine Ac0 rfl (Sto.store rfl rfl (.there (.there .here)) Ag4 rfl rfl) rfl rfl (Aa7 (.cons .here rfl (.cons .here rfl (.cons (.there .here) rfl .nil))) (.cons .here rfl (.cons .here rfl (.cons .here rfl .nil))) rfl ?_)
  refine zt ?_;refine zp 17 ?_;refine zB 18 ?_;refine Ac0 rfl (Sto.store rfl rfl (.there (.there .here)) Ag4 rfl rfl) rfl rfl (Ab9 ?_)
  refine zB 19 ?_;refine Ac0 rfl (Sto.store rfl rfl (.there .here) Ag0 rfl rfl) rfl rfl (Ab9 ?_)
  refine zd ?_;refine Ae6 ?_;refine su ?_;exact As8 An2 Al4 (.r2 rfl (.agg rfl (.tail _ (.tail _ (.head _))) Ag5 rfl) (.one rfl (.tail _ (.head _)) Ag0 rfl)) (by simp [b2v,standsX,ha8,ok21,ha23])
end Go.Proofs.YtnmkdiagbkkmaabGreatDoor
namespace Go.Proofs.YtnmkdiagbkkmaabGreatDoor
open Go Go.Eng Go.Pw1

theorem BU3 (p:Pr) (hp:p.Ok) (q:Option Addr) (cap:Nat) (pw:Int×Int) (t:Th) (ht:t.Ok) (bv:Nat) (W:World) (hV:W.heap[bv]? = some (.cells (vwCells p q cap pw).toArray 244 (0,0))) :
    Calls Tryz.prog 169 #[.pointer (some ⟨bv,0,none⟩),t.v] W (Pure (.bool (!levelS p t)) W):=by
  refine Aa0 Tryz.func169 rfl rfl ?_;refine st ?_;refine zn (New.box rfl) (fun b3=>?_)
  refine zc (zF rfl BH8) (fun w hm=>AK7 p hp q cap pw t ht bv w (hm.old_at hV (by simp))) ?_;exact Aa4 (.r1 rfl (.tmp rfl)) (by first | rfl | simp)
theorem BA8 (t:Th) (ht:t.Ok) (v:Value) (W:World) :
    Calls Tryz.prog 170 #[v,t.v] W (Pure (.bool (decide ((shift t).2 < 0))) W):=by
  refine Aa0 Tryz.func170 rfl rfl ?_;refine st ?_;refine zn (New.box rfl) (fun b3=>?_)
  refine zc (zF rfl Bp3) (fun w hm=>Au6 t ht w) ?_;refine lu (Val.field rfl BH3 rfl) ?_;exact Aa4 (.r1 rfl (.tmp rfl)) (by first | rfl | simp)
theorem BK0 (p:Pr) (hp:p.Ok) (q:Option Addr) (cap:Nat) (pw:Int×Int) (t:Th) (ht:t.Ok) (bv:Nat) (W:World) (hV:W.heap[bv]? = some (.cells (vwCells p q cap pw).toArray 244 (0,0))) :
    Calls Tryz.prog 171 #[.pointer (some ⟨bv,0,none⟩),t.v] W (Pure (.bool (decide (2000 < (shift t).1∨pw.2 < (shift t).1 * p.near))) W):=by
  have n1:=hp.n1;have n2:=hp.n2;have n3:=hp.n3;obtain ⟨hsl,hsu⟩:=BN6 ht;have mm:=Ck2 hsl (show 0≤p.near by omega) (show p.near≤1073741824 by omega);refine Aa0 Tryz.func171 rfl rfl ?_;refine st ?_;refine zn (New.box rfl) (fun b3=>?_)
  refine zc (zF rfl Bp3) (fun w hm=>Au6 t ht w) ?_;refine lv (Val.field rfl BH4 rfl) ?_;refine Ac4 15 Aj3 (.cons .here rfl .nil) ?_;refine zw 0 ?_;refine zw 1 ?_;refine zw 2 ?_;refine Ap5 (dj:=11) rfl ?_ ?_
  ·intro g11
   have g11':=g11;clear g11;try simp only [nH] at g11'
   refine zN 3 ?_;refine zN 4 ?_;refine zN 5 ?_;refine zN 6 ?_;refine zN 7 ?_;refine zN 8 ?_;refine zN 9 ?_;refine zN 10 ?_;refine zN 11 ?_;refine zN 12 ?_;refine zN 13 ?_;refine zN 14 ?_;refine zt ?_;refine zB 15 ?_;refine Ao3 rfl rfl rfl rfl (Ab9 ?_)
   refine zp 16 ?_;refine zp 17 ?_;refine zd ?_;refine su ?_;exact Aa4 (.r1 rfl (.tmp rfl)) (by simp [g11'])
  intro g11;have g11':=g11;clear g11;try simp only [nH] at g11'
  refine zw 3 ?_;refine zw 4 ?_;refine zw 5 ?_;refine zw 6 ?_;refine zw 7 ?_;refine zv 8 rfl (Aa2 rfl hV (by simp) Ag4 rfl) ?_;refine zv 9 rfl (Val.mul rfl rfl (IntWalk.i64_in _ ⟨by omega,by omega⟩)) ?_;refine zw 10 ?_;refine zw 11 ?_;refine zw 12 ?_;refine zv 13 rfl (Ab2 rfl rfl Ah7 (by decide) (by decide)) ?_;refine zv 14 rfl (Aa2 rfl hV (by simp) Ag4 rfl) ?_;refine zt ?_;refine zp 15 ?_;refine zp 16 ?_;refine zp 17 ?_;refine zd ?_;refine su ?_;exact Aa4 (.r1 rfl (.tmp rfl)) (by simp [Int.not_lt.2 g11'])
theorem BZ9 (t:Th) (v:Value) (W:World):Calls Tryz.prog 172 #[v,t.v] W (Pure (.bool true) W):=by
  refine Aa0 Tryz.func172 rfl rfl ?_;refine st ?_;refine zn (New.box rfl) (fun b3=>?_)
  exact Aa4 (.r1 rfl (.tmp rfl)) (by first | rfl | simp)
theorem AH1 (f:FuncId) (x:Value) (t:Th) (v:Value) (b6 b7:Nat) (W:World) (h6:W.heap[b6]? = some (.cells [x].toArray 240 (0,0))) (h7:W.heap[b7]? = some (.cells t.cells.toArray 66 (0,0))) (he:Enters Tryz.prog f)
    (hf:∀ w,Mem W [] [] w→Calls Tryz.prog f #[x,t.v] w (Pure v w)) :
    Calls Tryz.prog 174 #[.func (.func f) #[] #[],.pointer (some ⟨b6,0,none⟩),.pointer (some ⟨b7,0,none⟩)] W (Pure v W):=by
  refine Aa0 Tryz.func174 rfl rfl ?_;refine st ?_;refine lv (Aa2 rfl h6 (by simp) AJ0 rfl) ?_;refine lv (Ag9 rfl h7 (by simp) AA1 rfl) ?_;refine Ab7 (Ac5 rfl rfl he) rfl rfl rfl (fun w hm=>hf w hm.drop) ?_;refine su ?_;exact Aa4 (.r1 rfl (.tmp rfl)) (by first | rfl | simp)
theorem AT2 (l:List (Value×Bool)) (q:Option Addr) (b o cap:Nat) (fn:FuncId) (cp:List Value) (W:World) (hS:Sl W q b o 1 (l.map fun e=>[e.1])) (hl:l.length≤100000000000) (he:Enters Tryz.prog fn)
    (hf:∀ e∈l,∀ w,Mem W [] [] w→Calls Tryz.prog fn ([e.1]++cp).toArray w (Pure (.bool e.2) w)) :
    Calls Tryz.prog 173 #[.slice q l.length cap,.func (.func fn) #[] cp.toArray] W (Pure (.int .i64 (idxF (·.2) l)) W):=by
  refine Aa0 Tryz.func173 rfl rfl ?_;refine su ?_;refine Ae5 (l.length) (fun k q=>(8,.int .i64 (k:Int))::q) (fun _=>_) (fun _=>[]) (fun k=>(l.take k).any (·.2)=false) (by simp) rfl (zE 8 rfl rfl (zS 0 rfl (zS 1 rfl (zS 7 rfl (Sub.nil _))))) .nil ?_;intro k kN kI;refine st ?_;refine cn rfl ?_ ?_
  ·intro c0'
   have hk:k < l.length:=by omega
   refine st ?_;refine lv (Aa8 rfl rfl Cf7 (by omega) (by omega) (hS.ptrM hk)) ?_;refine lv (Ab0 rfl (fun w hm=>hS.loadM1 (by decide) hm (by simp) CL1 hk (v:=l[k].1) rfl)) ?_;refine Ab7 (Ac5 rfl rfl he) rfl rfl rfl (fun w hm=>hf _ (List.getElem_mem hk) w hm.drop) ?_;refine st ?_;refine cn rfl ?_ ?_
   ·intro c1'
    refine su ?_;exact Aa4 (.r1 rfl (.tmp rfl)) (by rw [AC8 (fun e:Value×Bool=>e.2) l k hk kI c1'])
   intro c1';refine st ?_;refine lv (Val.add rfl rfl (IntWalk.i64_in _ ⟨by omega,by omega⟩)) ?_;exact Ad0 (by omega) (Ay9 (f:=fun e:Value×Bool=>e.2) hk kI c1') rfl (zE 8 rfl rfl (zS 0 rfl (zS 1 rfl (zS 7 rfl (Sub.nil _))))) .nil
  intro c0';obtain rfl:k=l.length:=by omega
  rw [List.take_length] at kI;refine RunC.exit ?_;refine su ?_;refine Ab1 ?_;refine su ?_;exact Aa4 (.r1 rfl (.tmp rfl)) (by rw [Aw8 (fun e:Value×Bool=>e.2) l kI])
end Go.Proofs.YtnmkdiagbkkmaabGreatDoor
namespace Go.Proofs.YtnmkdiagbkkmaabGreatDoor
open Go Go.Eng Go.Pw1

theorem Bm6 (p:Pr) (hp:p.Ok) (q:Option Addr) (cap:Nat) (pw:Int×Int) (t:Th) (ht:t.Ok) (bv bs b6 b7:Nat) (W:World) (hV:W.heap[bv]? = some (.cells (vwCells p q cap pw).toArray 244 (0,0)))
    (hR:W.heap[bs]? = some (.cells [.func (.func 169) #[] #[],.func (.func 170) #[] #[],.func (.func 171) #[] #[],.func (.func 172) #[] #[]].toArray 251 (0,0)))
    (h6:W.heap[b6]? = some (.cells [.pointer (some ⟨bv,0,none⟩)].toArray 240 (0,0))) (h7:W.heap[b7]? = some (.cells t.cells.toArray 66 (0,0))) :
    Calls Tryz.prog 173 #[.slice (some ⟨bs,0,none⟩) 4 4,.func (.func 174) #[] #[.pointer (some ⟨b6,0,none⟩),.pointer (some ⟨b7,0,none⟩)]] W
      (Pure (.int .i64 (idxF id [!levelS p t,decide ((shift t).2 < 0),decide (2000 < (shift t).1∨pw.2 < (shift t).1 * p.near),true])) W) :=
  AT2 [(.func (.func 169) #[] #[],!levelS p t),(.func (.func 170) #[] #[],decide ((shift t).2 < 0)),(.func (.func 171) #[] #[],decide (2000 < (shift t).1∨pw.2 < (shift t).1 * p.near)),(.func (.func 172) #[] #[],true)]
    (some ⟨bs,0,none⟩) bs 0 4 174 [.pointer (some ⟨b6,0,none⟩),.pointer (some ⟨b7,0,none⟩)] W (Sl.row1 hR) (by simp) CX2 (fun e he w hm=>by
      simp only [List.mem_cons,List.not_mem_nil,or_false] at he
      rcases he with rfl | rfl | rfl | rfl
      · exact AH1 _ _ t _ b6 b7 w (hm.old_at h6 (by simp)) (hm.old_at h7 (by simp)) CX7 (fun w2 hm2=>BU3 p hp q cap pw t ht bv w2 (hm2.old_at (hm.old_at hV (by simp)) (by simp)))
      · exact AH1 _ _ t _ b6 b7 w (hm.old_at h6 (by simp)) (hm.old_at h7 (by simp)) CX6 (fun w2 hm2=>BA8 t ht _ w2)
      · exact AH1 _ _ t _ b6 b7 w (hm.old_at h6 (by simp)) (hm.old_at h7 (by simp)) CX5 (fun w2 hm2=>BK0 p hp q cap pw t ht bv w2 (hm2.old_at (hm.old_at hV (by simp)) (by simp)))
      · exact AH1 _ _ t _ b6 b7 w (hm.old_at h6 (by simp)) (hm.old_at h7 (by simp)) CX4 (fun w2 hm2=>BZ9 t _ w2))
theorem BB1 (p:Pr) (n:Int) (q:Option Addr) (b o cap:Nat) (W:World) (hS:Sl W q b o 9 (p.things.map Th.cells)) (hl:p.things.length≤100000000000) :
    Calls Tryz.prog 117 #[p.v q cap,.int .i64 n] W (Pure (.tuple #[.int .i64 (whyX p n).1,.int .i64 (whyX p n).2]) W):=by
  refine Aj1 Tryz.func117 rfl rfl ?_;refine st ?_;refine zn (New.box rfl) (fun b2=>?_)
  refine zn (New.alloc At0) (fun b5=>?_)
  refine RunL.defer rfl ?_;refine su ?_;refine zn (New.buildSlice (parts:=[(0,.tmp 12)]) rfl Ah5 Ax7 rfl rfl rfl rfl) (fun b13=>?_)
  refine Ao2 (zF rfl Bp4) rfl rfl rfl (fun w hm=>Ax9 p q b o cap [_] _ _ _ _ w (hS.mono (by decide) hm (by simp)) hl (Sl.row1 (hm.at (.head _))) (by simp)) (fun e14 he14=>?_) (fun a14 ha14 b14=>?_)
  ·refine Aa5 ?_
   exact As9 An2 Al4 (.there .here) (.r2 rfl (.tmp rfl) (.one rfl (.tail _ (.head _)) Ag0 rfl)) (by simp [whyX,he14])
  obtain ⟨hp,hop,wb1,wb2,wb3⟩:=Aw4 ha14;obtain ⟨k,rfl,hk⟩:=AM2 hop (List.mem_singleton.2 rfl);obtain ⟨t,ht⟩:∃ t,p.things[k]=t:=⟨_,rfl⟩;have hth:=hp.ths _ (List.getElem_mem hk);rw [ht] at hth;refine zn (New.alloc BM1) (fun b6=>?_)
  refine Aa9 (Sto.store rfl rfl .here AJ0 rfl rfl) rfl rfl ?_;refine su ?_;refine lv (Aa8 rfl rfl AE5 (by omega) (by omega) (hS.ptrM hk)) ?_;refine lv (Ab0 rfl (fun w hm=>hS.loadX (by decide) hm (by simp) AA1 hk ht)) ?_;refine zn (New.alloc Aw1) (fun b7=>?_)
  refine Aa9 (Sto.store rfl rfl .here AA1 rfl rfl) rfl rfl ?_;refine nnx ?_;refine RunC.seq ?_;refine RunC.seq ?_
  apply Aq8 (J:=J1 _ _ _ _ _ _) 12 Aj3 (.cons .here rfl (.cons .here rfl (.cons .here rfl (.cons .here rfl (.cons .here rfl (.cons .here rfl .nil))))))
  ·refine zw 0 ?_
   refine zw 1 ?_;refine zw 2 ?_;refine zw 3 ?_;refine zw 4 ?_;refine zw 5 ?_;refine Ag7 (rs:=[6,10]) (by kernel_rfl) (by simp) (by kernel_rfl) (fun m hm=>?_)
   simp only [List.mem_cons,List.not_mem_nil,or_false] at hm
   rcases hm with rfl | rfl
   ·refine Ab5 rfl (zF rfl Az6) rfl rfl rfl (fun w hm=>Aj2 p hp q cap a14 t hth.1 hth.2 a14 _ w (hm.at (.tail _ (.tail _ (.head _))))) (Aa7 (.cons .here rfl (.cons .here rfl (.cons .here rfl (.cons .here rfl (.cons .here rfl (.cons .here rfl .nil)))))) (.cons .here rfl (.cons .here rfl (.cons .here rfl (.cons .here rfl (.cons .here rfl (.cons .here rfl .nil)))))) rfl ?_)
    refine zw 7 ?_;refine zw 8 ?_;refine zw 9 ?_;refine zA 10 ?_;refine Ac6 rfl (New.alloc Ac8) rfl rfl rfl (fun b8=>(Aa7 (.cons (.there .here) rfl (.cons (.there .here) rfl (.cons (.there .here) rfl (.cons (.there .here) rfl (.cons (.there .here) rfl (.cons (.there .here) rfl .nil)))))) (.cons .here rfl (.cons .here rfl (.cons .here rfl (.cons .here rfl (.cons .here rfl (.cons .here rfl .nil)))))) rfl ?_))
    refine zA 11 ?_;refine Ac0 rfl (Sto.store rfl rfl .here Af4 rfl rfl) rfl rfl (Aa7 (.cons (.there .here) rfl (.cons (.there .here) rfl (.cons (.there .here) rfl (.cons (.there .here) rfl (.cons (.there .here) rfl (.cons (.there .here) rfl .nil)))))) (.cons .here rfl (.cons .here rfl (.cons .here rfl (.cons .here rfl (.cons .here rfl (.cons .here rfl .nil)))))) rfl ?_)
    refine zt ?_;refine zp 12 ?_;refine zd ?_;refine Ae6 ?_;exact Af1 b8 (Ac1 _) (Pick.refl _)
   refine Ac6 rfl (New.alloc Ac8) rfl rfl rfl (fun b8=>(Aa7 (.cons (.there .here) rfl (.cons (.there .here) rfl (.cons (.there .here) rfl (.cons (.there .here) rfl (.cons (.there .here) rfl (.cons (.there .here) rfl .nil)))))) (.cons .here rfl (.cons .here rfl (.cons .here rfl (.cons .here rfl (.cons .here rfl (.cons .here rfl .nil)))))) rfl ?_))
   refine zA 6 ?_;refine Ab5 rfl (zF rfl Az6) rfl rfl rfl (fun w hm=>Aj2 p hp q cap a14 t hth.1 hth.2 a14 _ w (hm.at (.tail _ (.tail _ (.tail _ (.head _)))))) (Aa7 (.cons (.there .here) rfl (.cons (.there .here) rfl (.cons (.there .here) rfl (.cons (.there .here) rfl (.cons (.there .here) rfl (.cons (.there .here) rfl .nil)))))) (.cons .here rfl (.cons .here rfl (.cons .here rfl (.cons .here rfl (.cons .here rfl (.cons .here rfl .nil)))))) rfl ?_)
   refine zw 7 ?_;refine zw 8 ?_;refine zw 9 ?_;refine zA 11 ?_;refine Ac0 rfl (Sto.store rfl rfl .here Af4 rfl rfl) rfl rfl (Aa7 (.cons (.there .here) rfl (.cons (.there .here) rfl (.cons (.there .here) rfl (.cons (.there .here) rfl (.cons (.there .here) rfl (.cons (.there .here) rfl .nil)))))) (.cons .here rfl (.cons .here rfl (.cons .here rfl (.cons .here rfl (.cons .here rfl (.cons .here rfl .nil)))))) rfl ?_)
   refine zt ?_;refine zp 12 ?_;refine zd ?_;refine Ae6 ?_;exact Af1 b8 (zS 9 rfl (zS 8 rfl (zS 32 rfl (zS 31 rfl (zS 23 rfl (zS 30 rfl (zS 29 rfl (zS 28 rfl (zS 27 rfl (zS 26 rfl (zS 25 rfl (zS 24 rfl (Sub.skip rfl (Sub.skip rfl (Sub.skip rfl (Sub.skip rfl (Sub.skip rfl (Sub.skip rfl (Sub.skip rfl (Sub.skip rfl (Sub.skip rfl (Sub.skip rfl (Sub.skip rfl (Sub.skip rfl (Ac1 _))))))))))))))))))))))))) (.cons .here rfl (.cons .here rfl (.cons .here rfl (.cons .here rfl (.cons .here rfl (.cons .here rfl (.cons .here rfl .nil)))))))
  refine J1.out (fun b8=>?_)
  refine st ?_;refine cn rfl ?_ ?_
  ·intro c0'
   refine st ?_;refine Aa9 (Sto.store rfl rfl (.there (.there (.there (.there (.there .here))))) Ag0 rfl rfl) rfl rfl ?_;refine su ?_;exact As8 An2 Al4 (.r2 rfl (.tmp rfl) (.one rfl (.tail _ (.tail _ (.tail _ (.tail _ (.tail _ (.head _)))))) Ag0 rfl)) (by simp [whyX,ha14,Af2 hk ht,whyS,c0'])
  intro c0';refine st ?_;refine zn (New.buildSlice (parts:=[(0,.func 169),(1,.func 170),(2,.func 171),(3,.func 172)]) rfl Cf7 Cx6 rfl rfl rfl rfl) (fun b34=>?_)
  refine Ab7 (zF rfl CX3) rfl rfl rfl (fun w hm=>Bm6 p hp q cap a14 t hth.1 _ _ _ _ w (hm.at (.tail _ (.tail _ (.tail _ (.tail _ (.head _)))))) (hm.at (.head _)) (hm.at (.tail _ (.tail _ (.tail _ (.head _))))) (hm.at (.tail _ (.tail _ (.head _))))) ?_;have ig:=Ba0 id [!levelS p t,decide ((shift t).2 < 0),decide (2000 < (shift t).1∨a14.2 < (shift t).1 * p.near),true];have il:=Bn8 id [!levelS p t,decide ((shift t).2 < 0),decide (2000 < (shift t).1∨a14.2 < (shift t).1 * p.near),true];simp only [List.length_cons,List.length_nil] at il;refine lv (Val.add rfl rfl (IntWalk.i64_in _ ⟨by omega,by omega⟩)) ?_;refine Aa9 (Sto.store rfl rfl (.there (.there (.there (.there (.there (.there .here)))))) Ag0 rfl rfl) rfl rfl ?_;refine su ?_;exact As8 An2 Al4 (.r2 rfl (.tmp rfl) (.one rfl (.tail _ (.tail _ (.tail _ (.tail _ (.tail _ (.tail _ (.head _))))))) Ag0 rfl)) (by simp only [whyX,ha14,Af2 hk ht,whyS,c0',Bool.false_eq_true,if_false])
theorem AJ7 (p:Pr) (n:Int) (q:Option Addr) (b o cap:Nat) (W:World) (hS:Sl W q b o 9 (p.things.map Th.cells)) (hl:p.things.length≤100000000000) :
    Calls Tryz.prog 124 #[p.v q cap,.int .i64 n] W (Pure (.tuple #[b2v (distX p n).1,.int .i64 (distX p n).2]) W):=by
  refine Aj1 Tryz.func124 rfl rfl ?_;refine st ?_;refine zn (New.box rfl) (fun b2=>?_)
  refine zn (New.alloc Ae2) (fun b4=>?_)
  refine zn (New.alloc At0) (fun b5=>?_)
  refine RunL.defer rfl ?_;refine su ?_;refine zn (New.buildSlice (parts:=[(0,.tmp 16)]) rfl Ah5 Ax7 rfl rfl rfl rfl) (fun b17=>?_)
  refine Ao2 (zF rfl Bp4) rfl rfl rfl (fun w hm=>Ax9 p q b o cap [_] _ _ _ _ w (hS.mono (by decide) hm (by simp)) hl (Sl.row1 (hm.at (.head _))) (by simp)) (fun e18 he18=>?_) (fun a18 ha18 b18=>?_)
  ·refine Aa5 ?_
   exact As9 An2 Al4 (.there .here) (.r2 rfl (.agg rfl (.tail _ (.tail _ (.head _))) Ag5 rfl) (.one rfl (.tail _ (.head _)) Ag0 rfl)) (by simp [distX,he18,b2v])
  obtain ⟨hp,hop,wb1,wb2,wb3⟩:=Aw4 ha18;obtain ⟨k,rfl,hk⟩:=AM2 hop (List.mem_singleton.2 rfl);obtain ⟨t,ht⟩:∃ t,p.things[k]=t:=⟨_,rfl⟩;have hth:=hp.ths _ (List.getElem_mem hk);rw [ht] at hth;have n1:=hp.n1;have n2:=hp.n2;have n3:=hp.n3;refine su ?_;refine lv (Aa8 rfl rfl AE5 (by omega) (by omega) (hS.ptrM hk)) ?_;refine lv (Ab0 rfl (fun w hm=>hS.loadX (by decide) hm (by simp) AA1 hk ht)) ?_;refine zn (New.alloc Aw1) (fun b7=>?_)
  refine Aa9 (Sto.store rfl rfl .here AA1 rfl rfl) rfl rfl ?_;refine nnx ?_;refine RunC.seq ?_
  apply Aq8 (J:=J1 _ _ _ _ _ _) 12 Aj3 (.cons .here rfl (.cons .here rfl (.cons .here rfl (.cons .here rfl (.cons .here rfl (.cons .here rfl .nil))))))
  ·refine zw 0 ?_
   refine zw 1 ?_;refine zw 2 ?_;refine zw 3 ?_;refine zw 4 ?_;refine zw 5 ?_;refine Ag7 (rs:=[6,10]) (by kernel_rfl) (by simp) (by kernel_rfl) (fun m hm=>?_)
   simp only [List.mem_cons,List.not_mem_nil,or_false] at hm
   rcases hm with rfl | rfl
   ·refine Ab5 rfl (zF rfl Az6) rfl rfl rfl (fun w hm=>Aj2 p hp q cap a18 t hth.1 hth.2 a18 _ w (hm.at (.tail _ (.head _)))) (Aa7 (.cons .here rfl (.cons .here rfl (.cons .here rfl (.cons .here rfl (.cons .here rfl (.cons .here rfl .nil)))))) (.cons .here rfl (.cons .here rfl (.cons .here rfl (.cons .here rfl (.cons .here rfl (.cons .here rfl .nil)))))) rfl ?_)
    refine zw 7 ?_;refine zw 8 ?_;refine zw 9 ?_;refine zA 10 ?_;refine Ac6 rfl (New.alloc Ac8) rfl rfl rfl (fun b8=>(Aa7 (.cons (.there .here) rfl (.cons (.there .here) rfl (.cons (.there .here) rfl (.cons (.there .here) rfl (.cons (.there .here) rfl (.cons (.there .here) rfl .nil)))))) (.cons .here rfl (.cons .here rfl (.cons .here rfl (.cons .here rfl (.cons .here rfl (.cons .here rfl .nil)))))) rfl ?_))
    refine zA 11 ?_;refine Ac0 rfl (Sto.store rfl rfl .here Af4 rfl rfl) rfl rfl (Aa7 (.cons (.there .here) rfl (.cons (.there .here) rfl (.cons (.there .here) rfl (.cons (.there .here) rfl (.cons (.there .here) rfl (.cons (.there .here) rfl .nil)))))) (.cons .here rfl (.cons .here rfl (.cons .here rfl (.cons .here rfl (.cons .here rfl (.cons .here rfl .nil)))))) rfl ?_)
    refine zt ?_;refine zp 12 ?_;refine zd ?_;refine Ae6 ?_;exact Af1 b8 (Ac1 _) (Pick.refl _)
   refine Ac6 rfl (New.alloc Ac8) rfl rfl rfl (fun b8=>(Aa7 (.cons (.there .here) rfl (.cons (.there .here) rfl (.cons (.there .here) rfl (.cons (.there .here) rfl (.cons (.there .here) rfl (.cons (.there .here) rfl .nil)))))) (.cons .here rfl (.cons .here rfl (.cons .here rfl (.cons .here rfl (.cons .here rfl (.cons .here rfl .nil)))))) rfl ?_))
   refine zA 6 ?_;refine Ab5 rfl (zF rfl Az6) rfl rfl rfl (fun w hm=>Aj2 p hp q cap a18 t hth.1 hth.2 a18 _ w (hm.at (.tail _ (.tail _ (.head _))))) (Aa7 (.cons (.there .here) rfl (.cons (.there .here) rfl (.cons (.there .here) rfl (.cons (.there .here) rfl (.cons (.there .here) rfl (.cons (.there .here) rfl .nil)))))) (.cons .here rfl (.cons .here rfl (.cons .here rfl (.cons .here rfl (.cons .here rfl (.cons .here rfl .nil)))))) rfl ?_)
   refine zw 7 ?_;refine zw 8 ?_;refine zw 9 ?_;refine zA 11 ?_;refine Ac0 rfl (Sto.store rfl rfl .here Af4 rfl rfl) rfl rfl (Aa7 (.cons (.there .here) rfl (.cons (.there .here) rfl (.cons (.there .here) rfl (.cons (.there .here) rfl (.cons (.there .here) rfl (.cons (.there .here) rfl .nil)))))) (.cons .here rfl (.cons .here rfl (.cons .here rfl (.cons .here rfl (.cons .here rfl (.cons .here rfl .nil)))))) rfl ?_)
   refine zt ?_;refine zp 12 ?_;refine zd ?_;refine Ae6 ?_;exact Af1 b8 (zS 9 rfl (zS 8 rfl (zS 36 rfl (zS 35 rfl (zS 27 rfl (zS 34 rfl (zS 33 rfl (zS 32 rfl (zS 31 rfl (zS 30 rfl (zS 29 rfl (zS 28 rfl (Sub.skip rfl (Sub.skip rfl (Sub.skip rfl (Sub.skip rfl (Sub.skip rfl (Sub.skip rfl (Sub.skip rfl (Sub.skip rfl (Sub.skip rfl (Sub.skip rfl (Sub.skip rfl (Sub.skip rfl (Ac1 _))))))))))))))))))))))))) (.cons .here rfl (.cons .here rfl (.cons .here rfl (.cons .here rfl (.cons .here rfl (.cons .here rfl (.cons .here rfl .nil)))))))
  refine J1.out (fun b8=>?_)
  refine st ?_;refine Ac2 (zF rfl Ba7) rfl rfl rfl (fun w hm=>AA8 _ _ w) (fun e38 he38=>?_) (fun v38 hv38=>?_)
  ·obtain ⟨er38,rfl⟩:=Ae0 he38
   refine Aa5 ?_;exact As9 An2 Al4 (.there (.there (.there (.there .here)))) (.r2 rfl (.agg rfl (.tail _ (.tail _ (.tail _ (.tail _ (.tail _ (.head _)))))) Ag5 rfl) (.one rfl (.tail _ (.tail _ (.tail _ (.tail _ (.head _))))) Ag0 rfl)) (by simp [distX,ha18,Af2 hk ht,er38,b2v])
  obtain ⟨ok38,rfl⟩:=Ae7 hv38;refine su ?_;refine cn rfl ?_ ?_
  ·intro c0'
   refine su ?_;refine lv (Val.build (parts:=[(0,.tmp 43),(1,.tmp 45)]) rfl Ae2 Al9 rfl) ?_;refine Aa9 (Sto.store rfl rfl (.there (.there (.there (.there (.there .here))))) Ag5 rfl rfl) rfl rfl ?_;refine Aa9 (Sto.store rfl rfl (.there (.there (.there (.there .here)))) Ag0 rfl rfl) rfl rfl ?_;refine su ?_;exact As8 An2 Al4 (.r2 rfl (.agg rfl (.tail _ (.tail _ (.tail _ (.tail _ (.tail _ (.head _)))))) Ag5 rfl) (.one rfl (.tail _ (.tail _ (.tail _ (.tail _ (.head _))))) Ag0 rfl)) (by simp [distX,ha18,Af2 hk ht,ok38,c0',b2v])
  intro c0';have sb:=AU5 (Bt1 ok38).1;refine su ?_;refine zc (zF rfl BI1) (fun w hm=>AK1 t hth.1 w) ?_;refine zn (New.alloc Ac8) (fun b10=>?_)
  refine Aa9 (Sto.store rfl rfl .here Af4 rfl rfl) rfl rfl ?_;refine su ?_;refine lu (Ab2 rfl rfl Ah7 (by decide) (by decide)) ?_;refine cn rfl ?_ ?_
  ·intro c1'
   refine Aw0 7 Aj3 (.cons .here rfl (.cons .here rfl (.cons .here rfl (.cons .here rfl (.cons .here rfl (.cons .here rfl (.cons .here rfl (.cons .here rfl .nil)))))))) ?_;refine zw 0 ?_;refine zw 1 ?_;refine zw 2 ?_;refine zv 3 rfl (Ab2 rfl rfl Ah7 (by decide) (by decide)) ?_;refine zw 4 ?_;refine zv 5 rfl (Ab2 rfl rfl Ah7 (by decide) (by decide)) ?_;refine zw 6 ?_;refine zt ?_;refine zo 7 rfl (Val.quo rfl rfl (by omega) (by omega) (IntWalk.i64_in _ (Bb1 (by omega) (by omega) (by omega)))) ?_;refine zp 8 ?_;refine zd ?_;refine Ae6 ?_;refine RunE.next ?_;refine RunC.seq ?_
   apply Aq8 (J:=J2 _ _ _ _ _ _) 30 Aj3 (.cons .here rfl (.cons .here rfl (.cons .here rfl (.cons .here rfl (.cons .here rfl (.cons .here rfl (.cons .here rfl (.cons .here rfl .nil))))))))
   ·refine zw 0 ?_
    refine zw 1 ?_;refine zw 2 ?_;refine zw 3 ?_;refine zw 4 ?_;refine zw 5 ?_;refine zw 6 ?_;refine zw 7 ?_;refine zw 8 ?_;refine zw 9 ?_;refine zv 10 rfl (Val.build (parts:=[(0,.tmp 73),(1,.tmp 78)]) rfl Ac8 Ai3 rfl) ?_;refine zw 11 ?_;refine zw 12 ?_;refine zw 13 ?_;refine zv 14 rfl (Ab2 rfl rfl Ah7 (by decide) (by decide)) ?_;refine zw 15 ?_;refine zv 16 rfl (Ab2 rfl rfl Ah7 (by decide) (by decide)) ?_;refine zw 17 ?_;refine zv 18 rfl (Val.add rfl rfl (IntWalk.i64_in _ ⟨by omega,by omega⟩)) ?_;refine zv 19 rfl (Val.quo rfl rfl (by omega) (by omega) (IntWalk.i64_in _ (Bb1 (by omega) (by omega) (by omega)))) ?_;refine zv 20 rfl (Val.add rfl rfl (IntWalk.i64_in _ (BQ7 (by omega) (by omega) (by omega)))) ?_;refine zw 21 ?_;refine zv 22 rfl (Val.build (parts:=[(0,.tmp 89),(1,.tmp 90)]) rfl Ac8 Ai3 rfl) ?_;refine Ag7 (rs:=[23,28]) (by kernel_rfl) (by simp) (by kernel_rfl) (fun m hm=>?_)
    simp only [List.mem_cons,List.not_mem_nil,or_false] at hm
    rcases hm with rfl | rfl
    ·refine Ac6 rfl (New.buildSlice (parts:=[(0,.tmp 91)]) rfl AF0 Ac8 rfl rfl rfl rfl) rfl rfl rfl (fun b92=>(Aa7 (.cons .here rfl (.cons .here rfl (.cons .here rfl (.cons .here rfl (.cons .here rfl (.cons .here rfl (.cons .here rfl (.cons .here rfl (.cons .here rfl .nil))))))))) (.cons (.there .here) rfl (.cons (.there .here) rfl (.cons (.there .here) rfl (.cons (.there .here) rfl (.cons (.there .here) rfl (.cons (.there .here) rfl (.cons (.there .here) rfl (.cons (.there .here) rfl .nil)))))))) rfl ?_))
     refine Ag7 (rs:=[24,28]) (by kernel_rfl) (by simp) (by kernel_rfl) (fun m hm=>?_)
     simp only [List.mem_cons,List.not_mem_nil,or_false] at hm
     rcases hm with rfl | rfl
     ·refine Ab5 rfl (zF rfl At7) rfl rfl rfl (fun w hm=>Af5 (_,_) [(_,_)] _ _ _ _ w (Sl.one (hm.at (.head _)) rfl) (by simp)) (Aa7 (.cons .here rfl (.cons .here rfl (.cons .here rfl (.cons .here rfl (.cons .here rfl (.cons .here rfl (.cons .here rfl (.cons .here rfl (.cons .here rfl .nil))))))))) (.cons .here rfl (.cons .here rfl (.cons .here rfl (.cons .here rfl (.cons .here rfl (.cons .here rfl (.cons .here rfl (.cons .here rfl (.cons .here rfl .nil))))))))) rfl ?_)
      refine zw 25 ?_;refine zw 26 ?_;refine zw 27 ?_;refine zA 28 ?_;refine Ac6 rfl (New.alloc Ac8) rfl rfl rfl (fun b13=>(Aa7 (.cons (.there .here) rfl (.cons (.there .here) rfl (.cons (.there .here) rfl (.cons (.there .here) rfl (.cons (.there .here) rfl (.cons (.there .here) rfl (.cons (.there .here) rfl (.cons (.there .here) rfl (.cons (.there .here) rfl .nil))))))))) (.cons .here rfl (.cons .here rfl (.cons .here rfl (.cons .here rfl (.cons .here rfl (.cons .here rfl (.cons .here rfl (.cons .here rfl (.cons .here rfl .nil))))))))) rfl ?_))
      refine zA 29 ?_;refine Ac0 rfl (Sto.store rfl rfl .here Af4 rfl rfl) rfl rfl (Aa7 (.cons (.there .here) rfl (.cons (.there .here) rfl (.cons (.there .here) rfl (.cons (.there .here) rfl (.cons (.there .here) rfl (.cons (.there .here) rfl (.cons (.there .here) rfl (.cons (.there .here) rfl (.cons (.there .here) rfl .nil))))))))) (.cons .here rfl (.cons .here rfl (.cons .here rfl (.cons .here rfl (.cons .here rfl (.cons .here rfl (.cons .here rfl (.cons .here rfl (.cons .here rfl .nil))))))))) rfl ?_)
      refine zt ?_;refine zp 30 ?_;refine zd ?_;refine Ae6 ?_;exact Ai9 b92 b13 (Ac1 _) (Pick.refl _)
     refine Ac6 rfl (New.alloc Ac8) rfl rfl rfl (fun b13=>(Aa7 (.cons (.there .here) rfl (.cons (.there .here) rfl (.cons (.there .here) rfl (.cons (.there .here) rfl (.cons (.there .here) rfl (.cons (.there .here) rfl (.cons (.there .here) rfl (.cons (.there .here) rfl (.cons (.there .here) rfl .nil))))))))) (.cons .here rfl (.cons .here rfl (.cons .here rfl (.cons .here rfl (.cons .here rfl (.cons .here rfl (.cons .here rfl (.cons .here rfl (.cons .here rfl .nil))))))))) rfl ?_))
     refine zA 24 ?_;refine Ab5 rfl (zF rfl At7) rfl rfl rfl (fun w hm=>Af5 (_,_) [(_,_)] _ _ _ _ w (Sl.one (hm.at (.tail _ (.head _))) rfl) (by simp)) (Aa7 (.cons (.there .here) rfl (.cons (.there .here) rfl (.cons (.there .here) rfl (.cons (.there .here) rfl (.cons (.there .here) rfl (.cons (.there .here) rfl (.cons (.there .here) rfl (.cons (.there .here) rfl (.cons (.there .here) rfl .nil))))))))) (.cons .here rfl (.cons .here rfl (.cons .here rfl (.cons .here rfl (.cons .here rfl (.cons .here rfl (.cons .here rfl (.cons .here rfl (.cons .here rfl .nil))))))))) rfl ?_)
     refine zw 25 ?_;refine zw 26 ?_;refine zw 27 ?_;refine zA 29 ?_;refine Ac0 rfl (Sto.store rfl rfl .here Af4 rfl rfl) rfl rfl (Aa7 (.cons (.there .here) rfl (.cons (.there .here) rfl (.cons (.there .here) rfl (.cons (.there .here) rfl (.cons (.there .here) rfl (.cons (.there .here) rfl (.cons (.there .here) rfl (.cons (.there .here) rfl (.cons (.there .here) rfl .nil))))))))) (.cons .here rfl (.cons .here rfl (.cons .here rfl (.cons .here rfl (.cons .here rfl (.cons .here rfl (.cons .here rfl (.cons .here rfl (.cons .here rfl .nil))))))))) rfl ?_)
     refine zt ?_;refine zp 30 ?_;refine zd ?_;refine Ae6 ?_;exact Ai9 b92 b13 (zS 14 rfl (zS 13 rfl (zS 95 rfl (zS 94 rfl (zS 68 rfl (zS 93 rfl (zS 92 rfl (zS 91 rfl (zS 90 rfl (zS 89 rfl (zS 88 rfl (zS 87 rfl (zS 86 rfl (zS 85 rfl (zS 84 rfl (zS 83 rfl (zS 82 rfl (zS 81 rfl (zS 80 rfl (zS 79 rfl (zS 78 rfl (zS 77 rfl (zS 76 rfl (zS 75 rfl (zS 74 rfl (zS 73 rfl (zS 72 rfl (zS 71 rfl (zS 70 rfl (zS 69 rfl (Sub.skip rfl (Sub.skip rfl (Sub.skip rfl (Sub.skip rfl (Sub.skip rfl (Sub.skip rfl (Sub.skip rfl (Sub.skip rfl (Sub.skip rfl (Sub.skip rfl (Sub.skip rfl (Sub.skip rfl (Sub.skip rfl (Sub.skip rfl (Sub.skip rfl (Sub.skip rfl (Sub.skip rfl (Sub.skip rfl (Sub.skip rfl (Sub.skip rfl (Sub.skip rfl (Sub.skip rfl (Sub.skip rfl (Sub.skip rfl (Sub.skip rfl (Sub.skip rfl (Sub.skip rfl (Sub.skip rfl (Sub.skip rfl (Sub.skip rfl (Ac1 _))))))))))))))))))))))))))))))))))))))))))))))))))))))))))))) (.cons .here rfl (.cons .here rfl (.cons .here rfl (.cons .here rfl (.cons .here rfl (.cons .here rfl (.cons .here rfl (.cons .here rfl (.cons .here rfl (.cons .here rfl .nil))))))))))
    refine Ac6 rfl (New.alloc Ac8) rfl rfl rfl (fun b13=>(Aa7 (.cons (.there .here) rfl (.cons (.there .here) rfl (.cons (.there .here) rfl (.cons (.there .here) rfl (.cons (.there .here) rfl (.cons (.there .here) rfl (.cons (.there .here) rfl (.cons (.there .here) rfl .nil)))))))) (.cons .here rfl (.cons .here rfl (.cons .here rfl (.cons .here rfl (.cons .here rfl (.cons .here rfl (.cons .here rfl (.cons .here rfl .nil)))))))) rfl ?_))
    refine zA 23 ?_;refine Ac6 rfl (New.buildSlice (parts:=[(0,.tmp 91)]) rfl AF0 Ac8 rfl rfl rfl rfl) rfl rfl rfl (fun b92=>(Aa7 (.cons .here rfl (.cons (.there .here) rfl (.cons (.there .here) rfl (.cons (.there .here) rfl (.cons (.there .here) rfl (.cons (.there .here) rfl (.cons (.there .here) rfl (.cons (.there .here) rfl (.cons (.there .here) rfl .nil))))))))) (.cons (.there .here) rfl (.cons (.there .here) rfl (.cons (.there .here) rfl (.cons (.there .here) rfl (.cons (.there .here) rfl (.cons (.there .here) rfl (.cons (.there .here) rfl (.cons (.there .here) rfl .nil)))))))) rfl ?_))
    refine zA 24 ?_;refine Ab5 rfl (zF rfl At7) rfl rfl rfl (fun w hm=>Af5 (_,_) [(_,_)] _ _ _ _ w (Sl.one (hm.at (.head _)) rfl) (by simp)) (Aa7 (.cons .here rfl (.cons (.there .here) rfl (.cons (.there .here) rfl (.cons (.there .here) rfl (.cons (.there .here) rfl (.cons (.there .here) rfl (.cons (.there .here) rfl (.cons (.there .here) rfl (.cons (.there .here) rfl .nil))))))))) (.cons .here rfl (.cons .here rfl (.cons .here rfl (.cons .here rfl (.cons .here rfl (.cons .here rfl (.cons .here rfl (.cons .here rfl (.cons .here rfl .nil))))))))) rfl ?_)
    refine zw 25 ?_;refine zw 26 ?_;refine zw 27 ?_;refine zA 29 ?_;refine Ac0 rfl (Sto.store rfl rfl (.there .here) Af4 rfl rfl) rfl rfl (Aa7 (.cons .here rfl (.cons (.there .here) rfl (.cons (.there .here) rfl (.cons (.there .here) rfl (.cons (.there .here) rfl (.cons (.there .here) rfl (.cons (.there .here) rfl (.cons (.there .here) rfl (.cons (.there .here) rfl .nil))))))))) (.cons .here rfl (.cons .here rfl (.cons .here rfl (.cons .here rfl (.cons .here rfl (.cons .here rfl (.cons .here rfl (.cons .here rfl (.cons .here rfl .nil))))))))) rfl ?_)
    refine zt ?_;refine zp 30 ?_;refine zd ?_;refine Ae6 ?_;exact Ai9 b92 b13 (zS 14 rfl (zS 13 rfl (zS 95 rfl (zS 94 rfl (zS 68 rfl (zS 93 rfl (zS 92 rfl (zS 91 rfl (zS 90 rfl (zS 89 rfl (zS 88 rfl (zS 87 rfl (zS 86 rfl (zS 85 rfl (zS 84 rfl (zS 83 rfl (zS 82 rfl (zS 81 rfl (zS 80 rfl (zS 79 rfl (zS 78 rfl (zS 77 rfl (zS 76 rfl (zS 75 rfl (zS 74 rfl (zS 73 rfl (zS 72 rfl (zS 71 rfl (zS 70 rfl (zS 69 rfl (Sub.skip rfl (Sub.skip rfl (Sub.skip rfl (Sub.skip rfl (Sub.skip rfl (Sub.skip rfl (Sub.skip rfl (Sub.skip rfl (Sub.skip rfl (Sub.skip rfl (Sub.skip rfl (Sub.skip rfl (Sub.skip rfl (Sub.skip rfl (Sub.skip rfl (Sub.skip rfl (Sub.skip rfl (Sub.skip rfl (Sub.skip rfl (Sub.skip rfl (Sub.skip rfl (Sub.skip rfl (Sub.skip rfl (Sub.skip rfl (Sub.skip rfl (Sub.skip rfl (Sub.skip rfl (Sub.skip rfl (Sub.skip rfl (Sub.skip rfl (Ac1 _))))))))))))))))))))))))))))))))))))))))))))))))))))))))))))) (.cons (.there .here) rfl (.cons .here rfl (.cons .here rfl (.cons .here rfl (.cons .here rfl (.cons .here rfl (.cons .here rfl (.cons .here rfl (.cons .here rfl (.cons .here rfl .nil))))))))))
   refine J2.out (fun b92 b13=>?_)
   refine su ?_;refine zc (zF rfl Bp2) (fun w hm=>Ay1 (_,_) w) ?_;refine Aa9 (Sto.store rfl rfl (.there (.there (.there (.there (.there (.there (.there (.there .here)))))))) Ag5 rfl rfl) rfl rfl ?_;refine Aa9 (Sto.store rfl rfl (.there (.there (.there (.there (.there (.there (.there .here))))))) Ag0 rfl rfl) rfl rfl ?_;refine su ?_;exact As8 An2 Al4 (.r2 rfl (.agg rfl (.tail _ (.tail _ (.tail _ (.tail _ (.tail _ (.tail _ (.tail _ (.tail _ (.head _))))))))) Ag5 rfl) (.one rfl (.tail _ (.tail _ (.tail _ (.tail _ (.tail _ (.tail _ (.tail _ (.head _)))))))) Ag0 rfl)) (by simp [distX,ha18,Af2 hk ht,ok38,c0',b2v,c1'];exact ⟨rfl,rfl⟩)
  intro c1';refine RunC.skip ?_;refine RunE.next ?_;refine RunC.seq ?_
  apply Aq8 (J:=J2 _ _ _ _ _ _) 30 Aj3 (.cons .here rfl (.cons .here rfl (.cons .here rfl (.cons .here rfl (.cons .here rfl (.cons .here rfl (.cons .here rfl (.cons .here rfl .nil))))))))
  ·refine zw 0 ?_
   refine zw 1 ?_;refine zw 2 ?_;refine zw 3 ?_;refine zw 4 ?_;refine zw 5 ?_;refine zw 6 ?_;refine zw 7 ?_;refine zw 8 ?_;refine zw 9 ?_;refine zv 10 rfl (Val.build (parts:=[(0,.tmp 73),(1,.tmp 78)]) rfl Ac8 Ai3 rfl) ?_;refine zw 11 ?_;refine zw 12 ?_;refine zw 13 ?_;refine zv 14 rfl (Ab2 rfl rfl Ah7 (by decide) (by decide)) ?_;refine zw 15 ?_;refine zv 16 rfl (Ab2 rfl rfl Ah7 (by decide) (by decide)) ?_;refine zw 17 ?_;refine zv 18 rfl (Val.add rfl rfl (IntWalk.i64_in _ ⟨by omega,by omega⟩)) ?_;refine zv 19 rfl (Val.quo rfl rfl (by omega) (by omega) (IntWalk.i64_in _ (Bb1 (by omega) (by omega) (by omega)))) ?_;refine zv 20 rfl (Val.add rfl rfl (IntWalk.i64_in _ (BQ7 (by omega) (by omega) (by omega)))) ?_;refine zw 21 ?_;refine zv 22 rfl (Val.build (parts:=[(0,.tmp 89),(1,.tmp 90)]) rfl Ac8 Ai3 rfl) ?_;refine Ag7 (rs:=[23,28]) (by kernel_rfl) (by simp) (by kernel_rfl) (fun m hm=>?_)
   simp only [List.mem_cons,List.not_mem_nil,or_false] at hm
   rcases hm with rfl | rfl
   ·refine Ac6 rfl (New.buildSlice (parts:=[(0,.tmp 91)]) rfl AF0 Ac8 rfl rfl rfl rfl) rfl rfl rfl (fun b92=>(Aa7 (.cons .here rfl (.cons .here rfl (.cons .here rfl (.cons .here rfl (.cons .here rfl (.cons .here rfl (.cons .here rfl (.cons .here rfl (.cons .here rfl .nil))))))))) (.cons (.there .here) rfl (.cons (.there .here) rfl (.cons (.there .here) rfl (.cons (.there .here) rfl (.cons (.there .here) rfl (.cons (.there .here) rfl (.cons (.there .here) rfl (.cons (.there .here) rfl .nil)))))))) rfl ?_))
    refine Ag7 (rs:=[24,28]) (by kernel_rfl) (by simp) (by kernel_rfl) (fun m hm=>?_)
    simp only [List.mem_cons,List.not_mem_nil,or_false] at hm
    rcases hm with rfl | rfl
    ·refine Ab5 rfl (zF rfl At7) rfl rfl rfl (fun w hm=>Af5 (_,_) [(_,_)] _ _ _ _ w (Sl.one (hm.at (.head _)) rfl) (by simp)) (Aa7 (.cons .here rfl (.cons .here rfl (.cons .here rfl (.cons .here rfl (.cons .here rfl (.cons .here rfl (.cons .here rfl (.cons .here rfl (.cons .here rfl .nil))))))))) (.cons .here rfl (.cons .here rfl (.cons .here rfl (.cons .here rfl (.cons .here rfl (.cons .here rfl (.cons .here rfl (.cons .here rfl (.cons .here rfl .nil))))))))) rfl ?_)
     refine zw 25 ?_;refine zw 26 ?_;refine zw 27 ?_;refine zA 28 ?_;refine Ac6 rfl (New.alloc Ac8) rfl rfl rfl (fun b13=>(Aa7 (.cons (.there .here) rfl (.cons (.there .here) rfl (.cons (.there .here) rfl (.cons (.there .here) rfl (.cons (.there .here) rfl (.cons (.there .here) rfl (.cons (.there .here) rfl (.cons (.there .here) rfl (.cons (.there .here) rfl .nil))))))))) (.cons .here rfl (.cons .here rfl (.cons .here rfl (.cons .here rfl (.cons .here rfl (.cons .here rfl (.cons .here rfl (.cons .here rfl (.cons .here rfl .nil))))))))) rfl ?_))
     refine zA 29 ?_;refine Ac0 rfl (Sto.store rfl rfl .here Af4 rfl rfl) rfl rfl (Aa7 (.cons (.there .here) rfl (.cons (.there .here) rfl (.cons (.there .here) rfl (.cons (.there .here) rfl (.cons (.there .here) rfl (.cons (.there .here) rfl (.cons (.there .here) rfl (.cons (.there .here) rfl (.cons (.there .here) rfl .nil))))))))) (.cons .here rfl (.cons .here rfl (.cons .here rfl (.cons .here rfl (.cons .here rfl (.cons .here rfl (.cons .here rfl (.cons .here rfl (.cons .here rfl .nil))))))))) rfl ?_)
     refine zt ?_;refine zp 30 ?_;refine zd ?_;refine Ae6 ?_;exact Ai9 b92 b13 (Ac1 _) (Pick.refl _)
    refine Ac6 rfl (New.alloc Ac8) rfl rfl rfl (fun b13=>(Aa7 (.cons (.there .here) rfl (.cons (.there .here) rfl (.cons (.there .here) rfl (.cons (.there .here) rfl (.cons (.there .here) rfl (.cons (.there .here) rfl (.cons (.there .here) rfl (.cons (.there .here) rfl (.cons (.there .here) rfl .nil))))))))) (.cons .here rfl (.cons .here rfl (.cons .here rfl (.cons .here rfl (.cons .here rfl (.cons .here rfl (.cons .here rfl (.cons .here rfl (.cons .here rfl .nil))))))))) rfl ?_))
    refine zA 24 ?_;refine Ab5 rfl (zF rfl At7) rfl rfl rfl (fun w hm=>Af5 (_,_) [(_,_)] _ _ _ _ w (Sl.one (hm.at (.tail _ (.head _))) rfl) (by simp)) (Aa7 (.cons (.there .here) rfl (.cons (.there .here) rfl (.cons (.there .here) rfl (.cons (.there .here) rfl (.cons (.there .here) rfl (.cons (.there .here) rfl (.cons (.there .here) rfl (.cons (.there .here) rfl (.cons (.there .here) rfl .nil))))))))) (.cons .here rfl (.cons .here rfl (.cons .here rfl (.cons .here rfl (.cons .here rfl (.cons .here rfl (.cons .here rfl (.cons .here rfl (.cons .here rfl .nil))))))))) rfl ?_)
    refine zw 25 ?_;refine zw 26 ?_;refine zw 27 ?_;refine zA 29 ?_;refine Ac0 rfl (Sto.store rfl rfl .here Af4 rfl rfl) rfl rfl (Aa7 (.cons (.there .here) rfl (.cons (.there .here) rfl (.cons (.there .here) rfl (.cons (.there .here) rfl (.cons (.there .here) rfl (.cons (.there .here) rfl (.cons (.there .here) rfl (.cons (.there .here) rfl (.cons (.there .here) rfl .nil))))))))) (.cons .here rfl (.cons .here rfl (.cons .here rfl (.cons .here rfl (.cons .here rfl (.cons .here rfl (.cons .here rfl (.cons .here rfl (.cons .here rfl .nil))))))))) rfl ?_)
    refine zt ?_;refine zp 30 ?_;refine zd ?_;refine Ae6 ?_;exact Ai9 b92 b13 (zS 14 rfl (zS 13 rfl (zS 95 rfl (zS 94 rfl (zS 68 rfl (zS 93 rfl (zS 92 rfl (zS 91 rfl (zS 90 rfl (zS 89 rfl (zS 88 rfl (zS 87 rfl (zS 86 rfl (zS 85 rfl (zS 84 rfl (zS 83 rfl (zS 82 rfl (zS 81 rfl (zS 80 rfl (zS 79 rfl (zS 78 rfl (zS 77 rfl (zS 76 rfl (zS 75 rfl (zS 74 rfl (zS 73 rfl (zS 72 rfl (zS 71 rfl (zS 70 rfl (zS 69 rfl (Sub.skip rfl (Sub.skip rfl (Sub.skip rfl (Sub.skip rfl (Sub.skip rfl (Sub.skip rfl (Sub.skip rfl (Sub.skip rfl (Sub.skip rfl (Sub.skip rfl (Sub.skip rfl (Sub.skip rfl (Sub.skip rfl (Sub.skip rfl (Sub.skip rfl (Sub.skip rfl (Sub.skip rfl (Sub.skip rfl (Sub.skip rfl (Sub.skip rfl (Sub.skip rfl (Sub.skip rfl (Sub.skip rfl (Sub.skip rfl (Sub.skip rfl (Sub.skip rfl (Sub.skip rfl (Sub.skip rfl (Sub.skip rfl (Sub.skip rfl (Ac1 _))))))))))))))))))))))))))))))))))))))))))))))))))))))))))))) (.cons .here rfl (.cons .here rfl (.cons .here rfl (.cons .here rfl (.cons .here rfl (.cons .here rfl (.cons .here rfl (.cons .here rfl (.cons .here rfl (.cons .here rfl .nil))))))))))
   refine Ac6 rfl (New.alloc Ac8) rfl rfl rfl (fun b13=>(Aa7 (.cons (.there .here) rfl (.cons (.there .here) rfl (.cons (.there .here) rfl (.cons (.there .here) rfl (.cons (.there .here) rfl (.cons (.there .here) rfl (.cons (.there .here) rfl (.cons (.there .here) rfl .nil)))))))) (.cons .here rfl (.cons .here rfl (.cons .here rfl (.cons .here rfl (.cons .here rfl (.cons .here rfl (.cons .here rfl (.cons .here rfl .nil)))))))) rfl ?_))
   refine zA 23 ?_;refine Ac6 rfl (New.buildSlice (parts:=[(0,.tmp 91)]) rfl AF0 Ac8 rfl rfl rfl rfl) rfl rfl rfl (fun b92=>(Aa7 (.cons .here rfl (.cons (.there .here) rfl (.cons (.there .here) rfl (.cons (.there .here) rfl (.cons (.there .here) rfl (.cons (.there .here) rfl (.cons (.there .here) rfl (.cons (.there .here) rfl (.cons (.there .here) rfl .nil))))))))) (.cons (.there .here) rfl (.cons (.there .here) rfl (.cons (.there .here) rfl (.cons (.there .here) rfl (.cons (.there .here) rfl (.cons (.there .here) rfl (.cons (.there .here) rfl (.cons (.there .here) rfl .nil)))))))) rfl ?_))
   refine zA 24 ?_;refine Ab5 rfl (zF rfl At7) rfl rfl rfl (fun w hm=>Af5 (_,_) [(_,_)] _ _ _ _ w (Sl.one (hm.at (.head _)) rfl) (by simp)) (Aa7 (.cons .here rfl (.cons (.there .here) rfl (.cons (.there .here) rfl (.cons (.there .here) rfl (.cons (.there .here) rfl (.cons (.there .here) rfl (.cons (.there .here) rfl (.cons (.there .here) rfl (.cons (.there .here) rfl .nil))))))))) (.cons .here rfl (.cons .here rfl (.cons .here rfl (.cons .here rfl (.cons .here rfl (.cons .here rfl (.cons .here rfl (.cons .here rfl (.cons .here rfl .nil))))))))) rfl ?_)
   refine zw 25 ?_;refine zw 26 ?_;refine zw 27 ?_;refine zA 29 ?_;refine Ac0 rfl (Sto.store rfl rfl (.there .here) Af4 rfl rfl) rfl rfl (Aa7 (.cons .here rfl (.cons (.there .here) rfl (.cons (.there .here) rfl (.cons (.there .here) rfl (.cons (.there .here) rfl (.cons (.there .here) rfl (.cons (.there .here) rfl (.cons (.there .here) rfl (.cons (.there .here) rfl .nil))))))))) (.cons .here rfl (.cons .here rfl (.cons .here rfl (.cons .here rfl (.cons .here rfl (.cons .here rfl (.cons .here rfl (.cons .here rfl (.cons .here rfl .nil))))))))) rfl ?_)
   refine zt ?_;refine zp 30 ?_;refine zd ?_;refine Ae6 ?_;exact Ai9 b92 b13 (zS 14 rfl (zS 13 rfl (zS 95 rfl (zS 94 rfl (zS 68 rfl (zS 93 rfl (zS 92 rfl (zS 91 rfl (zS 90 rfl (zS 89 rfl (zS 88 rfl (zS 87 rfl (zS 86 rfl (zS 85 rfl (zS 84 rfl (zS 83 rfl (zS 82 rfl (zS 81 rfl (zS 80 rfl (zS 79 rfl (zS 78 rfl (zS 77 rfl (zS 76 rfl (zS 75 rfl (zS 74 rfl (zS 73 rfl (zS 72 rfl (zS 71 rfl (zS 70 rfl (zS 69 rfl (Sub.skip rfl (Sub.skip rfl (Sub.skip rfl (Sub.skip rfl (Sub.skip rfl (Sub.skip rfl (Sub.skip rfl (Sub.skip rfl (Sub.skip rfl (Sub.skip rfl (Sub.skip rfl (Sub.skip rfl (Sub.skip rfl (Sub.skip rfl (Sub.skip rfl (Sub.skip rfl (Sub.skip rfl (Sub.skip rfl (Sub.skip rfl (Sub.skip rfl (Sub.skip rfl (Sub.skip rfl (Sub.skip rfl (Sub.skip rfl (Sub.skip rfl (Sub.skip rfl (Sub.skip rfl (Sub.skip rfl (Sub.skip rfl (Sub.skip rfl (Ac1 _))))))))))))))))))))))))))))))))))))))))))))))))))))))))))))) (.cons (.there .here) rfl (.cons .here rfl (.cons .here rfl (.cons .here rfl (.cons .here rfl (.cons .here rfl (.cons .here rfl (.cons .here rfl (.cons .here rfl (.cons .here rfl .nil))))))))))
  refine J2.out (fun b92 b13=>?_)
  refine su ?_;refine zc (zF rfl Bp2) (fun w hm=>Ay1 (_,_) w) ?_;refine Aa9 (Sto.store rfl rfl (.there (.there (.there (.there (.there (.there (.there (.there .here)))))))) Ag5 rfl rfl) rfl rfl ?_;refine Aa9 (Sto.store rfl rfl (.there (.there (.there (.there (.there (.there (.there .here))))))) Ag0 rfl rfl) rfl rfl ?_;refine su ?_;exact As8 An2 Al4 (.r2 rfl (.agg rfl (.tail _ (.tail _ (.tail _ (.tail _ (.tail _ (.tail _ (.tail _ (.tail _ (.head _))))))))) Ag5 rfl) (.one rfl (.tail _ (.tail _ (.tail _ (.tail _ (.tail _ (.tail _ (.tail _ (.head _)))))))) Ag0 rfl)) (by simp [distX,ha18,Af2 hk ht,ok38,c0',b2v,Int.not_lt.2 c1'];refine ⟨rfl,?_⟩;show p.far=min p.far p.far;omega)
end Go.Proofs.YtnmkdiagbkkmaabGreatDoor
namespace Go.Proofs.YtnmkdiagbkkmaabGreatDoor
open Go Go.Eng Go.Pw1

theorem Ap1 (n lo hi:Int) (W:World):Calls Tryz.prog 115 #[.int .i64 n,.int .i64 lo,.int .i64 hi] W (Pure (.bool (within n lo hi)) W):=by
  refine Aa0 Tryz.func115 rfl rfl ?_;refine st ?_
  refine Ab3 (dj:=10) (dp:=14) 4 rfl (fun g10=>by
    have g10':=g10;try simp only [nH] at g10'
    refine sv ?_;exact zs g10
  ) (fun g10=>by
    have g10':=g10;try simp only [nH] at g10'
    iterate 3 refine Ab8 rfl rfl rfl ?_
    refine sv ?_;exact zs g10
  ) ?_
  refine su ?_;exact Aa4 (.r1 rfl (.tmp rfl)) (by first | rfl | simp)
theorem Au9 (x1 x2 x3 x4:Int) (W:World):Calls Tryz.prog 113 #[.agg #[.int .i64 x1,.int .i64 x2,.int .i64 x3,.int .i64 x4]] W (Pure (.agg #[.int .i64 x1,.int .i64 x2,.int .i64 x3,.int .i64 x4]) W):=by
  refine Aa0 Tryz.func113 rfl rfl ?_;refine st ?_;refine zn (New.box rfl) (fun b1=>?_)
  refine zn (New.alloc Ax8) (fun b2=>?_)
  refine lv (Val.build (parts:=[(0,.tmp 4),(1,.tmp 6),(2,.tmp 8),(3,.tmp 10)]) rfl Ax8 Bg6 rfl) ?_;refine Aa9 (Sto.store rfl rfl .here Ar4 rfl rfl) rfl rfl ?_;refine su ?_;exact Aa4 (.r1 rfl (.agg rfl (.head _) Ar4 rfl)) (by first | rfl | simp)
theorem BI9 (x1 x2 x3 x4:Int) (W:World):Calls Tryz.prog 188 #[.agg #[.int .i64 x1,.int .i64 x2,.int .i64 x3,.int .i64 x4]] W (Pure (.agg #[.int .i64 x1,.int .i64 x2,.int .i64 x3,.int .i64 x4]) W):=by
  refine Aa0 Tryz.func188 rfl rfl ?_;refine st ?_;refine zn (New.box rfl) (fun b1=>?_)
  refine zn (New.alloc An6) (fun b2=>?_)
  iterate 4 refine lu (Ab2 rfl rfl Ah8 (by decide) (by decide)) ?_
  refine lv (Val.build (parts:=[(0,.tmp 4),(1,.tmp 6),(2,.tmp 8),(3,.tmp 10)]) rfl An6 AF2 rfl) ?_;refine Aa9 (Sto.store rfl rfl .here AE8 rfl rfl) rfl rfl ?_;refine su ?_;exact Aa4 (.r1 rfl (.agg rfl (.head _) AE8 rfl)) (by first | rfl | simp)
theorem AR1 (b:Int×Int) (W:World):Calls Tryz.prog 196 #[.agg #[.int .i64 b.1,.int .i64 b.2]] W (Pure (.bool (decide (b.2 < b.1))) W):=by
  refine Aa0 Tryz.func196 rfl rfl ?_;refine st ?_;refine zn (New.box rfl) (fun b1=>?_)
  exact Aa4 (.r1 rfl (.tmp rfl)) (by first | rfl | simp)
theorem AY4 (b:Int×Int) (W:World):Calls Tryz.prog 197 #[.agg #[.int .i64 b.1,.int .i64 b.2]] W (Pure (.agg #[.int .i64 b.1,.int .i64 b.2]) W):=by
  refine Aa0 Tryz.func197 rfl rfl ?_;refine st ?_;refine zn (New.box rfl) (fun b1=>?_)
  refine zn (New.alloc Ae2) (fun b2=>?_)
  refine lv (Val.build (parts:=[(0,.tmp 4),(1,.tmp 6)]) rfl Ae2 Al9 rfl) ?_;refine Aa9 (Sto.store rfl rfl .here Ag5 rfl rfl) rfl rfl ?_;refine su ?_;exact Aa4 (.r1 rfl (.agg rfl (.head _) Ag5 rfl)) (by first | rfl | simp)
theorem BG7 (n:Int) (W:World):Calls Tryz.prog 164 #[.int .i64 n] W (Pure (.bool (badM n)) W):=by
  refine Aa0 Tryz.func164 rfl rfl ?_;refine st ?_;refine zc (zF rfl Bb0) (fun w hm=>Ap1 _ _ _ w) ?_;exact Aa4 (.r1 rfl (.tmp rfl)) (by first | rfl | simp)
theorem AM4 (c:Cd) (q:Option Addr) (cap:Nat) (n:Int) (b:Nat) (W:World) (hb:W.heap[b]? = some (.cells (c.cells q cap).toArray 28 (0,0))):Calls Tryz.prog 114 #[.int .i64 n,.pointer (some ⟨b,0,none⟩)] W (Pure (.bool (badT c n)) W):=by
  refine Aa0 Tryz.func114 rfl rfl ?_;refine su ?_;refine lv (Aa2 rfl hb (by simp) Ag4 rfl) ?_;refine zc (zF rfl Bb0) (fun w hm=>Ap1 _ _ _ w) ?_;exact Aa4 (.r1 rfl (.tmp rfl)) (by first | rfl | simp)
theorem AT3 (f:Int→Bool) (l:List Int) (q:Option Addr) (b o cap:Nat) (fn:FuncId) (cp:List Value) (W:World) (hS:Sl W q b o 1 (l.map fun n=>[.int .i64 n])) (hl:l.length≤100000000000) (he:Enters Tryz.prog fn)
    (hf:∀ t∈l,∀ w,Mem W [] [] w→Calls Tryz.prog fn ([Value.int .i64 t]++cp).toArray w (Pure (.bool (f t)) w)) :
    Calls Tryz.prog 165 #[.slice q l.length cap,.func (.func fn) #[] cp.toArray] W (Pure (.int .i64 (idxF f l)) W):=by
  refine Aa0 Tryz.func165 rfl rfl ?_;refine su ?_;refine Ae5 (l.length) (fun k q=>(8,.int .i64 (k:Int))::q) (fun _=>_) (fun _=>[]) (fun k=>(l.take k).any f=false) (by simp) rfl (zE 8 rfl rfl (zS 0 rfl (zS 1 rfl (zS 7 rfl (Sub.nil _))))) .nil ?_;intro k kN kI;refine st ?_;refine cn rfl ?_ ?_
  ·intro c0'
   have hk:k < l.length:=by omega
   refine st ?_;refine lv (Aa8 rfl rfl Ah5 (by omega) (by omega) (hS.ptrM hk)) ?_;refine lv (Ab0 rfl (fun w hm=>hS.loadM1 (by decide) hm (by simp) Ag4 hk (v:=.int .i64 l[k]) rfl)) ?_;refine Ab7 (Ac5 rfl rfl he) rfl rfl rfl (fun w hm=>hf _ (List.getElem_mem hk) w hm.drop) ?_;refine st ?_;refine cn rfl ?_ ?_
   ·intro c1'
    refine su ?_;exact Aa4 (.r1 rfl (.tmp rfl)) (by rw [AC8 f l k hk kI c1'])
   intro c1';refine st ?_;refine lv (Val.add rfl rfl (IntWalk.i64_in _ ⟨by omega,by omega⟩)) ?_;exact Ad0 (by omega) (Ay9 hk kI c1') rfl (zE 8 rfl rfl (zS 0 rfl (zS 1 rfl (zS 7 rfl (Sub.nil _))))) .nil
  intro c0';obtain rfl:k=l.length:=by omega
  rw [List.take_length] at kI;refine RunC.exit ?_;refine su ?_;refine Ab1 ?_;refine su ?_;exact Aa4 (.r1 rfl (.tmp rfl)) (by rw [Aw8 f l kI])
theorem Ao0 (f:Int→Bool) (l:List Int) (q:Option Addr) (b o cap:Nat) (fn:FuncId) (cp:List Value) (W:World) (hS:Sl W q b o 1 (l.map fun n=>[.int .i64 n])) (hl:l.length≤100000000000) (he:Enters Tryz.prog fn)
    (hf:∀ t∈l,∀ w,Mem W [] [] w→Calls Tryz.prog fn ([Value.int .i64 t]++cp).toArray w (Pure (.bool (f t)) w)) :
    Calls Tryz.prog 116 #[.slice q l.length cap,.func (.func fn) #[] cp.toArray] W (Pure (.bool (l.any f)) W):=by
  refine Aa0 Tryz.func116 rfl rfl ?_;refine st ?_;refine zc (zF rfl CX8) (fun w hm=>AT3 f l q b o cap fn cp w (hS.mono (by decide) hm (by simp)) hl he (fun t ht w2 hm2=>hf t ht w2 ((hm.drop).pass hm2))) ?_;exact Aa4 (.r1 rfl (.tmp rfl)) (by rw [← AI2])
theorem AR4 (c:Cd) (q:Option Addr) (b o cap:Nat) (W:World) (hS:Sl W q b o 9 (c.p.things.map Th.cells)) (hl:c.p.things.length≤100000000000) :
    Calls Tryz.prog 112 #[c.v q cap] W (Pure (.tuple #[.bool (cardIs c),.int .i64 (powerX c.p).2]) W):=by
  refine Aa0 Tryz.func112 rfl rfl ?_;refine st ?_;refine zn (New.box rfl) (fun b1=>?_)
  refine zc (zF rfl Cr9) (fun w hm=>Bd2 c.p q b o cap w (hS.mono (by decide) hm (by simp)) hl) ?_;refine zn (New.alloc Ae2) (fun b4=>?_)
  refine Aa9 (Sto.store rfl rfl .here Ag5 rfl rfl) rfl rfl ?_;refine su ?_;refine zc (zF rfl Bb0) (fun w hm=>Ap1 _ _ _ w) ?_
  refine Ab3 (dj:=18) (dp:=22) 4 rfl (fun g18=>by
    have g18':=g18;try simp only [nH] at g18'
    refine su ?_;refine Ab7 (zF rfl Bb0) rfl rfl rfl (fun w hm=>Ap1 _ _ _ w) ?_;refine sv ?_;exact zs g18
  ) (fun g18=>by
    have g18':=g18;try simp only [nH] at g18'
    iterate 3 refine Ab8 rfl rfl rfl ?_
    refine sv ?_;exact zs g18
  ) ?_
  refine st ?_
  refine Ab3 (dj:=23) (dp:=27) 4 rfl (fun g23=>by
    have g23':=g23;try simp only [nH] at g23'
    refine su ?_;refine Ab7 (zF rfl Bb0) rfl rfl rfl (fun w hm=>Ap1 _ _ _ w) ?_;refine sv ?_;exact zs g23
  ) (fun g23=>by
    have g23':=g23;try simp only [nH] at g23'
    iterate 3 refine Ab8 rfl rfl rfl ?_
    refine sv ?_;exact zs g23
  ) ?_
  refine su ?_
  refine Ab3 (dj:=32) (dp:=40) 8 rfl (fun g32=>by
    have g32':=g32;try simp only [nH] at g32'
    refine lv (Val.fieldAddr rfl Ay7) ?_;refine lv (Val.fieldAddr rfl Ay8) ?_;refine lv (Ab6 rfl (.tail _ (.head _)) Ag4 rfl) ?_;refine lv (Val.fieldAddr rfl Ay7) ?_;refine lv (Val.fieldAddr rfl Am5) ?_;refine Ac7 (Ab6 rfl (.tail _ (.head _)) Ag4 rfl) rfl rfl rfl ?_;refine sv ?_;exact zs g32
  ) (fun g32=>by
    have g32':=g32;try simp only [nH] at g32'
    iterate 7 refine Ab8 rfl rfl rfl ?_
    refine sv ?_;exact zs g32
  ) ?_
  refine st ?_
  refine Ab3 (dj:=41) (dp:=46) 5 rfl (fun g41=>by
    have g41':=g41;try simp only [nH] at g41'
    refine lv (Val.fieldAddr rfl Ay7) ?_;refine lv (Val.fieldAddr rfl Am5) ?_;refine Ac7 (Ab6 rfl (.tail _ (.head _)) Ag4 rfl) rfl rfl rfl ?_;refine sv ?_;exact zs g41
  ) (fun g41=>by
    have g41':=g41;try simp only [nH] at g41'
    iterate 4 refine Ab8 rfl rfl rfl ?_
    refine sv ?_;exact zs g41
  ) ?_
  refine st ?_
  refine Ab3 (dj:=49) (dp:=51) 2 rfl (fun g49=>by
    have g49':=g49;try simp only [nH] at g49'
    refine sv ?_;exact zs g49
  ) (fun g49=>by
    have g49':=g49;try simp only [nH] at g49'
    refine Ab8 rfl rfl rfl ?_;refine sv ?_;exact zs g49
  ) ?_
  refine st ?_
  refine Ab3 (dj:=52) (dp:=54) 2 rfl (fun g52=>by
    have g52':=g52;try simp only [nH] at g52'
    refine sv ?_;exact zs g52
  ) (fun g52=>by
    have g52':=g52;try simp only [nH] at g52'
    refine Ab8 rfl rfl rfl ?_;refine sv ?_;exact zs g52
  ) ?_
  refine st ?_
  refine Ab3 (dj:=55) (dp:=68) 13 rfl (fun g55=>by
    have g55':=g55;try simp only [nH] at g55'
    refine su ?_;refine zn (New.buildSlice (parts:=[(0,.tmp 57),(1,.tmp 59),(2,.tmp 61),(3,.tmp 63)]) rfl Ah5 Ax7 rfl rfl rfl rfl) (fun b64=>?_)
    refine Ab7 (zF rfl BI8) rfl rfl rfl (fun w hm=>Ao0 badM [c.prism,c.squeeze,c.front,c.deep] (some ⟨b64,0,none⟩) b64 0 4 164 [] w (Sl.row1 (hm.at (.head _))) (by simp) CX9 (fun n _ w2 _=>BG7 n w2)) ?_;refine sv ?_;exact Af8 (Sub.cons rfl (Sub.skip rfl (Sub.skip rfl (Sub.skip rfl (Sub.skip rfl (Sub.skip rfl (Sub.skip rfl (Sub.skip rfl (Sub.skip rfl (Sub.skip rfl (Sub.skip rfl (Sub.skip rfl (Sub.skip rfl (Sub.skip rfl (Ah3 rfl (by rw [g55]) (Ac1 _)))))))))))))))) (.cons _ (List.Sublist.refl _))
  ) (fun g55=>by
    have g55':=g55;try simp only [nH] at g55'
    iterate 12 refine Ab8 rfl rfl rfl ?_
    refine sv ?_;exact zs g55
  ) ?_
  refine su ?_;exact Aa4 (.r2 rfl (.tmp rfl) (.tmp rfl)) (by simp [cardIs,sizesM,eyesM,Bool.and_assoc])
theorem CC1 (p:Pr) (k:Nat):mIdx (entsV (seenK p k)) (k:Int)=none:=Ck9 fun e he=>by
  obtain ⟨x,hx,rfl⟩:=List.mem_map.1 he;obtain ⟨j,rfl,hj,_⟩:=AL7 p k x hx;simp only
  omega
theorem Ar0 (c:Cd) (l:List Tr) (k:Int) (hop:openM c l=k) (hk:k ≠ 0) (q:Option Addr) (b o cap:Nat) (q2:Option Addr) (b2 o2 cap2:Nat) (W:World) (hS:Sl W q b o 9 (c.p.things.map Th.cells)) (hl:c.p.things.length≤100000000000)
    (hL:Sl W q2 b2 o2 4 (l.map Tr.cells)) (hl2:l.length≤100000):Calls Tryz.prog 60 #[c.v q cap,.slice q2 l.length cap2] W (Pure (.tuple #[.pointer none,.int .i64 k]) W):=by
  refine Aa0 Tryz.func60 rfl rfl ?_;refine st ?_;refine zn (New.box rfl) (fun b2=>?_)
  refine zc (zF rfl Cs3) (fun w hm=>AR4 c q b o cap w (hS.mono (by decide) hm (by simp)) hl) ?_;refine cn rfl ?_ ?_
  ·intro c0'
   refine su ?_;exact Aa4 (.r2 rfl (.tmp rfl) (.tmp rfl)) (by rw [← hop];simp [openM,c0'])
  intro c0';have hci:=AB1 c0';have k2:=hci.1.c2;refine su ?_;refine Ae5 (l.length) (fun k_ q=>(27,.int .i64 (k_:Int))::q) (fun _=>_) (fun _=>[]) (fun k_=>(l.take k_).all (trIs c)=true) (by simp) rfl (zE 27 rfl rfl (zS 2 rfl (zS 4 rfl (zS 5 rfl (zS 7 rfl (zS 25 rfl (zS 26 rfl (Sub.nil _)))))))) (.cons .here rfl .nil) ?_;intro k_ k_N k_I;refine st ?_;refine cn rfl ?_ ?_
  ·intro c1'
   have hkl:k_ < l.length:=by omega
   obtain ⟨t,ht⟩:∃ t,l[k_]=t:=⟨_,rfl⟩;refine st ?_;refine lv (Aa8 rfl rfl AX2 (by omega) (by omega) (hL.ptrM hkl)) ?_;refine lv (Ab0 rfl (fun w hm=>hL.loadX (by decide) hm (by simp) AE8 hkl ht)) ?_;refine zn (New.alloc An6) (fun b9=>?_)
   refine Aa9 (Sto.store rfl rfl .here AE8 rfl rfl) rfl rfl ?_;refine su ?_;refine zc (zF rfl Bp6) (fun w hm=>Au9 _ _ _ _ w) ?_;refine zn (New.alloc Ax8) (fun b10=>?_)
   refine Aa9 (Sto.store rfl rfl .here Ar4 rfl rfl) rfl rfl ?_;refine st ?_;refine lv (Az1 rfl Ah8) ?_;refine zc (zF rfl BI8) (fun w hm=>Ao0 (badT c) [t.ll,t.lr,t.rl,t.rr] (some ⟨b10,0,none⟩) b10 0 4 114 [_] w (Sl.row1 (hm.at (.head _))) (by simp) Cs2 (fun n _ w2 hm2=>AM4 c q cap n _ w2 (hm2.old_at (hm.at (.tail _ (.tail _ (.head _)))) (by simp)))) ?_
   refine Ad4 (dj:=37) (dp:=49) 12 rfl (fun g37=>by
     have g37':=g37;try simp only [nH] at g37'
     obtain ⟨t1,t2,t3,t4,t5,t6,t7,t8⟩:=Cu6 g37';refine lu (Ab2 rfl rfl Ah8 (by decide) (by decide)) ?_;refine lu (Ab2 rfl rfl Ah8 (by decide) (by decide)) ?_;refine lv (Val.add rfl rfl (IntWalk.i64_in _ ⟨by omega,by omega⟩)) ?_;refine lu (Ab2 rfl rfl Ah8 (by decide) (by decide)) ?_;refine lu (Ab2 rfl rfl Ah8 (by decide) (by decide)) ?_;refine Ac7 (Val.add rfl rfl (IntWalk.i64_in _ ⟨by omega,by omega⟩)) rfl rfl rfl ?_;refine sv ?_;exact zs g37
   ) (fun g37=>by
     have g37':=g37;try simp only [nH] at g37'
     iterate 11 refine Ab8 rfl rfl rfl ?_
     refine sv ?_;exact zs g37
   ) ?_
   refine st ?_;refine cn rfl ?_ ?_
   ·intro c2'
    have htr:trIs c t=false:=by (first | (simp [trIs] at c2' ⊢;grind) | simp_all [trIs])
    refine su ?_;exact Aa4 (.r2 rfl (.tmp rfl) (.tmp rfl)) (by rw [← hop];simp [openM,c0',Da3 (f:=trIs c) hkl (by rw [ht];exact htr)])
   intro c2';have htr:trIs c t=true:=by simp_all [trIs]
   refine st ?_;refine lv (Val.add rfl rfl (IntWalk.i64_in _ ⟨by omega,by omega⟩)) ?_;exact Ad0 (by omega) (CK3 hkl k_I (by rw [ht];exact htr)) rfl (zE 27 rfl rfl (zS 2 rfl (zS 4 rfl (zS 5 rfl (zS 7 rfl (zS 25 rfl (zS 26 rfl (Sub.nil _)))))))) (.cons (.there (.there .here)) rfl .nil)
  intro c1';obtain rfl:k_=l.length:=by omega
  rw [List.take_length] at k_I;refine RunC.exit ?_;refine su ?_;refine Ab1 ?_;refine RunE.next ?_;refine RunC.seq ?_;refine csr ?_;refine vp rfl rfl rfl rfl ?_;refine vp rfl rfl rfl rfl ?_;refine nnx ?_;have h2k:(powerX c.p).2=k:=by rw [← hop];simp [openM,c0',k_I]
  refine RunC.cond rfl ?_ (fun h=>absurd h (by simp [h2k,hk]))
  intro c3;clear c3;refine su ?_;exact Aa4 (.r2 rfl (.tmp rfl) (.tmp rfl)) (by rw [← hop];simp [openM,c0',k_I])
abbrev cdO (c:Cd) (q:Option Addr) (cap m:Nat):Obj:=.cells (cdCells c q cap m).toArray 142 (0,0)
theorem AC7 (c:Cd) (l:List Tr) (h:openM c l=0) (q:Option Addr) (b o cap:Nat) (q2:Option Addr) (b2 o2 cap2:Nat) (W:World) (hS:Sl W q b o 9 (c.p.things.map Th.cells)) (hl:c.p.things.length≤100000000000)
    (hL:Sl W q2 b2 o2 4 (l.map Tr.cells)) (hl2:l.length≤100000):Calls Tryz.prog 60 #[c.v q cap,.slice q2 l.length cap2] W
    (News (fun b:Nat×Nat=>.tuple #[.pointer (some ⟨b.1,0,none⟩),.int .i64 0]) (fun b=>[(b.1,cdO c q cap b.2),(b.2,mapO (mEnts c.p))]) W):=by
  obtain ⟨h1,h2,h3⟩:=AM3 h;have hci:=AB1 h1;have k2:=hci.1.c2;refine Aa0 Tryz.func60 rfl rfl ?_;refine st ?_;refine zn (New.box rfl) (fun b2=>?_)
  refine zc (zF rfl Cs3) (fun w hm=>AR4 c q b o cap w (hS.mono (by decide) hm (by simp)) hl) ?_;refine RunC.cond rfl (fun h=>absurd h (by simp [h1])) ?_;intro c0;clear c0;refine su ?_;refine Ae5 (l.length) (fun k_ q=>(27,.int .i64 (k_:Int))::q) (fun _=>_) (fun _=>[]) (fun _=>True) trivial rfl (zE 27 rfl rfl (zS 2 rfl (zS 4 rfl (zS 5 rfl (zS 7 rfl (zS 25 rfl (zS 26 rfl (Sub.nil _)))))))) (.cons .here rfl .nil) ?_;intro k_ k_N k_I;clear k_I;refine st ?_;refine cn rfl ?_ ?_
  ·intro c1'
   have hkl:k_ < l.length:=by omega
   obtain ⟨t,ht⟩:∃ t,l[k_]=t:=⟨_,rfl⟩;have htr:trIs c t=true:=by rw [← ht];exact List.all_eq_true.1 h2 _ (List.getElem_mem hkl)
   obtain ⟨⟨t1,t2,t3,t4,t5,t6,t7,t8⟩,t9⟩:=AW7 htr;refine st ?_;refine lv (Aa8 rfl rfl AX2 (by omega) (by omega) (hL.ptrM hkl)) ?_;refine lv (Ab0 rfl (fun w hm=>hL.loadX (by decide) hm (by simp) AE8 hkl ht)) ?_;refine zn (New.alloc An6) (fun b9=>?_)
   refine Aa9 (Sto.store rfl rfl .here AE8 rfl rfl) rfl rfl ?_;refine su ?_;refine zc (zF rfl Bp6) (fun w hm=>Au9 _ _ _ _ w) ?_;refine zn (New.alloc Ax8) (fun b10=>?_)
   refine Aa9 (Sto.store rfl rfl .here Ar4 rfl rfl) rfl rfl ?_;refine st ?_;refine lv (Az1 rfl Ah8) ?_;refine zc (zF rfl BI8) (fun w hm=>Ao0 (badT c) [t.ll,t.lr,t.rl,t.rr] (some ⟨b10,0,none⟩) b10 0 4 114 [_] w (Sl.row1 (hm.at (.head _))) (by simp) Cs2 (fun n _ w2 hm2=>AM4 c q cap n _ w2 (hm2.old_at (hm.at (.tail _ (.tail _ (.head _)))) (by simp)))) ?_
   refine Ad4 (dj:=37) (dp:=49) 12 rfl (fun g37=>by
     have g37':=g37;try simp only [nH] at g37'
     refine lu (Ab2 rfl rfl Ah8 (by decide) (by decide)) ?_;refine lu (Ab2 rfl rfl Ah8 (by decide) (by decide)) ?_;refine lv (Val.add rfl rfl (IntWalk.i64_in _ ⟨by omega,by omega⟩)) ?_;refine lu (Ab2 rfl rfl Ah8 (by decide) (by decide)) ?_;refine lu (Ab2 rfl rfl Ah8 (by decide) (by decide)) ?_;refine Ac7 (Val.add rfl rfl (IntWalk.i64_in _ ⟨by omega,by omega⟩)) rfl rfl rfl ?_;refine sv ?_;exact zs g37
   ) (fun g37=>by
     have g37':=g37;try simp only [nH] at g37'
     iterate 11 refine Ab8 rfl rfl rfl ?_
     refine sv ?_;exact zs g37
   ) ?_
   refine st ?_;refine RunC.cond rfl (fun h=>absurd h (by simp_all [trIs])) ?_;intro c2;clear c2;refine st ?_;refine lv (Val.add rfl rfl (IntWalk.i64_in _ ⟨by omega,by omega⟩)) ?_;exact Ad0 (by omega) trivial rfl (zE 27 rfl rfl (zS 2 rfl (zS 4 rfl (zS 5 rfl (zS 7 rfl (zS 25 rfl (zS 26 rfl (Sub.nil _)))))))) (.cons (.there (.there .here)) rfl .nil)
  intro c1';obtain rfl:k_=l.length:=by omega
  refine RunC.exit ?_;refine su ?_;refine Ab1 ?_;refine st ?_;refine RunC.cond rfl (fun h=>absurd h (by simp [h3])) ?_;intro c3;clear c3;refine su ?_;refine zn New.makeMap (fun b55=>?_)
  refine lv (Val.build (parts:=[(0,.tmp 54),(1,.tmp 55)]) rfl Cy0 BV9 rfl) ?_;refine zn (New.box rfl) (fun b57=>?_)
  refine Ae5 (c.p.things.length) (fun k q=>(62,.int .i64 (k:Int))::q) (fun _=>_) (fun k=>[(b55,mapO (entsV (seenK c.p k)))]) (fun _=>True) trivial rfl (zE 62 rfl rfl (zS 2 rfl (zS 12 rfl (zS 61 rfl (Sub.nil _))))) (.cons (.there .here) rfl (.cons .here rfl (.cons .here rfl .nil))) ?_;intro k kN kI;clear kI;refine st ?_;refine cn rfl ?_ ?_
  ·intro c4'
   have hk:k < c.p.things.length:=by omega
   refine su ?_;refine zc (zF rfl Cs1) (fun w hm=>BB1 c.p _ q b o cap w (hS.mono (by decide) hm (by simp)) hl) ?_;refine cn rfl ?_ ?_
   ·intro c5'
    refine su ?_;refine zc (zF rfl CZ1) (fun w hm=>BL2 c.p _ q b o cap w (hS.mono (by decide) hm (by simp)) hl) ?_;refine zn (New.alloc Ae2) (fun b16=>?_)
    refine Aa9 (Sto.store rfl rfl .here Ag5 rfl rfl) rfl rfl ?_;refine st ?_;refine Ac4 10 Aj3 (.cons .here rfl (.cons (.there .here) rfl (.cons (.there .here) rfl .nil))) ?_;refine zw 0 ?_;refine zw 1 ?_;refine zw 2 ?_;refine zw 3 ?_;refine zw 4 ?_;refine zw 5 ?_;refine zw 6 ?_;refine zw 7 ?_;refine zw 8 ?_;refine zv 9 rfl (Val.build (parts:=[(0,.tmp 87),(1,.tmp 89)]) rfl Aj0 Ao5 rfl) ?_;refine zt ?_;refine zB 10 ?_;refine Ac0 rfl (Ca2 rfl rfl rfl (.there .here) Ay4 (CC1 c.p k)) rfl rfl (Ab9 ?_)
    refine zd ?_;refine st ?_;refine lv (Val.add rfl rfl (IntWalk.i64_in _ ⟨by omega,by omega⟩)) ?_;exact Ad0 (by omega) trivial rfl (zE 62 rfl rfl (zS 2 rfl (zS 12 rfl (zS 61 rfl (Sub.nil _))))) (.cons (.there .here) (by first | (rw [AL6 c5'];simp [entsV];rfl) | (rw [AL6 c5'];simp [entsV]) | (rw [BN9 c5'])) (.cons (.there .here) rfl (.cons (.there .here) rfl .nil)))
   intro c5';refine st ?_;refine lv (Val.add rfl rfl (IntWalk.i64_in _ ⟨by omega,by omega⟩)) ?_;exact Ad0 (by omega) trivial rfl (zE 62 rfl rfl (zS 2 rfl (zS 12 rfl (zS 61 rfl (Sub.nil _))))) (.cons .here (by first | (rw [AL6 c5'];simp [entsV];rfl) | (rw [AL6 c5'];simp [entsV]) | (rw [BN9 c5'])) (.cons .here rfl (.cons .here rfl .nil)))
  intro c4';obtain rfl:k=c.p.things.length:=by omega
  refine RunC.exit ?_;refine su ?_;refine Ab1 ?_;refine su ?_;exact RunE.ret (chg:=[]) (.r2 rfl (.tmp rfl) (.tmp rfl)) (fun _ hm=>⟨(b57,b55),rfl,hm.pick (.cons (.there .here) rfl (.cons .here rfl .nil))⟩)
end Go.Proofs.YtnmkdiagbkkmaabGreatDoor
namespace Go.Pw1
open Go Go.Eng
theorem AE9 {c:Cd} (hc:c.Ok) {x:Int} (h:-80≤x∧x≤80):-8000≤c.step * x∧c.step * x≤8000:=by
  have h1:=Ck2 (a:=x) (b:=c.step) (A:=80) (B:=100) h (by have:=hc.s1;omega) hc.s2;rw [Int.mul_comm];omega
theorem Cf9 {p:Pr} (hp:p.Ok) (n:Int):(-8000≤(shiftX p n).1.1∧(shiftX p n).1.1≤8000)∧(-8000≤(shiftX p n).1.2∧(shiftX p n).1.2≤8000):=by
  unfold shiftX
  cases h:openX p [n] with
  | error k=>simp
  | ok u =>
    obtain ⟨k,rfl,hk⟩:=AM2 h (List.mem_singleton.2 rfl);obtain ⟨t,ht⟩:∃ t,p.things[k]=t:=⟨_,rfl⟩;simp only [Af2 hk ht];exact BN6 (ht ▸ (hp.ths _ (List.getElem_mem hk)).1)
end Go.Pw1
namespace Go.Proofs.YtnmkdiagbkkmaabGreatDoor
open Go Go.Eng Go.Pw1

structure CdAt (c:Cd) (q:Option Addr) (b o cap bc bm:Nat) (W:World):Prop where
  v:W.heap[bc]? = some (cdO c q cap bm)
  m:W.heap[bm]? = some (mapO (mEnts c.p))
  s:Sl W q b o 9 (c.p.things.map Th.cells)
  ok:c.Ok
  pk:c.p.Ok
theorem CdAt.mem {c:Cd} {q:Option Addr} {b o cap bc bm:Nat} {W w:World} {news:Blks} (h:CdAt c q b o cap bc bm W) (hm:Mem W [] news w):CdAt c q b o cap bc bm w:=⟨hm.old_at h.v (by simp),hm.old_at h.m (by simp),h.s.mono (by decide) hm (by simp),h.ok,h.pk⟩
theorem AE6 (c:Cd) (hc:c.Ok) (t:Tr) (ht:t.Ok c.cuts) (q:Option Addr) (cap bc bm:Nat) (W:World) (h:W.heap[bc]? = some (cdO c q cap bm)):Calls Tryz.prog 243 #[mtV bc t] W (Pure (.int .i64 (windowM c t)) W):=by
  obtain ⟨t1,t2,t3,t4,t5,t6,t7,t8⟩:=ht;have k2:=hc.c2;have hw:=AE9 hc (x:=t.ll - t.rl) (by omega);refine Aa0 Tryz.func243 rfl rfl ?_;refine st ?_;refine zn (New.box rfl) (fun b1=>?_)
  refine Ac4 13 Aj3 (.cons .here rfl .nil) ?_;refine zw 0 ?_;refine zw 1 ?_;refine zw 2 ?_;refine zw 3 ?_;refine zw 4 ?_;refine zv 5 rfl (Aa2 rfl h (by simp) Ag4 rfl) ?_;refine zw 6 ?_;refine zv 7 rfl (Ab2 rfl rfl Ah8 (by decide) (by decide)) ?_;refine zw 8 ?_;refine zw 9 ?_;refine zv 10 rfl (Ab2 rfl rfl Ah8 (by decide) (by decide)) ?_;refine zw 11 ?_;refine zv 12 rfl (Ae9 rfl rfl (IntWalk.i64_in _ ⟨by omega,by omega⟩)) ?_;refine zt ?_;refine zo 13 rfl (Val.mul rfl rfl (IntWalk.i64_in _ ⟨by omega,by omega⟩)) ?_;refine zp 14 ?_;refine zd ?_;refine su ?_;exact Aa4 (.r1 rfl (.tmp rfl)) (by first | rfl | simp)
theorem AL0 (c:Cd) (hc:c.Ok) (t:Tr) (ht:t.Ok c.cuts) (q:Option Addr) (cap bc bm:Nat) (W:World) (h:W.heap[bc]? = some (cdO c q cap bm)):Calls Tryz.prog 244 #[mtV bc t] W (Pure (.int .i64 (apartM c t)) W):=by
  obtain ⟨t1,t2,t3,t4,t5,t6,t7,t8⟩:=ht;have k2:=hc.c2;have k3:=hc.h1;have k4:=hc.h2;have hw:=AE9 hc (x:=t.lr + t.rl) (by omega);refine Aa0 Tryz.func244 rfl rfl ?_;refine st ?_;refine zn (New.box rfl) (fun b1=>?_)
  refine Ac4 21 Aj3 (.cons .here rfl .nil) ?_;refine zw 0 ?_;refine zw 1 ?_;refine zw 2 ?_;refine zw 3 ?_;refine zw 4 ?_;refine zv 5 rfl (Aa2 rfl h (by simp) Ag4 rfl) ?_;refine zv 6 rfl (Val.mul rfl rfl (IntWalk.i64_in _ ⟨by omega,by omega⟩)) ?_;refine zw 7 ?_;refine zw 8 ?_;refine zw 9 ?_;refine zw 10 ?_;refine zw 11 ?_;refine zv 12 rfl (Aa2 rfl h (by simp) Ag4 rfl) ?_;refine zw 13 ?_;refine zv 14 rfl (Ab2 rfl rfl Ah8 (by decide) (by decide)) ?_;refine zw 15 ?_;refine zw 16 ?_;refine zv 17 rfl (Ab2 rfl rfl Ah8 (by decide) (by decide)) ?_;refine zw 18 ?_;refine zv 19 rfl (Val.add rfl rfl (IntWalk.i64_in _ ⟨by omega,by omega⟩)) ?_;refine zv 20 rfl (Val.mul rfl rfl (IntWalk.i64_in _ ⟨by omega,by omega⟩)) ?_;refine zt ?_;refine zo 21 rfl (Ae9 rfl rfl (IntWalk.i64_in _ ⟨by omega,by omega⟩)) ?_;refine zp 22 ?_;refine zd ?_;refine su ?_;exact Aa4 (.r1 rfl (.tmp rfl)) (by first | rfl | simp)
theorem Br4 {c:Cd} (hc:c.Ok) {t:Tr} (ht:t.Ok c.cuts):-8000≤apartM c t∧apartM c t≤16000:=by
  obtain ⟨t1,t2,t3,t4,t5,t6,t7,t8⟩:=ht;have k2:=hc.c2;have k3:=hc.h1;have k4:=hc.h2;have hw:=AE9 hc (x:=t.lr + t.rl) (by omega);unfold apartM;omega
theorem AW1 {c:Cd} (hc:c.Ok) {t:Tr} (ht:t.Ok c.cuts):-8000≤windowM c t∧windowM c t≤8000:=by
  obtain ⟨t1,t2,t3,t4,t5,t6,t7,t8⟩:=ht;have k2:=hc.c2;exact AE9 hc (x:=t.ll - t.rl) (by omega)
abbrev Bd8 (s:Int×Int):Prop:=(-8000≤s.1∧s.1≤8000)∧(-8000≤s.2∧s.2≤8000)
theorem BW2 (c:Cd) (hc:c.Ok) (t:Tr) (ht:t.Ok c.cuts) (i:Int) (s:Int×Int) (hs:Bd8 s) (q:Option Addr) (cap bc bm:Nat) (W:World) (h:W.heap[bc]? = some (cdO c q cap bm)) :
    Calls Tryz.prog 273 #[.agg #[],mtV bc t,.int .i64 i,b2v s] W (Pure (.bool (decide (apartM c t - s.2 < c.eyes.hi - c.squeeze))) W):=by
  obtain ⟨⟨s1,s2⟩,s3,s4⟩:=hs;have ab:=Br4 hc ht;have k1:=hc.e1;have k2:=hc.e2;have k3:=hc.e3;have k4:=hc.q1;have k5:=hc.q2;refine Aa0 Tryz.func273 rfl rfl ?_;refine st ?_;refine zn (New.box rfl) (fun b4=>?_)
  refine zn (New.box rfl) (fun b5=>?_)
  refine zn (New.box rfl) (fun b7=>?_)
  refine Ac4 19 Aj3 (.cons .here rfl (.cons .here rfl (.cons .here rfl .nil))) ?_;refine zw 0 ?_;refine zw 2 ?_;refine zw 3 ?_;refine zw 5 ?_;refine zw 6 ?_;refine zw 7 ?_;refine zw 8 ?_;refine zw 9 ?_;refine zw 10 ?_;refine zv 11 rfl (Aa2 rfl h (by simp) Ag4 rfl) ?_;refine zw 12 ?_;refine zw 13 ?_;refine zw 14 ?_;refine zw 15 ?_;refine zw 16 ?_;refine zv 17 rfl (Aa2 rfl h (by simp) Ag4 rfl) ?_;refine zv 18 rfl (Ae9 rfl rfl (IntWalk.i64_in _ ⟨by omega,by omega⟩)) ?_;refine zA 1 ?_;refine Ab5 rfl (zF rfl BH6) rfl rfl rfl (fun w hm=>AL0 c hc t ht q cap bc bm w (hm.old_at h (by simp))) (Aa7 (.cons .here rfl (.cons .here rfl (.cons .here rfl .nil))) (.cons .here rfl (.cons .here rfl (.cons .here rfl .nil))) rfl ?_)
  refine zv 4 rfl (Ae9 rfl rfl (IntWalk.i64_in _ ⟨by omega,by omega⟩)) ?_;refine zt ?_;refine zp 19 ?_;refine zp 20 ?_;refine zd ?_;refine su ?_;exact Aa4 (.r1 rfl (.tmp rfl)) (by first | rfl | simp)
theorem Cp5 (c:Cd) (hc:c.Ok) (t:Tr) (ht:t.Ok c.cuts) (i:Int) (s:Int×Int) (hs:Bd8 s) (q:Option Addr) (cap bc bm:Nat) (W:World) (h:W.heap[bc]? = some (cdO c q cap bm)) :
    Calls Tryz.prog 274 #[.agg #[],mtV bc t,.int .i64 i,b2v s] W (Pure (.bool (decide (c.eyes.lo + c.prism < apartM c t - s.1))) W):=by
  obtain ⟨⟨s1,s2⟩,s3,s4⟩:=hs;have ab:=Br4 hc ht;have k1:=hc.e1;have k2:=hc.e2;have k3:=hc.e3;have k4:=hc.p1;have k5:=hc.p2;refine Aa0 Tryz.func274 rfl rfl ?_;refine st ?_;refine zn (New.box rfl) (fun b4=>?_)
  refine zn (New.box rfl) (fun b5=>?_)
  refine zn (New.box rfl) (fun b7=>?_)
  refine Ac4 19 Aj3 (.cons .here rfl (.cons .here rfl (.cons .here rfl .nil))) ?_;refine zw 0 ?_;refine zw 2 ?_;refine zw 3 ?_;refine zw 5 ?_;refine zw 6 ?_;refine zw 7 ?_;refine zw 8 ?_;refine zw 9 ?_;refine zw 10 ?_;refine zv 11 rfl (Aa2 rfl h (by simp) Ag4 rfl) ?_;refine zw 12 ?_;refine zw 13 ?_;refine zw 14 ?_;refine zw 15 ?_;refine zw 16 ?_;refine zv 17 rfl (Aa2 rfl h (by simp) Ag4 rfl) ?_;refine zv 18 rfl (Val.add rfl rfl (IntWalk.i64_in _ ⟨by omega,by omega⟩)) ?_;refine zA 1 ?_;refine Ab5 rfl (zF rfl BH6) rfl rfl rfl (fun w hm=>AL0 c hc t ht q cap bc bm w (hm.old_at h (by simp))) (Aa7 (.cons .here rfl (.cons .here rfl (.cons .here rfl .nil))) (.cons .here rfl (.cons .here rfl (.cons .here rfl .nil))) rfl ?_)
  refine zv 4 rfl (Ae9 rfl rfl (IntWalk.i64_in _ ⟨by omega,by omega⟩)) ?_;refine zt ?_;refine zp 19 ?_;refine zp 20 ?_;refine zd ?_;refine su ?_;exact Aa4 (.r1 rfl (.tmp rfl)) (by first | rfl | simp)
theorem BH1 (c:Cd) (hc:c.Ok) (t:Tr) (ht:t.Ok c.cuts) (i:Int) (s:Int×Int) (hs:Bd8 s) (q:Option Addr) (cap bc bm:Nat) (W:World) (h:W.heap[bc]? = some (cdO c q cap bm)) :
    Calls Tryz.prog 275 #[.agg #[],mtV bc t,.int .i64 i,b2v s] W (Pure (.bool (decide (windowM c t + c.front < s.2))) W):=by
  obtain ⟨⟨s1,s2⟩,s3,s4⟩:=hs;have ab:=AW1 hc ht;have k4:=hc.f1;have k5:=hc.f2;refine Aa0 Tryz.func275 rfl rfl ?_;refine st ?_;refine zn (New.box rfl) (fun b4=>?_)
  refine zn (New.box rfl) (fun b5=>?_)
  refine zn (New.box rfl) (fun b7=>?_)
  refine Ac4 11 Aj3 (.cons .here rfl (.cons .here rfl (.cons .here rfl .nil))) ?_;refine zw 0 ?_;refine zw 1 ?_;refine zw 2 ?_;refine zw 4 ?_;refine zw 5 ?_;refine zw 6 ?_;refine zw 7 ?_;refine zw 8 ?_;refine zv 9 rfl (Aa2 rfl h (by simp) Ag4 rfl) ?_;refine zA 3 ?_;refine Ab5 rfl (zF rfl BH7) rfl rfl rfl (fun w hm=>AE6 c hc t ht q cap bc bm w (hm.old_at h (by simp))) (Aa7 (.cons .here rfl (.cons .here rfl (.cons .here rfl .nil))) (.cons .here rfl (.cons .here rfl (.cons .here rfl .nil))) rfl ?_)
  refine zv 10 rfl (Val.add rfl rfl (IntWalk.i64_in _ ⟨by omega,by omega⟩)) ?_;refine zt ?_;refine zp 11 ?_;refine zp 12 ?_;refine zd ?_;refine su ?_;exact Aa4 (.r1 rfl (.tmp rfl)) (by first | rfl | simp)
theorem Br0 (c:Cd) (hc:c.Ok) (t:Tr) (ht:t.Ok c.cuts) (i:Int) (s:Int×Int) (hs:Bd8 s) (q:Option Addr) (cap bc bm:Nat) (W:World) (h:W.heap[bc]? = some (cdO c q cap bm)) :
    Calls Tryz.prog 276 #[.agg #[],mtV bc t,.int .i64 i,b2v s] W (Pure (.bool (decide (s.1 < windowM c t - c.deep))) W):=by
  obtain ⟨⟨s1,s2⟩,s3,s4⟩:=hs;have ab:=AW1 hc ht;have k4:=hc.d1;have k5:=hc.d2;refine Aa0 Tryz.func276 rfl rfl ?_;refine st ?_;refine zn (New.box rfl) (fun b4=>?_)
  refine zn (New.box rfl) (fun b5=>?_)
  refine zn (New.box rfl) (fun b7=>?_)
  refine Ac4 11 Aj3 (.cons .here rfl (.cons .here rfl (.cons .here rfl .nil))) ?_;refine zw 0 ?_;refine zw 1 ?_;refine zw 2 ?_;refine zw 4 ?_;refine zw 5 ?_;refine zw 6 ?_;refine zw 7 ?_;refine zw 8 ?_;refine zv 9 rfl (Aa2 rfl h (by simp) Ag4 rfl) ?_;refine zA 3 ?_;refine Ab5 rfl (zF rfl BH7) rfl rfl rfl (fun w hm=>AE6 c hc t ht q cap bc bm w (hm.old_at h (by simp))) (Aa7 (.cons .here rfl (.cons .here rfl (.cons .here rfl .nil))) (.cons .here rfl (.cons .here rfl (.cons .here rfl .nil))) rfl ?_)
  refine zv 10 rfl (Ae9 rfl rfl (IntWalk.i64_in _ ⟨by omega,by omega⟩)) ?_;refine zt ?_;refine zp 11 ?_;refine zp 12 ?_;refine zd ?_;refine su ?_;exact Aa4 (.r1 rfl (.tmp rfl)) (by first | rfl | simp)
theorem Cj1 (c:Cd) (t:Tr) (ht:t.Ok c.cuts) (k:Nat) (hk:k < c.p.things.length) (s:Int×Int) (q:Option Addr) (b o cap bc bm:Nat) (W:World) (h:CdAt c q b o cap bc bm W) :
    Calls Tryz.prog 277 #[.agg #[],mtV bc t,.int .i64 (k:Int),b2v s] W (Pure (.bool (offM c t (thingAt c.p k))) W):=by
  have hc:=h.ok;have hv:=h.v;obtain ⟨t1,t2,t3,t4,t5,t6,t7,t8⟩:=ht;have k2:=hc.c2;have k3:=hc.h1;have k4:=hc.h2;have w1:=AE9 hc (x:=t.ll) (by omega);have w2:=AE9 hc (x:=t.lr) (by omega);have w3:=AE9 hc (x:=t.rl) (by omega);have w4:=AE9 hc (x:=t.rr) (by omega);obtain ⟨x,hx⟩:∃ x,c.p.things[k]=x:=⟨_,rfl⟩;rw [Af2 hk hx];have hl:=h.pk.len;refine Aa0 Tryz.func277 rfl rfl ?_;refine st ?_;refine zn (New.box rfl) (fun b4=>?_)
  refine zn (New.box rfl) (fun b5=>?_)
  refine zn (New.box rfl) (fun b7=>?_)
  refine lv (Aa2 rfl hv (by simp) AB8 rfl) ?_;refine lv (Aa8 rfl rfl AE5 (by omega) (by omega) (h.s.ptrM hk)) ?_;refine lv (Ab0 rfl (fun w hm=>h.s.loadX (by decide) hm (by simp) AA1 hk hx)) ?_;refine zn (New.alloc Aw1) (fun b9=>?_)
  refine Aa9 (Sto.store rfl rfl .here AA1 rfl rfl) rfl rfl ?_;refine su ?_;refine zn (New.buildSlice (parts:=[(0,.tmp 25),(1,.tmp 28)]) rfl BN5 Ae2 rfl rfl rfl rfl) (fun b29=>?_)
  refine AE1 2 ?_;refine st ?_;refine RunC.cond rfl ?_ (fun h=>absurd h (by decide))
  intro c0;clear c0;refine st ?_;refine lu (Ab4 rfl rfl BN5 (by decide) (by decide)) ?_;refine zn (New.alloc Ae2) (fun b11=>?_)
  refine Aa9 (Sto.store rfl rfl .here Ag5 rfl rfl) rfl rfl ?_;refine st ?_;refine Ac4 41 Aj3 (.cons .here rfl (.cons .here rfl (.cons .here rfl (.cons .here rfl (.cons .here rfl (.cons .here rfl .nil)))))) ?_;refine zw 0 ?_;refine zw 1 ?_;refine zw 2 ?_;refine zw 3 ?_;refine zw 4 ?_;refine zv 5 rfl (Aa2 rfl hv (by simp) Ag4 rfl) ?_;refine zw 6 ?_;refine zv 7 rfl (Val.mul rfl rfl (IntWalk.i64_in _ ⟨by omega,by omega⟩)) ?_;refine zw 8 ?_;refine zv 9 rfl (Ab2 rfl rfl Ah8 (by decide) (by decide)) ?_;refine zw 10 ?_;refine zv 11 rfl (Val.mul rfl rfl (IntWalk.i64_in _ ⟨by omega,by omega⟩)) ?_;refine zw 12 ?_;refine zw 13 ?_;refine zw 14 ?_;refine zw 15 ?_;refine zw 16 ?_;refine zv 17 rfl (Aa2 rfl hv (by simp) Ag4 rfl) ?_;refine zv 18 rfl (Ae9 rfl rfl (IntWalk.i64_in _ ⟨by omega,by omega⟩)) ?_;refine zw 19 ?_;refine zw 20 ?_;refine zw 21 ?_;refine zw 22 ?_;refine zw 23 ?_;refine zv 24 rfl (Aa2 rfl hv (by simp) Ag4 rfl) ?_;refine zw 25 ?_;refine zw 26 ?_;refine zw 27 ?_;refine zw 28 ?_;refine zw 29 ?_;refine zv 30 rfl (Aa2 rfl hv (by simp) Ag4 rfl) ?_;refine zw 31 ?_;refine zv 32 rfl (Val.mul rfl rfl (IntWalk.i64_in _ ⟨by omega,by omega⟩)) ?_;refine zv 33 rfl (Val.add rfl rfl (IntWalk.i64_in _ ⟨by omega,by omega⟩)) ?_;refine zw 34 ?_;refine zv 35 rfl (Ab2 rfl rfl Ah8 (by decide) (by decide)) ?_;refine zw 36 ?_;refine zv 37 rfl (Val.mul rfl rfl (IntWalk.i64_in _ ⟨by omega,by omega⟩)) ?_;refine zv 38 rfl (Ae9 rfl rfl (IntWalk.i64_in _ ⟨by omega,by omega⟩)) ?_;refine zv 39 rfl (Val.build (parts:=[(0,.tmp 54),(1,.tmp 74)]) rfl Aj0 Ao5 rfl) ?_;refine zA 40 ?_;refine Ac6 rfl (New.alloc Aj0) rfl rfl rfl (fun b12=>(Aa7 (.cons .here rfl (.cons .here rfl (.cons .here rfl (.cons .here rfl (.cons .here rfl (.cons .here rfl (.cons .here rfl .nil))))))) (.cons (.there .here) rfl (.cons (.there .here) rfl (.cons (.there .here) rfl (.cons (.there .here) rfl (.cons (.there .here) rfl (.cons (.there .here) rfl .nil)))))) rfl ?_))
  refine zt ?_;refine zB 41 ?_;refine Ac0 rfl (Sto.store rfl rfl .here AA3 rfl rfl) rfl rfl (Ab9 ?_)
  refine zd ?_;refine su ?_
  refine Ad4 (dj:=81) (dp:=87) 6 rfl (fun g81=>by
    have g81':=g81;try simp only [nH] at g81'
    refine lv (Val.fieldAddr rfl Am5) ?_;refine lv (Ab6 rfl (.tail _ (.head _)) Ag4 rfl) ?_;refine lv (Val.fieldAddr rfl Ba4) ?_;refine Ac7 (Ab6 rfl (.head _) Ag4 rfl) rfl rfl rfl ?_;refine sv ?_;exact zs g81
  ) (fun g81=>by
    have g81':=g81;try simp only [nH] at g81'
    iterate 5 refine Ab8 rfl rfl rfl ?_
    refine sv ?_;exact zs g81
  ) ?_
  refine st ?_;refine cn rfl ?_ ?_
  ·intro c1'
   refine su ?_;exact Aa4 (.r1 rfl (.tmp rfl)) (by simp_all [offM])
  intro c1';have e0:=c1';refine st ?_;refine Ac7 (Val.add rfl rfl (IntWalk.i64_in _ ⟨by decide,by decide⟩)) rfl rfl rfl ?_;refine vp rfl rfl rfl rfl ?_;refine RunL.nil ?_;refine Aj8 (zS 2 rfl (zS 5 rfl (zS 8 rfl (zS 9 rfl (zS 29 rfl (zS 30 rfl (zS 31 rfl (Sub.nil _)))))))) (.cons (.there (.there .here)) rfl (.cons (.there (.there .here)) rfl (.cons (.there (.there (.there .here))) rfl .nil))) ?_;refine Ai7 ?_;refine st ?_;refine RunC.cond rfl ?_ (fun h=>absurd h (by decide))
  intro c0;clear c0;refine st ?_;refine lu (Ab4 rfl rfl BN5 (by decide) (by decide)) ?_;refine zn (New.alloc Ae2) (fun b11=>?_)
  refine Aa9 (Sto.store rfl rfl .here Ag5 rfl rfl) rfl rfl ?_;refine st ?_;refine Ac4 41 Aj3 (.cons .here rfl (.cons .here rfl (.cons .here rfl (.cons .here rfl .nil)))) ?_;refine zw 0 ?_;refine zw 1 ?_;refine zw 2 ?_;refine zw 3 ?_;refine zw 4 ?_;refine zv 5 rfl (Aa2 rfl hv (by simp) Ag4 rfl) ?_;refine zw 6 ?_;refine zv 7 rfl (Val.mul rfl rfl (IntWalk.i64_in _ ⟨by omega,by omega⟩)) ?_;refine zw 8 ?_;refine zv 9 rfl (Ab2 rfl rfl Ah8 (by decide) (by decide)) ?_;refine zw 10 ?_;refine zv 11 rfl (Val.mul rfl rfl (IntWalk.i64_in _ ⟨by omega,by omega⟩)) ?_;refine zw 12 ?_;refine zw 13 ?_;refine zw 14 ?_;refine zw 15 ?_;refine zw 16 ?_;refine zv 17 rfl (Aa2 rfl hv (by simp) Ag4 rfl) ?_;refine zv 18 rfl (Ae9 rfl rfl (IntWalk.i64_in _ ⟨by omega,by omega⟩)) ?_;refine zw 19 ?_;refine zw 20 ?_;refine zw 21 ?_;refine zw 22 ?_;refine zw 23 ?_;refine zv 24 rfl (Aa2 rfl hv (by simp) Ag4 rfl) ?_;refine zw 25 ?_;refine zw 26 ?_;refine zw 27 ?_;refine zw 28 ?_;refine zw 29 ?_;refine zv 30 rfl (Aa2 rfl hv (by simp) Ag4 rfl) ?_;refine zw 31 ?_;refine zv 32 rfl (Val.mul rfl rfl (IntWalk.i64_in _ ⟨by omega,by omega⟩)) ?_;refine zv 33 rfl (Val.add rfl rfl (IntWalk.i64_in _ ⟨by omega,by omega⟩)) ?_;refine zw 34 ?_;refine zv 35 rfl (Ab2 rfl rfl Ah8 (by decide) (by decide)) ?_;refine zw 36 ?_;refine zv 37 rfl (Val.mul rfl rfl (IntWalk.i64_in _ ⟨by omega,by omega⟩)) ?_;refine zv 38 rfl (Ae9 rfl rfl (IntWalk.i64_in _ ⟨by omega,by omega⟩)) ?_;refine zv 39 rfl (Val.build (parts:=[(0,.tmp 54),(1,.tmp 74)]) rfl Aj0 Ao5 rfl) ?_;refine zA 40 ?_;refine Ac6 rfl (New.alloc Aj0) rfl rfl rfl (fun b12=>(Aa7 (.cons .here rfl (.cons .here rfl (.cons .here rfl (.cons .here rfl (.cons .here rfl .nil))))) (.cons (.there .here) rfl (.cons (.there .here) rfl (.cons (.there .here) rfl (.cons (.there .here) rfl .nil)))) rfl ?_))
  refine zt ?_;refine zB 41 ?_;refine Ac0 rfl (Sto.store rfl rfl .here AA3 rfl rfl) rfl rfl (Ab9 ?_)
  refine zd ?_;refine su ?_
  refine Ad4 (dj:=81) (dp:=87) 6 rfl (fun g81=>by
    have g81':=g81;try simp only [nH] at g81'
    refine lv (Val.fieldAddr rfl Am5) ?_;refine lv (Ab6 rfl (.tail _ (.head _)) Ag4 rfl) ?_;refine lv (Val.fieldAddr rfl Ba4) ?_;refine Ac7 (Ab6 rfl (.head _) Ag4 rfl) rfl rfl rfl ?_;refine sv ?_;exact zs g81
  ) (fun g81=>by
    have g81':=g81;try simp only [nH] at g81'
    iterate 5 refine Ab8 rfl rfl rfl ?_
    refine sv ?_;exact zs g81
  ) ?_
  refine st ?_;refine cn rfl ?_ ?_
  ·intro c1'
   refine su ?_;exact Aa4 (.r1 rfl (.tmp rfl)) (by simp_all [offM])
  intro c1';have e1:=c1';refine st ?_;refine Ac7 (Val.add rfl rfl (IntWalk.i64_in _ ⟨by decide,by decide⟩)) rfl rfl rfl ?_;refine vp rfl rfl rfl rfl ?_;refine RunL.nil ?_;refine Aj8 (zS 2 rfl (zS 5 rfl (zS 8 rfl (zS 9 rfl (zS 29 rfl (zS 30 rfl (zS 31 rfl (Sub.nil _)))))))) (.cons (.there (.there .here)) rfl (.cons (.there (.there .here)) rfl (.cons (.there (.there .here)) rfl .nil))) ?_;refine Ai7 ?_;refine st ?_;refine RunC.cond rfl (fun h=>absurd h (by decide)) ?_;intro c0;clear c0;refine RunC.exit ?_;refine su ?_;refine Ab1 ?_;refine su ?_;exact Aa4 (.r1 rfl (.tmp rfl)) (by simp_all [offM])
end Go.Proofs.YtnmkdiagbkkmaabGreatDoor
namespace Go.Proofs.YtnmkdiagbkkmaabGreatDoor
open Go Go.Eng Go.Pw1

theorem BW3 (c:Cd) (t:Tr) (ht:t.Ok c.cuts) (k:Nat) (hk:k < c.p.things.length) (hw:(whyX c.p k).1=0) (q:Option Addr) (b o cap bc bm:Nat) (W:World) (h:CdAt c q b o cap bc bm W) :
    Calls Tryz.prog 225 #[mtV bc t,.int .i64 (k:Int)] W (Pure (.int .i64 (whyM c t k)) W):=by
  have hc:=h.ok;have hv:=h.v;have hM:=h.m;have hs:=Cf9 h.pk k;have hl:=h.pk.len;refine Aa0 Tryz.func225 rfl rfl ?_;refine st ?_;refine zn (New.box rfl) (fun b2=>?_)
  refine lv (Val.build (parts:=[]) rfl Cx1 BV0 rfl) ?_;refine lv (Val.makeInterface rfl CD8) ?_;refine lv (Val.build (parts:=[]) rfl Cx0 BU9 rfl) ?_;refine lv (Val.makeInterface rfl CD7) ?_;refine lv (Val.build (parts:=[]) rfl Cw9 BU8 rfl) ?_;refine lv (Val.makeInterface rfl CD6) ?_;refine lv (Val.build (parts:=[]) rfl Cw8 BU7 rfl) ?_;refine lv (Val.makeInterface rfl CD5) ?_;refine lv (Val.build (parts:=[]) rfl Cw7 BU6 rfl) ?_;refine lv (Val.makeInterface rfl CD4) ?_;refine lv (Val.build (parts:=[(0,.tmp 9),(1,.tmp 11),(2,.tmp 13),(3,.tmp 15),(4,.tmp 17)]) rfl BM0 BU5 rfl) ?_;refine zn (New.alloc BM0) (fun b5=>?_)
  refine Aa9 (Sto.store rfl rfl .here CK9 rfl rfl) rfl rfl ?_;refine su ?_;refine AE1 5 ?_;refine st ?_;refine RunC.cond rfl ?_ (fun h=>absurd h (by decide))
  intro c0;clear c0;refine st ?_;refine lv (AB2 rfl rfl AN8 (by decide) (by decide) (show _=some (Value.iface 331 (.agg #[])) from rfl)) ?_;refine Ac4 13 Aj3 (.cons .here rfl (.cons .here rfl .nil)) ?_;refine zw 0 ?_;refine zw 1 ?_;refine zw 2 ?_;refine zw 3 ?_;refine zw 4 ?_;refine zw 5 ?_;refine zw 6 ?_;refine zv 7 rfl (Aa2 rfl hv (by simp) AW5 rfl) ?_;refine zw 8 ?_;refine zw 10 ?_;refine zv 11 rfl (Ax0 rfl rfl (At5 _)) ?_;refine zw 12 ?_;refine zA 9 ?_;refine Ai8 rfl (Ax2 rfl rfl (fun w hm=>hm.old_at hM (by simp)) Ay4 Az9 (by rw [AP6 hk,if_pos hw])) rfl rfl rfl (Aa7 (.cons .here rfl (.cons .here rfl .nil)) (.cons .here rfl (.cons .here rfl .nil)) rfl ?_)
  refine zt ?_;refine zB 13 ?_;refine Ab5 rfl (Ai2 rfl rfl (fun w=>As2 _ w) CT8) rfl rfl rfl (fun w hm=>BW2 c hc t ht k _ hs q cap bc bm w (hm.old_at hv (by simp))) (Ab9 ?_)
  refine zd ?_;refine st ?_;refine cn rfl ?_ ?_
  ·intro c1'
   refine st ?_;refine lu (Val.add rfl rfl (IntWalk.i64_in _ ⟨by decide,by decide⟩)) ?_;exact Aa4 (.r1 rfl (.tmp rfl)) (by simp [whyM,hurtL,idxF, *])
  intro c1';have e0:=Int.not_lt.2 c1';refine st ?_;refine Ac7 (Val.add rfl rfl (IntWalk.i64_in _ ⟨by decide,by decide⟩)) rfl rfl rfl ?_;refine vp rfl rfl rfl rfl ?_;refine RunL.nil ?_;refine Aj8 (zS 1 rfl (zS 2 rfl (zS 4 rfl (zS 19 rfl (zS 20 rfl (Sub.nil _)))))) (.cons (.there .here) rfl .nil) ?_;refine Ai7 ?_;refine st ?_;refine RunC.cond rfl ?_ (fun h=>absurd h (by decide))
  intro c0;clear c0;refine st ?_;refine lv (AB2 rfl rfl AN8 (by decide) (by decide) (show _=some (Value.iface 332 (.agg #[])) from rfl)) ?_;refine Ac4 13 Aj3 (.cons .here rfl .nil) ?_;refine zw 0 ?_;refine zw 1 ?_;refine zw 2 ?_;refine zw 3 ?_;refine zw 4 ?_;refine zw 5 ?_;refine zw 6 ?_;refine zv 7 rfl (Aa2 rfl hv (by simp) AW5 rfl) ?_;refine zw 8 ?_;refine zw 10 ?_;refine zv 11 rfl (Ax0 rfl rfl (At4 _)) ?_;refine zw 12 ?_;refine zA 9 ?_;refine Ai8 rfl (Ax2 rfl rfl (fun w hm=>hm.old_at hM (by simp)) Ay4 Az9 (by rw [AP6 hk,if_pos hw])) rfl rfl rfl (Aa7 (.cons .here rfl .nil) (.cons .here rfl .nil) rfl ?_)
  refine zt ?_;refine zB 13 ?_;refine Ab5 rfl (Ai2 rfl rfl (fun w=>As1 _ w) CT7) rfl rfl rfl (fun w hm=>Cp5 c hc t ht k _ hs q cap bc bm w (hm.old_at hv (by simp))) (Ab9 ?_)
  refine zd ?_;refine st ?_;refine cn rfl ?_ ?_
  ·intro c1'
   refine st ?_;refine lu (Val.add rfl rfl (IntWalk.i64_in _ ⟨by decide,by decide⟩)) ?_;exact Aa4 (.r1 rfl (.tmp rfl)) (by simp [whyM,hurtL,idxF, *])
  intro c1';have e1:=Int.not_lt.2 c1';refine st ?_;refine Ac7 (Val.add rfl rfl (IntWalk.i64_in _ ⟨by decide,by decide⟩)) rfl rfl rfl ?_;refine vp rfl rfl rfl rfl ?_;refine RunL.nil ?_;refine Aj8 (zS 1 rfl (zS 2 rfl (zS 4 rfl (zS 19 rfl (zS 20 rfl (Sub.nil _)))))) (.cons .here rfl .nil) ?_;refine Ai7 ?_;refine st ?_;refine RunC.cond rfl ?_ (fun h=>absurd h (by decide))
  intro c0;clear c0;refine st ?_;refine lv (AB2 rfl rfl AN8 (by decide) (by decide) (show _=some (Value.iface 333 (.agg #[])) from rfl)) ?_;refine Ac4 13 Aj3 (.cons .here rfl .nil) ?_;refine zw 0 ?_;refine zw 1 ?_;refine zw 2 ?_;refine zw 3 ?_;refine zw 4 ?_;refine zw 5 ?_;refine zw 6 ?_;refine zv 7 rfl (Aa2 rfl hv (by simp) AW5 rfl) ?_;refine zw 8 ?_;refine zw 10 ?_;refine zv 11 rfl (Ax0 rfl rfl (At3 _)) ?_;refine zw 12 ?_;refine zA 9 ?_;refine Ai8 rfl (Ax2 rfl rfl (fun w hm=>hm.old_at hM (by simp)) Ay4 Az9 (by rw [AP6 hk,if_pos hw])) rfl rfl rfl (Aa7 (.cons .here rfl .nil) (.cons .here rfl .nil) rfl ?_)
  refine zt ?_;refine zB 13 ?_;refine Ab5 rfl (Ai2 rfl rfl (fun w=>As0 _ w) CT6) rfl rfl rfl (fun w hm=>BH1 c hc t ht k _ hs q cap bc bm w (hm.old_at hv (by simp))) (Ab9 ?_)
  refine zd ?_;refine st ?_;refine cn rfl ?_ ?_
  ·intro c1'
   refine st ?_;refine lu (Val.add rfl rfl (IntWalk.i64_in _ ⟨by decide,by decide⟩)) ?_;exact Aa4 (.r1 rfl (.tmp rfl)) (by simp [whyM,hurtL,idxF, *])
  intro c1';have e2:=Int.not_lt.2 c1';refine st ?_;refine Ac7 (Val.add rfl rfl (IntWalk.i64_in _ ⟨by decide,by decide⟩)) rfl rfl rfl ?_;refine vp rfl rfl rfl rfl ?_;refine RunL.nil ?_;refine Aj8 (zS 1 rfl (zS 2 rfl (zS 4 rfl (zS 19 rfl (zS 20 rfl (Sub.nil _)))))) (.cons .here rfl .nil) ?_;refine Ai7 ?_;refine st ?_;refine RunC.cond rfl ?_ (fun h=>absurd h (by decide))
  intro c0;clear c0;refine st ?_;refine lv (AB2 rfl rfl AN8 (by decide) (by decide) (show _=some (Value.iface 334 (.agg #[])) from rfl)) ?_;refine Ac4 13 Aj3 (.cons .here rfl .nil) ?_;refine zw 0 ?_;refine zw 1 ?_;refine zw 2 ?_;refine zw 3 ?_;refine zw 4 ?_;refine zw 5 ?_;refine zw 6 ?_;refine zv 7 rfl (Aa2 rfl hv (by simp) AW5 rfl) ?_;refine zw 8 ?_;refine zw 10 ?_;refine zv 11 rfl (Ax0 rfl rfl (At2 _)) ?_;refine zw 12 ?_;refine zA 9 ?_;refine Ai8 rfl (Ax2 rfl rfl (fun w hm=>hm.old_at hM (by simp)) Ay4 Az9 (by rw [AP6 hk,if_pos hw])) rfl rfl rfl (Aa7 (.cons .here rfl .nil) (.cons .here rfl .nil) rfl ?_)
  refine zt ?_;refine zB 13 ?_;refine Ab5 rfl (Ai2 rfl rfl (fun w=>Ar9 _ w) CT5) rfl rfl rfl (fun w hm=>Br0 c hc t ht k _ hs q cap bc bm w (hm.old_at hv (by simp))) (Ab9 ?_)
  refine zd ?_;refine st ?_;refine cn rfl ?_ ?_
  ·intro c1'
   refine st ?_;refine lu (Val.add rfl rfl (IntWalk.i64_in _ ⟨by decide,by decide⟩)) ?_;exact Aa4 (.r1 rfl (.tmp rfl)) (by simp [whyM,hurtL,idxF, *])
  intro c1';have e3:=Int.not_lt.2 c1';refine st ?_;refine Ac7 (Val.add rfl rfl (IntWalk.i64_in _ ⟨by decide,by decide⟩)) rfl rfl rfl ?_;refine vp rfl rfl rfl rfl ?_;refine RunL.nil ?_;refine Aj8 (zS 1 rfl (zS 2 rfl (zS 4 rfl (zS 19 rfl (zS 20 rfl (Sub.nil _)))))) (.cons .here rfl .nil) ?_;refine Ai7 ?_;refine st ?_;refine RunC.cond rfl ?_ (fun h=>absurd h (by decide))
  intro c0;clear c0;refine st ?_;refine lv (AB2 rfl rfl AN8 (by decide) (by decide) (show _=some (Value.iface 335 (.agg #[])) from rfl)) ?_;refine Ac4 13 Aj3 (.cons .here rfl .nil) ?_;refine zw 0 ?_;refine zw 1 ?_;refine zw 2 ?_;refine zw 3 ?_;refine zw 4 ?_;refine zw 5 ?_;refine zw 6 ?_;refine zv 7 rfl (Aa2 rfl hv (by simp) AW5 rfl) ?_;refine zw 8 ?_;refine zw 10 ?_;refine zv 11 rfl (Ax0 rfl rfl (At1 _)) ?_;refine zw 12 ?_;refine zA 9 ?_;refine Ai8 rfl (Ax2 rfl rfl (fun w hm=>hm.old_at hM (by simp)) Ay4 Az9 (by rw [AP6 hk,if_pos hw])) rfl rfl rfl (Aa7 (.cons .here rfl .nil) (.cons .here rfl .nil) rfl ?_)
  refine zt ?_;refine zB 13 ?_;refine Ab5 rfl (Ai2 rfl rfl (fun w=>Ar8 _ w) CT4) rfl rfl rfl (fun w hm=>Cj1 c t ht k hk _ q b o cap bc bm w (h.mem hm.drop)) (Ab9 ?_)
  refine zd ?_;refine st ?_;refine cn rfl ?_ ?_
  ·intro c1'
   refine st ?_;refine lu (Val.add rfl rfl (IntWalk.i64_in _ ⟨by decide,by decide⟩)) ?_;exact Aa4 (.r1 rfl (.tmp rfl)) (by simp [whyM,hurtL,idxF, *])
  intro c1';have e4:=c1';refine st ?_;refine Ac7 (Val.add rfl rfl (IntWalk.i64_in _ ⟨by decide,by decide⟩)) rfl rfl rfl ?_;refine vp rfl rfl rfl rfl ?_;refine RunL.nil ?_;refine Aj8 (zS 1 rfl (zS 2 rfl (zS 4 rfl (zS 19 rfl (zS 20 rfl (Sub.nil _)))))) (.cons .here rfl .nil) ?_;refine Ai7 ?_;refine st ?_;refine RunC.cond rfl (fun h=>absurd h (by decide)) ?_;intro c0;clear c0;refine RunC.exit ?_;refine su ?_;refine Ab1 ?_;refine su ?_;exact Aa4 (.r1 rfl (.tmp rfl)) (by simp [whyM,hurtL,idxF, *])
def seenS (p:Pr) (k:Nat):Int×Int:=if (whyX p k).1=0 then (shiftX p k).1 else (0,0)
theorem CC0 {p:Pr} {k:Nat} (hk:k < p.things.length):Value.tuple #[(mFind (mEnts p) k).getD (.agg #[.int .i64 0,.int .i64 0]),.bool (mFind (mEnts p) k).isSome] = .tuple #[b2v (seenS p k),.bool (decide ((whyX p k).1=0))]:=by
  rw [AP6 hk];unfold seenS
  by_cases h:(whyX p k).1=0
  · simp [h]
  · simp [h,b2v]
abbrev thO (p:Pr):={ x:Eng.Own // OwnOk 1 x (seenN p).length ((seenN p).map fun n=>[Value.int .i64 n]).flatten }
theorem Bt0 (c:Cd) (q:Option Addr) (b o cap bc bm:Nat) (W:World) (h:CdAt c q b o cap bc bm W) :
    Calls Tryz.prog 224 #[.pointer (some ⟨bc,0,none⟩)] W (News (fun x:thO c.p=>.slice (ownQ x.1) (seenN c.p).length (ownC x.1)) (fun x=>ownB 3 x.1 ((seenN c.p).map fun n=>[Value.int .i64 n]).flatten++[]) W):=by
  have hv:=h.v;have hM:=h.m;have hl:=h.pk.len;refine Aa0 Tryz.func224 rfl rfl ?_;refine su ?_;refine lu (Aa2 rfl hv (by simp) AB8 rfl) ?_;refine Ah4 (X:=Eng.Own) (n0:=[]) (c.p.things.length) (fun k x q=>(13,.int .i64 (k:Int))::(2,ownV x (seenNK c.p k).length)::q) (fun _ _=>_) (fun k x=>[]) (fun k x=>ownB 3 x ((seenNK c.p k).map fun n=>[Value.int .i64 n]).flatten++[]) (fun k x=>OwnOk 1 x (seenNK c.p k).length ((seenNK c.p k).map fun n=>[Value.int .i64 n]).flatten) none OwnOk.start rfl (zE 13 rfl rfl (zE 2 rfl rfl (zS 0 rfl (zS 12 rfl (Sub.nil _))))) (Pick.same rfl) ?_;intro k x kN kI;have hx1:=kI;refine st ?_;refine cn rfl ?_ ?_
  ·intro c0'
   have hk:k < c.p.things.length:=by omega
   refine su ?_;refine lv (Aa2 rfl hv (by simp) AW5 rfl) ?_;refine lv (Br8 rfl rfl (fun w hm=>hm.old_at hM (by simp)) Ay4 Az9 (CC0 hk)) ?_;refine zn (New.alloc Aj0) (fun b4=>?_)
   refine Aa9 (Sto.store rfl rfl .here AA3 rfl rfl) rfl rfl ?_;refine st ?_;refine cn rfl ?_ ?_
   ·intro c1'
    have hw:(whyX c.p k).1=0:=c1';have hsl:=AO8 c.p k;refine st ?_;refine zn (New.buildSlice (parts:=[(0,.tmp 27)]) rfl Ah5 Ax7 rfl rfl rfl rfl) (fun b28=>?_)
    refine RunL.append (A:=[(b28,_),(b4,_)]) (B:=_) (x:=x) (ys:=[.int .i64 (k:Int)]) CK1 rfl rfl rfl hx1 rfl (fun h=>by cases h) (fun w hm=>An1 (hm.at (.head _))) (Ar6 rfl) (by simp only [maxLen];omega) (by omega) rfl (fun z29 hz29=>?_)
    refine st ?_;refine lv (Val.add rfl rfl (IntWalk.i64_in _ ⟨by omega,by omega⟩)) ?_;exact Ad5 z29 (by omega) (by first | (rw [Av3 hw,← AF7,List.length_append];exact hz29) | (rw [AA5 hw];exact hx1)) rfl (zE 13 rfl rfl (zE 2 rfl (by first | (rw [Av3 hw,List.length_append];rfl) | rw [AA5 hw]) (zS 0 rfl (zS 12 rfl (Sub.nil _))))) (Pick.skip (Pick.skip (Pick.same (by rw [Av3 hw,← AF7];rfl))))
   intro c1';have hw:(whyX c.p k).1 ≠ 0:=c1';refine st ?_;refine lv (Val.add rfl rfl (IntWalk.i64_in _ ⟨by omega,by omega⟩)) ?_;exact Ad5 x (by omega) (by first | (rw [Av3 hw,← AF7,List.length_append];exact hz29) | (rw [AA5 hw];exact hx1)) rfl (zE 13 rfl rfl (zE 2 rfl (by first | (rw [Av3 hw,List.length_append];rfl) | rw [AA5 hw]) (zS 0 rfl (zS 12 rfl (Sub.nil _))))) (Pick.skip (Pick.same (by rw [AA5 hw])))
  intro c0';obtain rfl:k=c.p.things.length:=by omega
  have y1:ownV x (seenNK c.p c.p.things.length).length = .slice (ownQ x) (seenN c.p).length (ownC x):=Ad9 hx1;simp only [y1];refine RunC.exit ?_;refine su ?_;refine Ab1 ?_;refine su ?_;exact RunE.ret (chg:=[]) (.r1 rfl (.tmp rfl)) (fun _ hm=>⟨⟨x,hx1⟩,rfl,hm.pick (Pick.refl _)⟩)
theorem Dl7 {p:Pr} (x:thO p) {w:World} (hm:∀ b o,(b,o)∈ownB 3 x.1 ((seenN p).map fun n=>[Value.int .i64 n]).flatten++[]→w.heap[b]? = some o):Sl w (ownQ x.1) (ownK x.1) 0 1 ((seenN p).map fun n=>[Value.int .i64 n]) :=
  Ar5 (f:=fun n:Int=>[Value.int .i64 n]) (sz:=1) (fun _=>rfl) (by decide) x.2 (fun b o h=>hm b o (List.mem_append_left _ h))
end Go.Proofs.YtnmkdiagbkkmaabGreatDoor
namespace Go.Pw1
open Go Go.Eng
def keyN (p:Pr) (i:Nat):Nat:=((seenM p).getD i (0,(0,0))).1.toNat
theorem AZ0 (p:Pr):(mEnts p).length=(seenM p).length:=by simp [mEnts,entsV]
theorem Bw4 {p:Pr} {i:Nat} (hi:i < (mEnts p).length):(seenM p)[i]'(by rw [← AZ0];exact hi)=((keyN p i:Int),(shiftX p (keyN p i)).1)∧keyN p i < p.things.length∧(whyX p (keyN p i)).1=0:=by
  have hi2:i < (seenM p).length:=by rw [← AZ0];exact hi
  obtain ⟨j,h1,h2,h3⟩:=Cg5.1 (List.getElem_mem hi2);have hk:keyN p i=j:=by unfold keyN;rw [List.getD_eq_getElem?_getD,List.getElem?_eq_getElem hi2,Option.getD_some,h1];simp
  rw [hk];exact ⟨h1,h2,h3⟩
theorem Df3 {p:Pr} {i:Nat} (hi:i < (mEnts p).length):Value.tuple #[.int .i64 (mEnts p)[i].1,(mEnts p)[i].2] = .tuple #[.int .i64 ((keyN p i:Nat):Int),b2v (shiftX p (keyN p i)).1]:=by
  obtain ⟨h1,_,_⟩:=Bw4 hi
  have h2:(mEnts p)[i]=((keyN p i:Int),b2v (shiftX p (keyN p i)).1):=by
    simp only [mEnts,entsV,List.getElem_map,h1]
  rw [h2]
def orK (p:Pr) (x:List Nat):Nat:=x.foldl (fun s i=>s ||| 2 ^ keyN p i) 0
theorem CC9 (p:Pr) (x:List Nat) (i:Nat):orK p (x++[i])=orK p x ||| 2 ^ keyN p i:=by simp [orK,List.foldl_append]
theorem CR7 {p:Pr} {j:Nat} {x:List Nat}:(orK p x).testBit j=decide (∃ i∈x,keyN p i=j):=by
  have key:∀ (x:List Nat) (s:Nat),(x.foldl (fun s i=>s ||| 2 ^ keyN p i) s).testBit j=(s.testBit j || decide (∃ i∈x,keyN p i=j)):=by
    intro x
    induction x with
    | nil=>intro s;simp
    | cons i x ih =>
      intro s;rw [List.foldl_cons,ih,Nat.testBit_or,Nat.testBit_two_pow]
      by_cases h:keyN p i=j
      · simp [h]
      · simp [h]
  have:=key x 0
  simpa [orK] using this
theorem Bj4 {j:Nat}:∀ {l:List Int},(bitsOf l).testBit j=decide (∃ a∈l,a.toNat=j)
  | []=>by simp [bitsOf]
  | a::l=>by
    simp only [bitsOf,Nat.testBit_or,Bj4 (l:=l),Nat.testBit_two_pow]
    by_cases h:a.toNat=j
    · simp [h]
    · simp [h]
theorem Dd9 {p:Pr} {m:Nat}:∀ {x:List Nat},(∀ i∈x,keyN p i < m)→orK p x < 2 ^ m:=by
  intro x
  have key:∀ (x:List Nat) (s:Nat),s < 2 ^ m→(∀ i∈x,keyN p i < m)→x.foldl (fun s i=>s ||| 2 ^ keyN p i) s < 2 ^ m:=by
    intro x
    induction x with
    | nil=>intro s hs _;exact hs
    | cons i x ih =>
      intro s hs hl;exact ih _ (Nat.or_lt_two_pow hs (Nat.pow_lt_pow_right (by decide) (hl i (by simp)))) (fun j hj=>hl j (List.mem_cons_of_mem _ hj))
  exact key x 0 (Nat.two_pow_pos m)
theorem CR8 {p:Pr} {x:List Nat} (h:∀ i,i < (mEnts p).length→i∈x) (hv:∀ i∈x,i < (mEnts p).length):orK p x=bitsOf (seenN p):=by
  apply Nat.eq_of_testBit_eq
  intro j;rw [CR7,Bj4]
  congr 1
  refine propext ⟨?_,?_⟩
  · rintro ⟨i,hi,rfl⟩
    obtain ⟨h1,h2,h3⟩:=Bw4 (hv i hi);exact ⟨(keyN p i:Int),Cg4.2 ⟨h2,h3⟩,by simp⟩
  · rintro ⟨a,ha,rfl⟩
    obtain ⟨e,he,rfl⟩:=List.mem_map.1 ha;obtain ⟨i,hi,rfl⟩:=List.getElem_of_mem he;have hi2:i < (mEnts p).length:=by rw [AZ0];exact hi
    exact ⟨i,h i hi2,by rw [(Bw4 hi2).1];simp⟩
end Go.Pw1
namespace Go.Proofs.YtnmkdiagbkkmaabGreatDoor
open Go Go.Eng Go.Pw1

theorem Dc4 {p:Pr} (x:thO p) (h:0 < (seenN p).length):ownQ x.1=some ⟨ownK x.1,0,none⟩:=by
  obtain ⟨b,c,r,e,_⟩:=x.2.has h;rw [e];rfl
theorem Cg3 (p:Pr):(seenN p).length≤p.things.length:=AO8 p _
theorem AP7 (c:Cd) (t:Tr) (ht:t.Ok c.cuts) (q:Option Addr) (b o cap bc bm:Nat) (W:World) (h:CdAt c q b o cap bc bm W) :
    Calls Tryz.prog 186 #[mtV bc t] W (Pure (.tuple #[.int .i64 (hurtM c t).1,.int .i64 (hurtM c t).2]) W):=by
  have hv:=h.v;have hl:=h.pk.len;have hsl:=Cg3 c.p;refine Aa0 Tryz.func186 rfl rfl ?_;refine st ?_;refine zn (New.box rfl) (fun b1=>?_)
  refine Ah9 (zF rfl CV3) rfl rfl rfl (fun w hm=>Bt0 c q b o cap bc bm w (h.mem hm)) (fun b8=>?_)
  refine su ?_;refine Ae5 ((seenN c.p).length) (fun k q=>(10,.int .i64 (k:Int))::q) (fun _=>_) (fun _=>[]) (fun k=>∀ j (h:j < k) (h2:j < (seenN c.p).length),whyM c t (seenN c.p)[j]=0) (fun j h=>absurd h (by omega)) rfl (zE 10 rfl rfl (zS 1 rfl (zS 8 rfl (zS 9 rfl (Sub.nil _))))) (.cons .here rfl (Pick.refl _)) ?_;intro k kN kI;refine st ?_;refine cn rfl ?_ ?_
  ·intro c0'
   have hk:k < (seenN c.p).length:=by omega
   obtain ⟨j,hi,hj,hw⟩:=AU7 (List.getElem_mem hk);refine st ?_;refine lv (Aa8 rfl rfl Ah5 (by omega) (by omega) (Dc4 b8 (by omega))) ?_;refine lu (Ab0 rfl (fun w hm=>(Dl7 b8 (fun b o h=>hm.at (.tail _ (h)))).loadM1 (by decide) (Mem.refl w) (by simp) Ag4 hk (v:=.int .i64 (j:Int)) (by rw [hi];rfl))) ?_;refine zc (zF rfl CV2) (fun w hm=>BW3 c t ht j hj hw q b o cap bc bm w (h.mem hm.drop)) ?_;refine cn rfl ?_ ?_
   ·intro c1'
    refine su ?_;exact Aa4 (.r2 rfl (.tmp rfl) (.tmp rfl)) (by have e:=Bx1 (c:=c) (t:=t) hk (fun j2 h2=>kI j2 h2 (by omega)) (by rw [hi];exact c1');simp only [hurtM,e,hi])
   intro c1';refine st ?_;refine lv (Val.add rfl rfl (IntWalk.i64_in _ ⟨by omega,by omega⟩)) ?_;exact Ad0 (by omega) (fun j2 h2 h3=>by (rcases Nat.lt_or_ge j2 k with h4 | h4;exact kI j2 h4 h3;have e:j2=k:=(by omega);subst e;rw [hi];exact c1')) rfl (zE 10 rfl rfl (zS 1 rfl (zS 8 rfl (zS 9 rfl (Sub.nil _))))) (.cons .here rfl (Pick.refl _))
  intro c0';obtain rfl:k=(seenN c.p).length:=by omega
  refine RunC.exit ?_;refine su ?_;refine Ab1 ?_;refine su ?_;exact Aa4 (.r2 rfl (.tmp rfl) (.tmp rfl)) (by have e:hurtF c t (seenN c.p)=(0,0):=Bx2 (fun i hi=>by (obtain ⟨j,hj,rfl⟩:=List.getElem_of_mem hi;exact kI j hj hj));simp only [hurtM,e])
theorem Bk0 (c:Cd) (q:Option Addr) (b o cap:Nat) (W:World) (hS:Sl W q b o 9 (c.p.things.map Th.cells)) (hl:c.p.things.length≤100000000000) :
    Calls Tryz.prog 29 #[c.v q cap] W (Pure (.tuple #[.int .i64 (seenX c).1,.int .i64 (seenX c).2]) W):=by
  by_cases h0:openM c []=0
  · have hpk:=Am1 (AI5 (Ct7 c ▸ h0)).1
    have hl12:=hpk.len;refine Aa0 Tryz.func29 rfl rfl ?_;refine st ?_;refine zn (New.box rfl) (fun b1=>?_)
    refine Ag3 (zF rfl AR7) rfl rfl rfl (fun w hm=>AC7 c [] h0 q b o cap none 0 0 0 w (hS.mono (by decide) hm (by simp)) hl Sl.emp (by simp)) (fun b8=>?_)
    refine st ?_;refine RunC.cond rfl (fun h=>absurd h (by decide)) ?_;intro c0;clear c0;refine su ?_;refine zn (New.range rfl (fun w hm=>hm.at (.tail _ (.head _))) Ay4) (fun b18=>?_)
    refine Ah4 (X:=List Nat) (n0:=[(b8.1,_),(b8.2,_)]) ((mEnts c.p).length) (fun k x q=>(2,.int .i64 ((orK c.p x:Nat):Int))::q) (fun _ _=>_) (fun k x=>[(b18,itO b8.2 (mEnts c.p) x)]) (fun k x=>[]) (fun k x=>Vis (mEnts c.p).length k x) [] Vis.nil rfl (zE 2 rfl rfl (zS 18 rfl (Sub.nil _))) (.cons .here rfl (.cons .here rfl (.cons .here rfl (Pick.skip (Pick.same rfl))))) ?_;intro k x kN kI;refine st ?_;refine RunL.next rfl (fun w hm=>hm.at (.tail _ (.tail _ (.head _)))) (fun _=>.here) rfl (fun i19 hi19 hx19=>?_) (fun hx19=>?_)
    ·refine st ?_
     refine AJ5 rfl ?_;refine st ?_;refine Ac7 (Ca0 rfl (fun w hm=>hm.at (.head _)) (fun w hm=>hm.at (.tail _ (.tail _ (.head _)))) hi19 (Df3 hi19)) rfl rfl rfl ?_;refine vp rfl rfl rfl rfl ?_;obtain ⟨y1,y2,y3⟩:=Bw4 hi19;have y4:orK c.p x < 2 ^ 12:=Dd9 (fun i hi=>by have:=(Bw4 (kI.lt i hi)).2.1;omega);have y5:2 ^ keyN c.p i19≤2 ^ 12:=Nat.pow_le_pow_right (by omega) (by omega);have y6:2 ^ keyN c.p i19 < 2 ^ 12:=Nat.pow_lt_pow_right (by omega) (by omega);have y7:=Nat.or_lt_two_pow y4 y6;refine st ?_;refine lv (AI7 (b:=keyN c.p i19) rfl rfl (by show _≤64;omega) (Ap3 (n:=2 ^ keyN c.p i19) (by omega))) ?_;refine lv (Val.or (a:=orK c.p x) (b:=2 ^ keyN c.p i19) rfl rfl (by show _ < 18446744073709551616;omega) (by show _ < 18446744073709551616;omega) (Ap3 (by omega))) ?_;exact Ad5 (x++[i19]) (kI.more hi19 hx19) (kI.snoc hi19 hx19) rfl (zE 2 rfl (by rw [CC9]) (zS 18 rfl (Sub.nil _))) (.cons .here rfl (.cons .here rfl (.cons .here rfl .nil)))
    refine st ?_;refine Ax6 rfl ?_;refine RunC.exit ?_;refine su ?_;refine Ab1 ?_;refine su ?_;exact Aa4 (.r2 rfl (.tmp rfl) (.tmp rfl)) (by simp [seenX,h0,CR8 hx19 kI.lt])
  · refine Aa0 Tryz.func29 rfl rfl ?_
    refine st ?_;refine zn (New.box rfl) (fun b1=>?_)
    refine zc (zF rfl AR7) (fun w hm=>Ar0 c [] _ rfl h0 q b o cap none 0 0 0 w (hS.mono (by decide) hm (by simp)) hl Sl.emp (by simp)) ?_;refine RunC.cond rfl ?_ (fun h=>absurd h (by simp [h0]))
    intro c0;clear c0;refine su ?_;exact Aa4 (.r2 rfl (.tmp rfl) (.tmp rfl)) (by simp [seenX,h0])
end Go.Proofs.YtnmkdiagbkkmaabGreatDoor
namespace Go.Proofs.YtnmkdiagbkkmaabGreatDoor
open Go Go.Eng Go.Pw1

theorem Ci8 {c:Cd} {l:List Tr} (h:openM c l=0):c.Ok∧c.p.Ok:=by
  obtain ⟨h1,h2,h3⟩:=AM3 h
  have hp:isPair c.p=true:=by
    cases hi:isPair c.p with
    | true=>rfl
    | false=>rw [AX8,hi] at h3;simp at h3
  exact ⟨(AB1 h1).1,Am1 hp⟩
theorem Ci7 {c:Cd} {t:Tr} (h:openM c [t]=0):t.Ok c.cuts∧t.ll + t.lr=t.rl + t.rr:=by
  obtain ⟨h1,h2,h3⟩:=AM3 h;exact AW7 (by simpa using h2)
theorem BL9 (c:Cd) (t:Tr) (q:Option Addr) (b o cap:Nat) (W:World) (hS:Sl W q b o 9 (c.p.things.map Th.cells)) (hl:c.p.things.length≤100000000000) :
    Calls Tryz.prog 126 #[c.v q cap,t.v] W (Pure (.tuple #[.int .i64 (hurtsX c t).1,.int .i64 (hurtsX c t).2.1,.int .i64 (hurtsX c t).2.2]) W):=by
  by_cases h0:openM c [t]=0
  · obtain ⟨hc,hpk⟩:=Ci8 h0
    obtain ⟨ht,_⟩:=Ci7 h0;refine Aa0 Tryz.func126 rfl rfl ?_;refine st ?_;refine zn (New.box rfl) (fun b2=>?_)
    refine zn (New.box rfl) (fun b3=>?_)
    refine zn (New.buildSlice (parts:=[(0,.tmp 10)]) rfl AX2 An6 rfl rfl rfl rfl) (fun b11=>?_)
    refine Ag3 (zF rfl AR7) rfl rfl rfl (fun w hm=>AC7 c [t] h0 q b o cap (some ⟨b11,0,none⟩) b11 0 1 w (hS.mono (by decide) hm (by simp)) hl (Sl.one (hm.at (.head _)) rfl) (by simp)) (fun b12=>?_)
    refine st ?_;refine RunC.cond rfl (fun h=>absurd h (by decide)) ?_;intro c0;clear c0;refine su ?_;refine zc (zF rfl Bp6) (fun w hm=>Au9 _ _ _ _ w) ?_;refine lv (Val.build (parts:=[(0,.tmp 19),(1,.tmp 21)]) rfl AU3 AH5 rfl) ?_;refine zc (zF rfl BH9) (fun w hm=>AP7 c t ht q b o cap b12.1 b12.2 w ⟨hm.at (.head _),hm.at (.tail _ (.head _)),hS.mono (by decide) hm (by simp),hc,hpk⟩) ?_;refine cn rfl ?_ ?_
    ·intro c1'
     refine su ?_;exact Aa4 (.r3 rfl (.tmp rfl) (.tmp rfl) (.tmp rfl)) (by simp_all [hurtsX])
    intro c1';refine su ?_;exact Aa4 (.r3 rfl (.tmp rfl) (.tmp rfl) (.tmp rfl)) (by simp_all [hurtsX])
  · refine Aa0 Tryz.func126 rfl rfl ?_
    refine st ?_;refine zn (New.box rfl) (fun b2=>?_)
    refine zn (New.box rfl) (fun b3=>?_)
    refine zn (New.buildSlice (parts:=[(0,.tmp 10)]) rfl AX2 An6 rfl rfl rfl rfl) (fun b11=>?_)
    refine zc (zF rfl AR7) (fun w hm=>Ar0 c [t] _ rfl h0 q b o cap (some ⟨b11,0,none⟩) b11 0 1 w (hS.mono (by decide) hm (by simp)) hl (Sl.one (hm.at (.head _)) rfl) (by simp)) ?_;refine RunC.cond rfl ?_ (fun h=>absurd h (by simp [h0]))
    intro c0;clear c0;refine su ?_;exact Aa4 (.r3 rfl (.tmp rfl) (.tmp rfl) (.tmp rfl)) (by simp [hurtsX,h0])
end Go.Proofs.YtnmkdiagbkkmaabGreatDoor
namespace Go.Pw1
open Go Go.Eng
end Go.Pw1
namespace Go.Proofs.YtnmkdiagbkkmaabGreatDoor
open Go Go.Eng Go.Pw1

theorem AY6 (a:Int×Int) (l:List (Int×Int)) (q:Option Addr) (b o cap:Nat) (W:World) (hS:Sl W q b o 2 (l.map b2c)) (hl:l.length≤100) :
    Calls Tryz.prog 242 #[b2v a,.slice q l.length cap] W (Pure (b2v (narL a l)) W):=by
  refine Aa0 Tryz.func242 rfl rfl ?_;refine st ?_;refine zn (New.box rfl) (fun b2=>?_)
  refine zn (New.alloc Aj0) (fun b4=>?_)
  refine Ae5 (l.length) (fun k q=>(9,.int .i64 (k:Int))::q) (fun _=>_) (fun k=>[(b2,.cells (b2c (narL a (l.take k))).toArray 195 (0,0))]) (fun _=>True) trivial rfl (zE 9 rfl rfl (zS 7 rfl (zS 8 rfl (zS 2 rfl (zS 4 rfl (Sub.nil _)))))) (.cons (.there .here) rfl (.cons .here rfl .nil)) ?_;intro k kN kI;clear kI;refine st ?_;refine cn rfl ?_ ?_
  ·intro c0'
   have hk:k < l.length:=by omega
   obtain ⟨x,hx⟩:∃ x,l[k]=x:=⟨_,rfl⟩;refine st ?_;refine lv (Aa8 rfl rfl Cf6 (by omega) (by omega) (hS.ptrM hk)) ?_;refine lv (Ab0 rfl (fun w hm=>hS.loadX (by decide) hm (by simp) AA3 hk hx)) ?_;refine zn (New.alloc Aj0) (fun b6=>?_)
   refine Aa9 (Sto.store rfl rfl .here AA3 rfl rfl) rfl rfl ?_;refine su ?_;refine lu (Val.max rfl rfl) ?_;refine lv (Val.min rfl rfl) ?_;refine lv (Val.build (parts:=[(0,.tmp 17),(1,.tmp 22)]) rfl Aj0 Ao5 rfl) ?_;refine Aa9 (Sto.store rfl rfl (.there .here) AA3 rfl rfl) rfl rfl ?_;refine st ?_;refine lv (Val.add rfl rfl (IntWalk.i64_in _ ⟨by omega,by omega⟩)) ?_;exact Ad0 (by omega) trivial rfl (zE 9 rfl rfl (zS 7 rfl (zS 8 rfl (zS 2 rfl (zS 4 rfl (Sub.nil _)))))) (.cons (.there .here) (by rw [List.take_succ_eq_append_getElem hk,Bv2,hx];rfl) (.cons (.there .here) rfl .nil))
  intro c0';obtain rfl:k=l.length:=by omega
  rw [List.take_length];refine RunC.exit ?_;refine su ?_;refine Ab1 ?_;refine su ?_;refine Aa9 (Sto.store rfl rfl (.there .here) AA3 rfl rfl) rfl rfl ?_;refine su ?_;exact Aa4 (.r1 rfl (.agg rfl (.tail _ (.head _)) AA3 rfl)) (by first | rfl | simp)
theorem BU4 (c:Cd) (t:Tr) (ht:t.Ok c.cuts) (q:Option Addr) (b o cap bc bm:Nat) (W:World) (h:CdAt c q b o cap bc bm W) :
    Calls Tryz.prog 228 #[mtV bc t] W (Pure (b2v (roomOf c t)) W):=by
  have hc:=h.ok;have hv:=h.v;have ab:=Br4 hc ht;have wb:=AW1 hc ht;have k1:=hc.e1;have k2:=hc.e2;have k3:=hc.e3;have k4:=hc.p1;have k5:=hc.p2;have k6:=hc.q1;have k7:=hc.q2;have k8:=hc.f1;have k9:=hc.f2;have k10:=hc.d1;have k11:=hc.d2;refine Aa0 Tryz.func228 rfl rfl ?_;refine st ?_;refine zn (New.box rfl) (fun b1=>?_)
  refine zn (New.alloc Aj0) (fun b2=>?_)
  refine lv (Val.build (parts:=[(0,.const (.int .i64 0)),(1,.const (.int .i64 2000))]) rfl Aj0 Ao5 rfl) ?_;refine Ac4 3 Aj3 (.cons .here rfl (.cons .here rfl .nil)) ?_;refine zw 0 ?_;refine zw 2 ?_;refine zA 1 ?_;refine Ab5 rfl (zF rfl BH7) rfl rfl rfl (fun w hm=>AE6 c hc t ht q cap bc bm w (hm.old_at hv (by simp))) (Aa7 (.cons .here rfl (.cons .here rfl .nil)) (.cons .here rfl (.cons .here rfl .nil)) rfl ?_)
  refine zt ?_;refine zq 3 rfl (zF rfl BH6) (fun w hm=>AL0 c hc t ht q cap bc bm w (hm.old_at hv (by simp))) ?_;refine zp 4 ?_;refine zp 5 ?_;refine zd ?_;refine st ?_;refine Ac4 52 Aj3 (.cons .here rfl (.cons .here rfl .nil)) ?_;refine zw 0 ?_;refine zw 1 ?_;refine zw 2 ?_;refine zw 3 ?_;refine zw 4 ?_;refine zw 5 ?_;refine zw 6 ?_;refine zv 7 rfl (Aa2 rfl hv (by simp) Ag4 rfl) ?_;refine zv 8 rfl (Ae9 rfl rfl (IntWalk.i64_in _ ⟨by omega,by omega⟩)) ?_;refine zw 9 ?_;refine zw 10 ?_;refine zw 11 ?_;refine zw 12 ?_;refine zw 13 ?_;refine zw 14 ?_;refine zv 15 rfl (Aa2 rfl hv (by simp) Ag4 rfl) ?_;refine zv 16 rfl (Val.add rfl rfl (IntWalk.i64_in _ ⟨by omega,by omega⟩)) ?_;refine zv 17 rfl (Val.build (parts:=[(0,.tmp 20),(1,.tmp 28)]) rfl Aj0 Ao5 rfl) ?_;refine zw 18 ?_;refine zw 19 ?_;refine zw 20 ?_;refine zw 21 ?_;refine zw 22 ?_;refine zw 23 ?_;refine zw 24 ?_;refine zv 25 rfl (Aa2 rfl hv (by simp) Ag4 rfl) ?_;refine zv 26 rfl (Ae9 rfl rfl (IntWalk.i64_in _ ⟨by omega,by omega⟩)) ?_;refine zw 27 ?_;refine zw 28 ?_;refine zw 29 ?_;refine zw 30 ?_;refine zw 31 ?_;refine zv 32 rfl (Aa2 rfl hv (by simp) Ag4 rfl) ?_;refine zv 33 rfl (Ae9 rfl rfl (IntWalk.i64_in _ ⟨by omega,by omega⟩)) ?_;refine zw 34 ?_;refine zw 35 ?_;refine zw 36 ?_;refine zw 37 ?_;refine zw 38 ?_;refine zw 39 ?_;refine zw 40 ?_;refine zv 41 rfl (Aa2 rfl hv (by simp) Ag4 rfl) ?_;refine zv 42 rfl (Ae9 rfl rfl (IntWalk.i64_in _ ⟨by omega,by omega⟩)) ?_;refine zw 43 ?_;refine zw 44 ?_;refine zw 45 ?_;refine zw 46 ?_;refine zw 47 ?_;refine zv 48 rfl (Aa2 rfl hv (by simp) Ag4 rfl) ?_;refine zv 49 rfl (Val.add rfl rfl (IntWalk.i64_in _ ⟨by omega,by omega⟩)) ?_;refine zv 50 rfl (Val.build (parts:=[(0,.tmp 45),(1,.tmp 61)]) rfl Aj0 Ao5 rfl) ?_;refine zA 51 ?_;refine Ac6 rfl (New.buildSlice (parts:=[(0,.tmp 29),(1,.tmp 62)]) rfl Cf6 Aj0 rfl rfl rfl rfl) rfl rfl rfl (fun b63=>(Aa7 (.cons .here rfl (.cons .here rfl (.cons .here rfl .nil))) (.cons (.there .here) rfl (.cons (.there .here) rfl .nil)) rfl ?_))
  refine zt ?_;refine zB 52 ?_;refine Ab5 rfl (Ac5 rfl rfl CU4) rfl rfl rfl (fun w hm=>AY6 (0,2000) [(windowM c t - c.deep,windowM c t + c.front),(apartM c t - c.eyes.lo - c.prism,apartM c t - c.eyes.hi + c.squeeze)] (some ⟨b63,0,none⟩) b63 0 2 w (Sl.rows (hm.at (.head _)) (by simp [b2c])) (by simp)) (Ab9 ?_)
  refine zB 53 ?_;refine Ac0 rfl (Sto.store rfl rfl (.there .here) AA3 rfl rfl) rfl rfl (Ab9 ?_)
  refine zd ?_;refine su ?_;exact Aa4 (.r1 rfl (.agg rfl (.tail _ (.head _)) AA3 rfl)) (by first | rfl | simp)
theorem Bk9 (c:Cd) (t:Tr) (q:Option Addr) (b o cap:Nat) (W:World) (hS:Sl W q b o 9 (c.p.things.map Th.cells)) (hl:c.p.things.length≤100000000000) :
    Calls Tryz.prog 189 #[c.v q cap,t.v] W (Pure (.tuple #[b2v (roomX c t).1,.int .i64 (roomX c t).2]) W):=by
  by_cases h0:openM c [t]=0
  · obtain ⟨hc,hpk⟩:=Ci8 h0
    obtain ⟨ht,_⟩:=Ci7 h0;refine Aa0 Tryz.func189 rfl rfl ?_;refine st ?_;refine zn (New.box rfl) (fun b2=>?_)
    refine zn (New.box rfl) (fun b3=>?_)
    refine zn (New.alloc Ae2) (fun b4=>?_)
    refine zn (New.buildSlice (parts:=[(0,.tmp 11)]) rfl AX2 An6 rfl rfl rfl rfl) (fun b12=>?_)
    refine Ag3 (zF rfl AR7) rfl rfl rfl (fun w hm=>AC7 c [t] h0 q b o cap (some ⟨b12,0,none⟩) b12 0 1 w (hS.mono (by decide) hm (by simp)) hl (Sl.one (hm.at (.head _)) rfl) (by simp)) (fun b13=>?_)
    refine st ?_;refine RunC.cond rfl (fun h=>absurd h (by decide)) ?_;intro c0;clear c0;refine su ?_;refine zc (zF rfl Bp6) (fun w hm=>Au9 _ _ _ _ w) ?_;refine lv (Val.build (parts:=[(0,.tmp 20),(1,.tmp 22)]) rfl AU3 AH5 rfl) ?_;refine zc (zF rfl CU9) (fun w hm=>BU4 c t ht q b o cap b13.1 b13.2 w ⟨hm.at (.head _),hm.at (.tail _ (.head _)),hS.mono (by decide) hm (by simp),hc,hpk⟩) ?_;refine zn (New.alloc Aj0) (fun b8=>?_)
    refine Aa9 (Sto.store rfl rfl .here AA3 rfl rfl) rfl rfl ?_;refine su ?_;refine zc (zF rfl Cq9) (fun w hm=>AR1 (_,_) w) ?_;refine cn rfl ?_ ?_
    ·intro c1'
     have c1r:(roomOf c t).2 < (roomOf c t).1:=c1';refine st ?_;refine lv (Val.build (parts:=[]) rfl Ae2 Al9 rfl) ?_;refine Aa9 (Sto.store rfl rfl (.there (.there (.there (.there .here)))) Ag5 rfl rfl) rfl rfl ?_;refine su ?_;exact Aa4 (.r2 rfl (.agg rfl (.tail _ (.tail _ (.tail _ (.tail _ (.head _))))) Ag5 rfl) (.tmp rfl)) (by rw [roomX,if_pos h0,if_pos c1r];rfl)
    intro c1';have c1r:¬ (roomOf c t).2 < (roomOf c t).1:=Int.not_lt.2 c1';refine su ?_;refine zc (zF rfl Cq8) (fun w hm=>AY4 (_,_) w) ?_;refine Aa9 (Sto.store rfl rfl (.there (.there (.there (.there .here)))) Ag5 rfl rfl) rfl rfl ?_;refine su ?_;exact Aa4 (.r2 rfl (.agg rfl (.tail _ (.tail _ (.tail _ (.tail _ (.head _))))) Ag5 rfl) (.tmp rfl)) (by rw [roomX,if_pos h0,if_neg c1r];rfl)
  · refine Aa0 Tryz.func189 rfl rfl ?_
    refine st ?_;refine zn (New.box rfl) (fun b2=>?_)
    refine zn (New.box rfl) (fun b3=>?_)
    refine zn (New.alloc Ae2) (fun b4=>?_)
    refine zn (New.buildSlice (parts:=[(0,.tmp 11)]) rfl AX2 An6 rfl rfl rfl rfl) (fun b12=>?_)
    refine zc (zF rfl AR7) (fun w hm=>Ar0 c [t] _ rfl h0 q b o cap (some ⟨b12,0,none⟩) b12 0 1 w (hS.mono (by decide) hm (by simp)) hl (Sl.one (hm.at (.head _)) rfl) (by simp)) ?_;refine RunC.cond rfl ?_ (fun h=>absurd h (by simp [h0]))
    intro c0;clear c0;refine st ?_;refine lv (Val.build (parts:=[]) rfl Ae2 Al9 rfl) ?_;refine Aa9 (Sto.store rfl rfl (.there .here) Ag5 rfl rfl) rfl rfl ?_;refine su ?_;exact Aa4 (.r2 rfl (.agg rfl (.tail _ (.head _)) Ag5 rfl) (.tmp rfl)) (by simp [roomX,h0,b2v])
end Go.Proofs.YtnmkdiagbkkmaabGreatDoor
