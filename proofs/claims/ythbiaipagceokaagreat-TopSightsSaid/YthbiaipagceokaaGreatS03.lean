/- Walks of package chart: charts whose circles are all right; where a station can lie. -/
import Derived.Test.YthbiaipagceokaaGreatS02
import Derived.Test.YthbiaipagceokaaGreatProg
set_option linter.unusedSimpArgs false
set_option linter.unusedVariables false
set_option linter.unusedSectionVars false
namespace Go.Ct
open Go Go.Eng Go.Pw1
section
variable {P : Program} {f : FuncId} {args : Array Value} {w : World}
theorem AF0 {mis : Int → Value} {x : Except Int Value} {v : Value} (h : Calls P f args w (Try mis x w)) (hx : x = .ok v) : Calls P f args w (Pure v w) :=
  h.mono fun e w' hR => by subst hx; exact hR
theorem AE9 {α β : Type} {mis : Int → Value} {x : Except Int α} {a : α} {v : β → Value} {nw : β → Blks} (h : Calls P f args w (TryB mis x v nw w)) (hx : x = .ok a) : Calls P f args w (News v nw w) :=
  h.mono fun e w' hR => by subst hx; exact hR
end
end Go.Ct
namespace Go.Proofs.YthbiaipagceokaaGreat
open Go Go.Eng Go.Ct Go.RowKit
open Go.Pw1 (Ai5 Ah0 needX within idxF Ah2 Ap7 Ai1 Ag9 Ai7)
theorem BL1 (e : Int) (W : World) : Calls Tryz.prog 44 #[.bool true, .int .i64 e] W (Pure (.tuple #[]) W) := AF0 (Av4 true e W) rfl
section
variable (c : ChA) (hc : ChOk c.pl) (bv m : Nat) (l : Lk) (hl : LkOk c.pl l) (nx : Bool) (x1 x5 : Nat) (W : World) (hS : c.Ok W) (hv : W.heap[bv]? = some (ctO c m)) (h1 : W.heap[x1]? = some (x1O bv)) (h5 : W.heap[x5]? = some (.cells [.func (.func (axF nx)) #[] #[]].toArray 82 (0, 0)))
include hc hl hS hv h1 h5
theorem AW2 : Calls Tryz.prog 51 #[l.v, pV x1, pV x5] W (Pure (.int .i64 (spanL c.pl nx l).lo) W) := by
  refine Aa2 Tryz.func51 rfl rfl ?_
  refine st ?_
  refine zn (New.box rfl) (fun b3 => ?_)
  refine lu (Aa4 rfl h1 (by simp) Bn8 rfl) ?_
  refine lv (Ap0 rfl h5 (by simp) AH6 rfl) ?_
  refine zc (zF rfl BB3) (fun w hm => AF8 c hc bv m l hl nx w (hS.mono0 hm) (hm.old_at hv (by simp))) ?_
  refine lu (Val.field rfl Av0 rfl) ?_
  exact Aa7 (.r1 rfl (.tmp rfl)) (by first | rfl | simp)
theorem AW1 : Calls Tryz.prog 53 #[l.v, pV x1, pV x5] W (Pure (.int .i64 (spanL c.pl nx l).hi) W) := by
  refine Aa2 Tryz.func53 rfl rfl ?_
  refine st ?_
  refine zn (New.box rfl) (fun b3 => ?_)
  refine lu (Aa4 rfl h1 (by simp) Bn8 rfl) ?_
  refine lv (Ap0 rfl h5 (by simp) AH6 rfl) ?_
  refine zc (zF rfl BB3) (fun w hm => AF8 c hc bv m l hl nx w (hS.mono0 hm) (hm.old_at hv (by simp))) ?_
  refine lu (Val.field rfl AB5 rfl) ?_
  exact Aa7 (.r1 rfl (.tmp rfl)) (by first | rfl | simp)
end
-- BB4
-- BB2
abbrev nSO : Obj := .cells [Value.slice none 0 0].toArray 91 (0, 0)
set_option maxHeartbeats 1000000 in
theorem AJ5 (c : ChA) (hc : ChOk c.pl) (hR : RightC c.pl) (bv m : Nat) (es : List (Int × Value)) (W : World) (hS : c.Ok W) (hv : W.heap[bv]? = some (ctO c m)) (hF : FrOk W c.pl m es) : Calls Tryz.prog 33 #[pV bv] W (Pure (.slice none 0 0) W) := by
  refine As6 Tryz.func33 rfl rfl ?_
  refine csr ?_
  refine Ad9 (New.box rfl) rfl rfl rfl (fun b1 => ?_)
  refine Ad9 (New.alloc BQ7) rfl rfl rfl (fun b2 => ?_)
  refine nnx ?_
  refine RunC.seq ?_
  refine csr ?_
  refine Aa1 (Aa3 rfl (.tail _ (.head _)) Bn8 rfl) rfl rfl rfl ?_
  refine Ai4 (Ab7 rfl Cc6) rfl rfl rfl (fun w hm => AU7 bv w) (fun b12 => ?_)
  refine nnx ?_
  refine RunC.block ?_
  refine AO3 (Ab5 _) (news' := [(b12, x1O bv), (b2, nSO), (b1, x1O bv)] ++ ([])) (.cons .here rfl (.cons .here rfl (.cons .here rfl .nil))) ?_
  refine Bh6 (α := El) (X := Unit) (Y := Unit) (encs := encE) (fun v y q => (3, .slice (ownQ v.2) v.1.length (ownC v.2)) :: q) (fun v y => []) (fun x => [(b1, x1O bv), (b2, nSO)]) (fun _ _ => True) (fun _ _ => False) () trivial ([]) (Sub.cons (t := 1) rfl (Sub.cons (t := 2) rfl (Sub.nil _))) (Pick.cnt fun x => by simp only [nC]; omega) (fun _ => rfl) rfl rfl BO5 (BC5 c hc bv m es W hS hv hF b12) ?_ ?_ ?_ ?_
  ·intro l D ob pre v x tl hI hsp
   have hvo := hsp v (by simp)
   have hov : ownV v.2 v.1.length = .slice (ownQ v.2) v.1.length (ownC v.2) := Af8 hvo.2.2
   refine AR8 (Ab5 _) (news' := [(l, ob), (D, dfrO), (b1, x1O bv), (b2, nSO)] ++ (ebE 120 v ++ tl)) (Pick.cnt fun x => by simp only [nC]; omega) ?_
   refine Ad5 ?_
   refine vp rfl rfl rfl rfl ?_
   refine RunL.nil ?_
   exact BD9 () (Ad4 (t := 3) rfl hov (Sub.cons (t := 1) rfl (Sub.cons (t := 2) rfl (Sub.nil _)))) (Pick.cnt fun x => by simp only [nC]; omega)
  ·intro l D ob pre v y x tl hI hsp hlen
   have hvo := hsp v (by simp)
   have hfew := hc.few
   have hvl := hvo.2.1.len
   have hrg : ∀ t ∈ v.1, ∀ nx, -2000000000 ≤ (spanL c.pl nx t).lo ∧ (spanL c.pl nx t).lo ≤ 2000000000 := fun t ht nx => by (have h9 := AC7 hc nx (hvo.2.1.ok t ht); omega)
   have hrh : ∀ t ∈ v.1, ∀ nx, -2000000000 ≤ (spanL c.pl nx t).hi ∧ (spanL c.pl nx t).hi ≤ 2000000000 := fun t ht nx => by (have h9 := AC7 hc nx (hvo.2.1.ok t ht); omega)
   refine AR8 (Ab5 _) (news' := [(l, ob), (D, dfrO), (b1, x1O bv), (b2, nSO)] ++ (ebE 120 v ++ tl)) (Pick.cnt fun x => by simp only [nC]; omega) ?_
   refine RunCR.block ?_
   refine RunCR.seq ?_
   refine Ad5 ?_
   refine Ab3 (Ab7 rfl Bl6) rfl rfl rfl (fun w hm => Az2 w) ?_
   refine vp rfl rfl rfl rfl ?_
   refine RunL.nil ?_
   refine RunER.next ?_
   refine RunCR.block ?_
   refine Bc9 2 ?_
   refine RunCR.seq ?_
   refine Ad5 ?_
   refine vp rfl rfl rfl rfl ?_
   refine RunL.nil ?_
   refine RunER.next ?_
   refine RunCR.seq ?_
   refine RunCR.cond rfl ?_ (fun h => absurd h (by decide))
   intro c0
   clear c0
   refine RunCR.skip ?_
   refine RunER.next ?_
   refine RunCR.seq ?_
   refine RunCR.block ?_
   refine RunCR.seq ?_
   refine Ad5 ?_
   refine Aa1 (Az3 rfl rfl AV5 (by decide) (by decide) rfl) rfl rfl rfl ?_
   refine Ad9 (New.alloc AF7) rfl rfl rfl (fun b5u0 => ?_)
   refine Aa9 (Sto.store rfl rfl .here AH6 rfl rfl) rfl rfl ?_
   refine RunL.nil ?_
   refine RunER.next ?_
   refine RunCR.seq ?_
   refine Ad5 ?_
   refine vp rfl rfl rfl rfl ?_
   refine vp rfl rfl rfl rfl ?_
   refine Ab3 (Ab7 rfl Bl1) rfl rfl rfl (fun w hm => Ay9 (fun l => (spanL c.pl false l).lo) v.1 (ownQ v.2) (ownK v.2) 0 (ownC v.2) 51 [pV b1, pV b5u0] w (Ai6 (f := Lk.cells) (fun _ => rfl) (by decide) hvo.2.2 (fun b o h => hm.at (.tail _ (.tail _ (.tail _ (.tail _ (.tail _ ((by first | exact List.mem_append_left _ h | exact List.mem_append_right _ (List.mem_append_left _ h)))))))))) (by omega) BB4 (fun t ht => hrg t ht false) (fun t ht w2 hm2 => AW2 c hc bv m t (hvo.2.1.ok t ht) false b1 b5u0 w2 (hS.mono0 (hm.trans hm2)) ((hm.trans hm2).old_at hv (by simp)) (hm2.old_at (hm.at (.tail _ (.tail _ (.tail _ (.head _))))) (by simp)) (hm2.old_at (hm.at (.head _)) (by simp)))) ?_
   refine vp rfl rfl rfl rfl ?_
   refine RunL.nil ?_
   refine RunER.next ?_
   refine RunCR.seq ?_
   refine Ad5 ?_
   refine vp rfl rfl rfl rfl ?_
   refine vp rfl rfl rfl rfl ?_
   refine Ab3 (Ab7 rfl Bl1) rfl rfl rfl (fun w hm => Ay9 (fun l => (spanL c.pl false l).hi) v.1 (ownQ v.2) (ownK v.2) 0 (ownC v.2) 53 [pV b1, pV b5u0] w (Ai6 (f := Lk.cells) (fun _ => rfl) (by decide) hvo.2.2 (fun b o h => hm.at (.tail _ (.tail _ (.tail _ (.tail _ (.tail _ ((by first | exact List.mem_append_left _ h | exact List.mem_append_right _ (List.mem_append_left _ h)))))))))) (by omega) BB2 (fun t ht => hrh t ht false) (fun t ht w2 hm2 => AW1 c hc bv m t (hvo.2.1.ok t ht) false b1 b5u0 w2 (hS.mono0 (hm.trans hm2)) ((hm.trans hm2).old_at hv (by simp)) (hm2.old_at (hm.at (.tail _ (.tail _ (.tail _ (.head _))))) (by simp)) (hm2.old_at (hm.at (.head _)) (by simp)))) ?_
   refine vp rfl rfl rfl rfl ?_
   refine RunL.nil ?_
   refine RunER.next ?_
   refine RunCR.seq ?_
   refine Ad5 ?_
   iterate 3 refine vp rfl rfl rfl rfl ?_
   refine Ad3 (dj := 26) (dp := 29) 3 rfl (fun g26 => by
     have g26' := g26
     try simp only [nH] at g26'
     iterate 3 refine vp rfl rfl rfl rfl ?_
     exact Ac2 (Sub.cons rfl (Sub.skip rfl (Sub.skip rfl (Sub.skip rfl (Ad8 rfl (by rw [g26]) (Ab5 _)))))) (List.Sublist.refl _)
   ) (fun g26 => by
     have g26' := g26
     try simp only [nH] at g26'
     refine Ac6 rfl rfl rfl ?_
     refine Ac6 rfl rfl rfl ?_
     refine vp rfl rfl rfl rfl ?_
     exact Ac2 (Sub.cons rfl (Sub.skip rfl (Sub.skip rfl (Sub.skip rfl (Ad8 rfl (by rw [g26]) (Ab5 _)))))) (List.Sublist.refl _)
   ) ?_
   refine RunL.nil ?_
   refine RunER.next ?_
   refine RunCR.cond rfl (fun h => absurd h (by have h8 := hR v.1 hvo.1 false; have h9 := hR v.1 hvo.1 true; unfold loL hiL at h8 h9; simp; omega)) ?_
   intro c1
   clear c1
   refine RunCR.skip ?_
   refine Ad0 ?_
   refine RunER.next ?_
   refine Ad5 ?_
   refine Aa1 (Val.add rfl rfl (IntWalk.i64_in _ ⟨by decide, by decide⟩)) rfl rfl rfl ?_
   refine vp rfl rfl rfl rfl ?_
   refine RunL.nil ?_
   refine Aj2 (Sub.cons (t := 1) rfl (Sub.cons (t := 2) rfl (Sub.cons (t := 3) rfl (Sub.cons (t := 14) rfl (Sub.cons (t := 15) rfl (Sub.nil _)))))) (.cons (.there .here) rfl (.cons (.there .here) rfl (.cons (.there .here) rfl (.cons (.there .here) rfl (Pick.skip (Pick.refl _)))))) ?_
   refine AH4 ?_
   refine RunCR.seq ?_
   refine Ad5 ?_
   refine vp rfl rfl rfl rfl ?_
   refine RunL.nil ?_
   refine RunER.next ?_
   refine RunCR.seq ?_
   refine RunCR.cond rfl ?_ (fun h => absurd h (by decide))
   intro c0
   clear c0
   refine RunCR.skip ?_
   refine RunER.next ?_
   refine RunCR.seq ?_
   refine RunCR.block ?_
   refine RunCR.seq ?_
   refine Ad5 ?_
   refine Aa1 (Az3 rfl rfl AV5 (by decide) (by decide) rfl) rfl rfl rfl ?_
   refine Ad9 (New.alloc AF7) rfl rfl rfl (fun b5u1 => ?_)
   refine Aa9 (Sto.store rfl rfl .here AH6 rfl rfl) rfl rfl ?_
   refine RunL.nil ?_
   refine RunER.next ?_
   refine RunCR.seq ?_
   refine Ad5 ?_
   refine vp rfl rfl rfl rfl ?_
   refine vp rfl rfl rfl rfl ?_
   refine Ab3 (Ab7 rfl Bl1) rfl rfl rfl (fun w hm => Ay9 (fun l => (spanL c.pl true l).lo) v.1 (ownQ v.2) (ownK v.2) 0 (ownC v.2) 51 [pV b1, pV b5u1] w (Ai6 (f := Lk.cells) (fun _ => rfl) (by decide) hvo.2.2 (fun b o h => hm.at (.tail _ (.tail _ (.tail _ (.tail _ (.tail _ ((by first | exact List.mem_append_left _ h | exact List.mem_append_right _ (List.mem_append_left _ h)))))))))) (by omega) BB4 (fun t ht => hrg t ht true) (fun t ht w2 hm2 => AW2 c hc bv m t (hvo.2.1.ok t ht) true b1 b5u1 w2 (hS.mono0 (hm.trans hm2)) ((hm.trans hm2).old_at hv (by simp)) (hm2.old_at (hm.at (.tail _ (.tail _ (.tail _ (.head _))))) (by simp)) (hm2.old_at (hm.at (.head _)) (by simp)))) ?_
   refine vp rfl rfl rfl rfl ?_
   refine RunL.nil ?_
   refine RunER.next ?_
   refine RunCR.seq ?_
   refine Ad5 ?_
   refine vp rfl rfl rfl rfl ?_
   refine vp rfl rfl rfl rfl ?_
   refine Ab3 (Ab7 rfl Bl1) rfl rfl rfl (fun w hm => Ay9 (fun l => (spanL c.pl true l).hi) v.1 (ownQ v.2) (ownK v.2) 0 (ownC v.2) 53 [pV b1, pV b5u1] w (Ai6 (f := Lk.cells) (fun _ => rfl) (by decide) hvo.2.2 (fun b o h => hm.at (.tail _ (.tail _ (.tail _ (.tail _ (.tail _ ((by first | exact List.mem_append_left _ h | exact List.mem_append_right _ (List.mem_append_left _ h)))))))))) (by omega) BB2 (fun t ht => hrh t ht true) (fun t ht w2 hm2 => AW1 c hc bv m t (hvo.2.1.ok t ht) true b1 b5u1 w2 (hS.mono0 (hm.trans hm2)) ((hm.trans hm2).old_at hv (by simp)) (hm2.old_at (hm.at (.tail _ (.tail _ (.tail _ (.head _))))) (by simp)) (hm2.old_at (hm.at (.head _)) (by simp)))) ?_
   refine vp rfl rfl rfl rfl ?_
   refine RunL.nil ?_
   refine RunER.next ?_
   refine RunCR.seq ?_
   refine Ad5 ?_
   iterate 3 refine vp rfl rfl rfl rfl ?_
   refine Ad3 (dj := 26) (dp := 29) 3 rfl (fun g26 => by
     have g26' := g26
     try simp only [nH] at g26'
     iterate 3 refine vp rfl rfl rfl rfl ?_
     exact Ac2 (Sub.cons rfl (Sub.skip rfl (Sub.skip rfl (Sub.skip rfl (Ad8 rfl (by rw [g26]) (Ab5 _)))))) (List.Sublist.refl _)
   ) (fun g26 => by
     have g26' := g26
     try simp only [nH] at g26'
     refine Ac6 rfl rfl rfl ?_
     refine Ac6 rfl rfl rfl ?_
     refine vp rfl rfl rfl rfl ?_
     exact Ac2 (Sub.cons rfl (Sub.skip rfl (Sub.skip rfl (Sub.skip rfl (Ad8 rfl (by rw [g26]) (Ab5 _)))))) (List.Sublist.refl _)
   ) ?_
   refine RunL.nil ?_
   refine RunER.next ?_
   refine RunCR.cond rfl (fun h => absurd h (by have h8 := hR v.1 hvo.1 false; have h9 := hR v.1 hvo.1 true; unfold loL hiL at h8 h9; simp; omega)) ?_
   intro c1
   clear c1
   refine RunCR.skip ?_
   refine Ad0 ?_
   refine RunER.next ?_
   refine Ad5 ?_
   refine Aa1 (Val.add rfl rfl (IntWalk.i64_in _ ⟨by decide, by decide⟩)) rfl rfl rfl ?_
   refine vp rfl rfl rfl rfl ?_
   refine RunL.nil ?_
   refine Aj2 (Sub.cons (t := 1) rfl (Sub.cons (t := 2) rfl (Sub.cons (t := 3) rfl (Sub.cons (t := 14) rfl (Sub.cons (t := 15) rfl (Sub.nil _)))))) (.cons (.there .here) rfl (.cons (.there .here) rfl (.cons (.there .here) rfl (.cons (.there .here) rfl (Pick.skip (Pick.refl _)))))) ?_
   refine AH4 ?_
   refine RunCR.seq ?_
   refine Ad5 ?_
   refine vp rfl rfl rfl rfl ?_
   refine RunL.nil ?_
   refine RunER.next ?_
   refine RunCR.seq ?_
   refine RunCR.cond rfl (fun h => absurd h (by decide)) ?_
   intro c0
   clear c0
   refine RunCR.exit ?_
   refine Ac0 ?_
   refine Ac0 ?_
   refine Ab2 ?_
   refine Ad0 ?_
   exact Bs7 () trivial (Pick.cnt fun x => by simp only [nC]; omega)
  ·intro D xs x hS hI
   refine Ad0 ?_
   refine RunE.next ?_
   refine csr ?_
   refine Aa1 (Aa3 rfl (.tail _ (.tail _ (.head _))) Bt4 rfl) rfl rfl rfl ?_
   refine Ab3 (Ab7 rfl Cc5) rfl rfl rfl (fun w hm => Be1 _ w) ?_
   refine nsr ?_
   refine Aa1 (Aa3 rfl (.tail _ (.tail _ (.head _))) Bt4 rfl) rfl rfl rfl ?_
   refine Ab3 (Ab7 rfl Cc4) rfl rfl rfl (fun w hm => Bg5 w) ?_
   refine Aa9 (Sto.store rfl rfl (.there (.there .here)) Bt4 rfl rfl) rfl rfl ?_
   refine nnx ?_
   refine RunC.ret ?_
   exact AN9 [D] (.cons .here rfl (.cons .here rfl (.cons .here rfl .nil))) (.r1 rfl (.one rfl (.tail _ (.head _)) Bt4 rfl)) (AT2 (by first | rfl | simp))
  intro _ _ _ hst
  exact hst.elim
theorem AA6 (c : ChA) (hc : ChOk c.pl) (hR : RightC c.pl) (bv m : Nat) (es : List (Int × Value)) (W : World) (hS : c.Ok W) (hv : W.heap[bv]? = some (ctO c m)) (hF : FrOk W c.pl m es) : Calls Tryz.prog 30 #[pV bv] W (Pure (.tuple #[]) W) := by
  refine Aa2 Tryz.func30 rfl rfl ?_
  refine RunC.region ?_
  refine vp rfl rfl rfl rfl ?_
  refine Ab3 (Ab7 rfl BP8) rfl rfl rfl (fun w hm => AJ5 c hc hR bv m es w (hS.mono0 hm) (hm.old_at hv (by simp)) (hF.mono0 hm)) ?_
  refine Aa1 (Ag7 rfl Bu6) rfl rfl rfl ?_
  refine vp rfl rfl rfl rfl ?_
  refine Ab3 (Ab7 rfl Bl2) rfl rfl rfl (fun w hm => BL1 _ w) ?_
  refine RunL.nil ?_
  exact AO0 (.r0 rfl) (by first | rfl | simp)
end Go.Proofs.YthbiaipagceokaaGreat
namespace Go.Proofs.YthbiaipagceokaaGreat
open Go Go.Eng
theorem BY4 : apB Tryz.prog 46 = some (54, 2, 16) := by kernel_rfl
theorem Bn3 : arrB Tryz.prog 83 = some (2, 1) := by kernel_rfl
theorem Bl8 : Enters Tryz.prog 28 := Aa6 Tryz.func28 (by kernel_rfl) rfl
theorem Bl7 : Enters Tryz.prog 29 := Aa6 Tryz.func29 (by kernel_rfl) rfl
theorem BB9 : Enters Tryz.prog 30 := Aa6 Tryz.func30 (by kernel_rfl) rfl
theorem Bl5 : Enters Tryz.prog 32 := Aa6 Tryz.func32 (by kernel_rfl) rfl
theorem AY0 : placesB Tryz.prog 54 = some [(0, 1), (1, 1)] := by kernel_rfl
theorem BG7 : slB Tryz.prog 46 = some (54, 2) := by kernel_rfl
instance : Slc Tryz.prog 46 54 2 := ⟨BG7⟩
theorem AJ4 : zeroB Tryz.prog 54 = some [.int .i64 0, .int .i64 0] := by kernel_rfl
end Go.Proofs.YthbiaipagceokaaGreat
namespace Go.Ct
open Go Go.Eng Go.Pw1
section
variable {P : Program} {ops : Array Oper} {Q : Exit → Act → World → Prop} {n : Nat} {r : Regs} {ds : List Deferred} {W : World} {chg news : Blks} {rest : List Oper}
variable {d : Nat} {ty : TypeId} {pos : String} {after : Array Edge} {dst : Option Tmp} {gd : Option (Nat × Bool)}
/-- A slice that is made with nothing in it, and room. -/
theorem AO9 {x y : Operand} {T e : TypeId} {n sz by_ : Nat} {p : Int} {zs : List Value} {kx ky : IntKind} (hx : rev r x = some (.int kx 0)) (hy : rev r y = some (.int ky p)) (hp : p = (n : Int)) (hT : apB P T = some (e, sz, by_)) (hz : zeroB P e = some zs) (hn : n ≤ 10000) (hb : by_ ≤ 1000) (hs : sz ≤ 100) :
    New P r W chg news { dst, op := .makeSlice T x y, type := ty, pos, after, guard := gd } (fun b => .slice (some ⟨b, 0, none⟩) 0 n) (.cells (madeCells zs.toArray (n * sz)).toList.toArray e (0, 0)) :=
  ⟨fun a w ha _ => by
    subst hp
    obtain ⟨hu, i, zz, hi, hzi, h2, h3, _, _⟩ := AV7 hT
    unfold zeroB at hz
    simp only [hi, hzi, Option.bind_some, Option.map_some, Option.some.injEq] at hz
    have hz2 : zz.cells = zs.toArray := by
      apply Array.toList_inj.1
      rw [hz]
    have hb2 : (i.bytes : Int) * (n : Int) ≤ 281474976710656 := by
      have h4 : i.bytes * n ≤ 1000 * 10000 := Nat.mul_le_mul (by omega) hn
      have h5 : ((i.bytes * n : Nat) : Int) ≤ 281474976710656 := by omega
      rwa [Int.natCast_mul] at h5
    have hc2 : n * i.size ≤ 16777216 := Nat.le_trans (Nat.mul_le_mul hn (show i.size ≤ 100 by omega)) (by decide)
    have hr := run_makeSlice (P := P) w T e i zz hu hi hzi kx ky 0 n (by omega) (by omega) (by simpa using hc2) hb2 (by omega)
    rw [h2, hz2, Int.toNat_natCast] at hr
    simp [execOp, ha.eval hx, ha.eval hy, hr]⟩
end
section
variable {P : Program} {n : Nat} {r : Regs} {W : World} {news : Blks}
theorem Bs5 {fn : Func} {f : FuncId} {T : TypeId} {mis : Int → Value} {v : Value} {b : Nat} {R : Ending → World → Prop} (hc : Catches P f T mis) (he : Enters P f) (hv : ResVs P r news fn v) (hR : ∀ w, Mem W [] news w → R (.returned v) w) :
    RunE (bodyPostD P fn R) n .ret r [{ target := .fn (.func f) #[], args := #[.pointer (some ⟨b, 0, none⟩)] }] W [] news := fun a w s => by
  show Leaves P fn a.tmps R a.defers _ w
  rw [s.defers]
  refine leaves_cons (f := f) (args := #[.pointer (some ⟨b, 0, none⟩)]) (by simp) (by simp [invoke]; exact he _ _) ?_
  refine (hc.calm b w).mono ?_
  rintro e u w' ⟨⟨x, rfl⟩, rfl, hm⟩
  have hm2 := s.mem.pass hm
  exact ⟨v, hv.run s.agree (fun _ _ h => hm2.at (by simpa using h)), hR _ hm2⟩
end
theorem BT3 (zs : List Value) (n sz b : Nat) (hn : n ≤ 10000) : OwnOk sz (some (b, n, (madeCells zs.toArray (n * sz)).toList)) 0 [] :=
  ⟨by simp, fun h => (by cases h), fun b' c' r' h => (by
    cases h
    refine ⟨Nat.zero_le _, Nat.le_trans hn (by decide), ?_⟩
    simp [madeCells])⟩
theorem Bw3 {e : TypeId} {b c : Nat} {l xs : List Value} : ownB e (some (b, c, l)) xs = [(b, .cells (xs ++ l).toArray e (0, 0))] := rfl
structure Spt where
  e : Int
  n : Int
def Spt.cells (s : Spt) : List Value := [.int .i64 s.e, .int .i64 s.n]
def drawL (c : Ch) (n : Nat) : List Spt := (List.range n).map fun (i : Nat) => ⟨-(iFind (boundsX c (i : Int) false 0) 0).getD 0, -(iFind (boundsX c (i : Int) true 0) 0).getD 0⟩
theorem BW8 (c : Ch) (n : Nat) : drawL c (n + 1) = drawL c n ++ [⟨-(iFind (boundsX c (n : Int) false 0) 0).getD 0, -(iFind (boundsX c (n : Int) true 0) 0).getD 0⟩] := by
  unfold drawL
  rw [List.range_succ, List.map_append]
  rfl
theorem AE4 (c : Ch) (n : Nat) : (drawL c n).length = n := by unfold drawL; rw [List.length_map, List.length_range]
/-- All stations are linked with the first one. -/
abbrev OCs (l : List Spt) := { z : Eng.Own // OwnOk 2 z l.length (l.map Spt.cells).flatten }
def Linked (c : Ch) : Prop := ∀ (i : Nat) (nx : Bool), i < c.st.toNat → (iFind (boundsX c 0 nx 0) (i : Int)).isSome = true
theorem AT3 {c : Ch} (hc : ChOk c) : openC c [] = .ok () := by unfold openC; rw [if_pos (Bj9 hc)]; rfl
theorem BH6 {c : Ch} (hc : ChOk c) {a b : Int} (ha : 0 ≤ a ∧ a < c.st) (hb : 0 ≤ b ∧ b < c.st) : openC c [a, b] = .ok () := by
  unfold openC
  rw [if_pos (Bj9 hc), if_neg]
  simp only [List.any_cons, List.any_nil, within, Bool.or_eq_true, Bool.not_eq_true', Bool.and_eq_false_iff, decide_eq_false_iff_not, Bool.or_false]
  omega
end Go.Ct
namespace Go.Proofs.YthbiaipagceokaaGreat
open Go Go.Eng Go.Ct Go.RowKit
open Go.Pw1 (Ai5 Ah0 needX within idxF Ah2 Ap7 Ai1 Ag9 Ai7)
-- BY4
-- AJ4
section
variable (c : ChA) (hc : ChOk c.pl) (hR : RightC c.pl) (W : World) (hS : c.Ok W)
include hc hR hS
theorem AF6 (a b : Int) (ha : 0 ≤ a ∧ a < c.st) (hb : 0 ≤ b ∧ b < c.st) (e n : Pw1.Sp) (he : betwX c.pl a b false 0 = .ok e) (hn : betwX c.pl a b true 0 = .ok n) :
    Calls Tryz.prog 13 #[c.v, .int .i64 a, .int .i64 b] W (Pure (.tuple #[Pw1.Sp.v e, Pw1.Sp.v n, .int .i64 0]) W) := by
  have hfew := hc.few
  have hfew2 : c.sg.l.length ≤ 10 := hfew
  obtain ⟨e1, e2⟩ := e
  obtain ⟨n1, n2⟩ := n
  refine Af0 Tryz.func13 rfl rfl ?_
  refine st ?_
  refine zn (New.box rfl) (fun b3 => ?_)
  refine zn (New.alloc Ac7) (fun b6 => ?_)
  refine zn (New.alloc Ac7) (fun b7 => ?_)
  refine zn (New.alloc Ar5) (fun b8 => ?_)
  refine RunL.defer rfl ?_
  refine su ?_
  refine zn (New.buildSlice (parts := [(0, .tmp 12), (1, .tmp 13)]) rfl Am6 Az7 rfl rfl rfl rfl) (fun b14 => ?_)
  refine Aq0 (zF rfl Bl7) rfl rfl rfl (fun w hm => AE9 (Av3 c (by omega) [a, b] (some ⟨b14, 0, none⟩) b14 0 2 w (hS.mono0 hm) (Sl.row1 (hm.at (.head _))) (by simp)) (BH6 hc ha hb)) (fun z15 => ?_)
  obtain ⟨⟨bv, m, p⟩, hpo, hpF⟩ := z15
  dsimp only at hpo hpF ⊢
  refine st ?_
  refine zc (zF rfl BB9) (fun w hm => AA6 c hc hR bv m p.ents w (hS.mono0 hm) (hm.at (.tail _ (.tail _ (.tail _ (.tail _ (.tail _ (.head _))))))) (AO8 hc hpo hpF (hm.at (.tail _ (.tail _ (.tail _ (.tail _ (.tail _ (.tail _ (.head _)))))))) (fun _ _ h => hm.at (.tail _ (.tail _ (.tail _ (.tail _ (.tail _ (.tail _ (.tail _ ((by first | exact List.mem_append_left _ h | exact List.mem_append_right _ (List.mem_append_left _ h))))))))))))) ?_
  refine zc (zF rfl Bl6) (fun w hm => Az2 w) ?_
  refine zn (New.alloc AS1) (fun b10 => ?_)
  refine Aa9 (Sto.store rfl rfl .here Bt5 rfl rfl) rfl rfl ?_
  refine st ?_
  refine At1 11 Al3 (.cons .here rfl (.cons .here rfl (.cons .here rfl (.cons .here rfl (.cons .here rfl (.cons .here rfl (.cons .here rfl (.cons .here rfl .nil)))))))) ?_
  refine zw 0 ?_
  refine zw 1 ?_
  refine zw 2 ?_
  refine zv 3 rfl (Aa8 rfl rfl Bn3 (by decide) (by decide)) ?_
  refine zw 4 ?_
  refine zw 6 ?_
  refine zw 7 ?_
  refine zw 8 ?_
  refine zv 9 rfl (Aa8 rfl rfl Bn3 (by decide) (by decide)) ?_
  refine zw 10 ?_
  refine zA 5 ?_
  refine Ab4 rfl (zF rfl Bl5) rfl rfl rfl (fun w hm => AF0 (Ao9 c hc bv m p.ents a b false 0 (by decide) w (hS.mono0 hm) (hm.at (.tail _ (.tail _ (.tail _ (.tail _ (.tail _ (.tail _ (.head _)))))))) (AO8 hc hpo hpF (hm.at (.tail _ (.tail _ (.tail _ (.tail _ (.tail _ (.tail _ (.tail _ (.head _))))))))) (fun _ _ h => hm.at (.tail _ (.tail _ (.tail _ (.tail _ (.tail _ (.tail _ (.tail _ (.tail _ ((by first | exact List.mem_append_left _ h | exact List.mem_append_right _ (List.mem_append_left _ h)))))))))))))) (by rw [he]; rfl)) (Aa0 (.cons .here rfl (.cons .here rfl (.cons .here rfl (.cons .here rfl (.cons .here rfl (.cons .here rfl (.cons .here rfl (.cons .here rfl .nil)))))))) (.cons .here rfl (.cons .here rfl (.cons .here rfl (.cons .here rfl (.cons .here rfl (.cons .here rfl (.cons .here rfl (.cons .here rfl .nil)))))))) rfl ?_)
  refine zt ?_
  refine zq 11 rfl (zF rfl Bl5) (fun w hm => AF0 (Ao9 c hc bv m p.ents a b true 0 (by decide) w (hS.mono0 hm) (hm.at (.tail _ (.tail _ (.tail _ (.tail _ (.tail _ (.tail _ (.head _)))))))) (AO8 hc hpo hpF (hm.at (.tail _ (.tail _ (.tail _ (.tail _ (.tail _ (.tail _ (.tail _ (.head _))))))))) (fun _ _ h => hm.at (.tail _ (.tail _ (.tail _ (.tail _ (.tail _ (.tail _ (.tail _ (.tail _ ((by first | exact List.mem_append_left _ h | exact List.mem_append_right _ (List.mem_append_left _ h)))))))))))))) (by rw [hn]; rfl)) ?_
  refine zB 12 ?_
  refine Ab9 rfl (Sto.store rfl rfl (.there (.there (.there (.there .here)))) Ad7 rfl rfl) rfl rfl (Ab1 ?_)
  refine zB 13 ?_
  refine Ab9 rfl (Sto.store rfl rfl (.there (.there (.there .here))) Ad7 rfl rfl) rfl rfl (Ab1 ?_)
  refine zB 14 ?_
  refine Ab9 rfl (Sto.store rfl rfl (.there (.there .here)) Ah4 rfl rfl) rfl rfl (Ab1 ?_)
  refine zd ?_
  refine Ae2 ?_
  refine su ?_
  exact Ah3 AI7 Bl8 (.r3 rfl (.agg rfl (.tail _ (.tail _ (.tail _ (.tail _ (.head _))))) Ad7 rfl) (.agg rfl (.tail _ (.tail _ (.tail _ (.head _)))) Ad7 rfl) (.one rfl (.tail _ (.tail _ (.head _))) Ah4 rfl)) (by first | rfl | simp)
set_option maxHeartbeats 1000000 in
theorem Bs8 (hL : Linked c.pl) (n : Nat) (hn : c.st.toNat = n) : Calls Tryz.prog 9 #[c.v] W (News (fun z : OCs (drawL c.pl n) => .tuple #[ownV z.1 n, .int .i64 0]) (fun z => ownB 54 z.1 ((drawL c.pl n).map Spt.cells).flatten ++ []) W) := by
  have hst := hc.st
  have hst2 : 1 ≤ c.st ∧ c.st ≤ 8 := hst
  have hfew := hc.few
  have hfew2 : c.sg.l.length ≤ 10 := hfew
  have hcn : c.st = (n : Int) := by omega
  refine Af0 Tryz.func9 rfl rfl ?_
  refine csr ?_
  refine Ad9 (New.box rfl) rfl rfl rfl (fun b1 => ?_)
  refine vp rfl rfl rfl rfl ?_
  refine Ad9 (New.alloc Ar5) rfl rfl rfl (fun b3 => ?_)
  refine nsr ?_
  refine RunL.defer rfl ?_
  refine nsr ?_
  refine Aa1 (Ac4 rfl (.tail _ (.head _)) AC4 rfl) rfl rfl rfl ?_
  refine Aq0 (Ab7 rfl Bl7) rfl rfl rfl (fun w hm => AE9 (Av3 c (by omega) [] none 0 0 0 w (hS.mono0 hm) Sl.emp (by simp)) (AT3 hc)) (fun z9 => ?_)
  obtain ⟨⟨bv, m, p⟩, hpo, hpF⟩ := z9
  dsimp only at hpo hpF ⊢
  refine vp rfl rfl rfl rfl ?_
  refine nsr ?_
  refine vp rfl rfl rfl rfl ?_
  refine Ab3 (Ab7 rfl BB9) rfl rfl rfl (fun w hm => AA6 c hc hR bv m p.ents w (hS.mono0 hm) (hm.at (.tail _ (.tail _ (.head _)))) (AO8 hc hpo hpF (hm.at (.tail _ (.tail _ (.tail _ (.head _))))) (fun _ _ h => hm.at (.tail _ (.tail _ (.tail _ (.tail _ ((by first | exact List.mem_append_left _ h | exact List.mem_append_right _ (List.mem_append_left _ h)))))))))) ?_
  refine nsr ?_
  refine Ab3 (Ab7 rfl Bl6) rfl rfl rfl (fun w hm => Az2 w) ?_
  refine Ad9 (New.alloc AS1) rfl rfl rfl (fun b5 => ?_)
  refine Aa9 (Sto.store rfl rfl .here Bt5 rfl rfl) rfl rfl ?_
  refine nsr ?_
  refine vp rfl rfl rfl rfl ?_
  refine vp rfl rfl rfl rfl ?_
  refine Aa1 (Val.fieldAddr rfl Au6) rfl rfl rfl ?_
  refine Aa1 (Val.fieldAddr rfl Aj9) rfl rfl rfl ?_
  refine Aa1 (Aa3 rfl (.tail _ (.tail _ (.tail _ (.head _)))) Ag0 rfl) rfl rfl rfl ?_
  refine Ad9 (AO9 (n := n) rfl rfl hcn BY4 AJ4 (by omega) (by decide) (by decide)) rfl rfl rfl (fun b18 => ?_)
  obtain ⟨MZ, hMZ⟩ : ∃ z, z = (madeCells [Value.int .i64 0, .int .i64 0].toArray (n * 2)).toList := ⟨_, rfl⟩
  refine As9 (Ab5 _) (news' := (b3, .cells [.int .i64 0].toArray 30 (0, 0)) :: (b5, .cells [.func (.func 47) #[] #[], .func (.func 48) #[] #[]].toArray 83 (0, 0)) :: (bv, ctO c m) :: (m, mapO p.ents) :: (ownB 54 (some (b18, n, MZ)) [] ++ (tlP 120 p ++ []))) (by subst hMZ; exact (Pick.cnt fun x => by simp only [nC, Bw3, List.nil_append]; omega)) ?_
  refine vp rfl rfl rfl rfl ?_
  refine nnx ?_
  refine RunC.seq ?_
  refine csr ?_
  refine vp rfl rfl rfl rfl ?_
  refine vp rfl rfl rfl rfl ?_
  refine Aa1 (Val.fieldAddr rfl Au6) rfl rfl rfl ?_
  refine Aa1 (Val.fieldAddr rfl Aj9) rfl rfl rfl ?_
  refine Aa1 (Aa3 rfl (.tail _ (.tail _ (.head _))) Ag0 rfl) rfl rfl rfl ?_
  refine vp rfl rfl rfl rfl ?_
  refine nnx ?_
  refine RunC.block ?_
  refine Al2 (X := Eng.Own) (n0 := [(b3, _), (b5, _), (bv, _), (m, _)]) (n) (fun k y q => (24, .int .i64 (k : Int)) :: (6, ownV y k) :: q) (fun _ _ => _) (fun k y => []) (fun k y => ownB 54 y ((drawL c.pl k).map Spt.cells).flatten ++ (tlP 120 p ++ [])) (fun k y => OwnOk 2 y k ((drawL c.pl k).map Spt.cells).flatten) (some (b18, n, MZ)) (by subst hMZ; exact BT3 _ n 2 b18 (by omega)) rfl (Ad4 (t := 24) rfl rfl (Ad4 (t := 6) rfl rfl (Sub.cons (t := 3) rfl (Sub.cons (t := 4) rfl (Sub.cons (t := 5) rfl (Sub.cons (t := 23) rfl (Sub.nil _))))))) (.cons .here rfl (.cons .here rfl (.cons .here rfl (.cons .here rfl (Pick.same rfl))))) ?_
  intro k y kN kI
  have how := kI
  refine csr ?_
  refine vp rfl rfl rfl rfl ?_
  refine nnx ?_
  refine RunC.seq ?_
  refine RunC.cond rfl ?_ ?_
  ·intro c0
   have c0' := c0; clear c0
   try simp only [nH] at c0'
   have hk : k < n := by omega
   have hdf : ((drawL c.pl k).map Spt.cells).flatten ++ Spt.cells ⟨-(iFind (boundsX c.pl (k : Int) false 0) 0).getD 0, -(iFind (boundsX c.pl (k : Int) true 0) 0).getD 0⟩ = ((drawL c.pl (k + 1)).map Spt.cells).flatten := by (rw [BW8]; exact Ap6 _ _)
   refine RunC.skip ?_
   refine RunE.next ?_
   refine RunC.seq ?_
   refine RunC.block ?_
   refine csr ?_
   refine vp rfl rfl rfl rfl ?_
   refine vp rfl rfl rfl rfl ?_
   refine nnx ?_
   refine Bh8 (X := Eng.Own) 15 (n0 := [(b3, _), (b5, _), (bv, _), (m, _)]) (fun z2 q => (6, ownV z2 (k + 1)) :: q) (fun z2 => []) (fun z2 => []) (fun z2 => ownB 54 z2 ((drawL c.pl (k + 1)).map Spt.cells).flatten ++ (tlP 120 p ++ [])) (fun z2 => OwnOk 2 z2 (k + 1) ((drawL c.pl (k + 1)).map Spt.cells).flatten) Al3 (.cons .here rfl (.cons .here rfl (.cons .here rfl (.cons .here rfl .nil)))) (Sub.cons (t := 3) rfl (Sub.cons (t := 4) rfl (Sub.cons (t := 5) rfl (Sub.cons (t := 23) rfl (Sub.cons (t := 24) rfl (Sub.nil _)))))) (.cons .here rfl (.cons .here rfl (.cons .here rfl (.cons .here rfl .nil)))) ?_ ?_
   ·refine Ac9 (i := 0) rfl (by kernel_rfl) (by kernel_rfl) (Aa5 rfl) rfl rfl rfl (PanQ.back rfl) (.cons .here rfl (.cons .here rfl (.cons .here rfl (.cons .here rfl .nil)))) rfl ?_
    refine Ac9 (i := 1) rfl (by kernel_rfl) (by kernel_rfl) (Aa5 rfl) rfl rfl rfl (PanQ.back rfl) (.cons .here rfl (.cons .here rfl (.cons .here rfl (.cons .here rfl .nil)))) rfl ?_
    refine Ac9 (i := 2) rfl (by kernel_rfl) (by kernel_rfl) (Aa5 rfl) rfl rfl rfl (PanQ.back rfl) (.cons .here rfl (.cons .here rfl (.cons .here rfl (.cons .here rfl .nil)))) rfl ?_
    refine Ac9 (i := 3) rfl (by kernel_rfl) (by kernel_rfl) (Aa8 rfl rfl Bn3 (by decide) (by decide)) rfl rfl rfl (PanQ.back rfl) (.cons .here rfl (.cons .here rfl (.cons .here rfl (.cons .here rfl .nil)))) rfl ?_
    refine Ac9 (i := 4) rfl (by kernel_rfl) (by kernel_rfl) (Ac4 rfl (.tail _ (.head _)) AH6 rfl) rfl rfl rfl (PanQ.back rfl) (.cons .here rfl (.cons .here rfl (.cons .here rfl (.cons .here rfl .nil)))) rfl ?_
    refine Ac9 (i := 7) rfl (by kernel_rfl) (by kernel_rfl) (Aa5 rfl) rfl rfl rfl (PanQ.back rfl) (.cons .here rfl (.cons .here rfl (.cons .here rfl (.cons .here rfl .nil)))) rfl ?_
    refine Ac9 (i := 8) rfl (by kernel_rfl) (by kernel_rfl) (Aa5 rfl) rfl rfl rfl (PanQ.back rfl) (.cons .here rfl (.cons .here rfl (.cons .here rfl (.cons .here rfl .nil)))) rfl ?_
    refine Ac9 (i := 9) rfl (by kernel_rfl) (by kernel_rfl) (Aa8 rfl rfl Bn3 (by decide) (by decide)) rfl rfl rfl (PanQ.back rfl) (.cons .here rfl (.cons .here rfl (.cons .here rfl (.cons .here rfl .nil)))) rfl ?_
    refine Ac9 (i := 10) rfl (by kernel_rfl) (by kernel_rfl) (Ac4 rfl (.tail _ (.head _)) AH6 rfl) rfl rfl rfl (PanQ.back rfl) (.cons .here rfl (.cons .here rfl (.cons .here rfl (.cons .here rfl .nil)))) rfl ?_
    refine RunA.one (i := 5) (by kernel_rfl) (by kernel_rfl) ?_
    refine Ab4 rfl (Ab7 rfl Bl5) rfl rfl rfl (fun w hm => AF0 (Ao9 c hc bv m p.ents 0 (k : Int) false 0 (by decide) w (hS.mono0 hm) (hm.at (.tail _ (.tail _ (.head _)))) (AO8 hc hpo hpF (hm.at (.tail _ (.tail _ (.tail _ (.head _))))) (fun _ _ h => hm.at (.tail _ (.tail _ (.tail _ (.tail _ ((by first | exact List.mem_append_right _ (List.mem_append_left _ h) | exact List.mem_append_right _ (List.mem_append_right _ (List.mem_append_left _ h))))))))))) (by rw [Az1 (hL k false (by show k < c.st.toNat; omega))]; rfl)) (Aa0 (.cons .here rfl (.cons .here rfl (.cons .here rfl (.cons .here rfl .nil)))) (.cons .here rfl (.cons .here rfl (.cons .here rfl (.cons .here rfl .nil)))) rfl ?_)
    refine Ac9 (i := 6) rfl (by kernel_rfl) (by kernel_rfl) (Val.field rfl Av0 rfl) rfl rfl rfl (PanQ.back rfl) (.cons .here rfl (.cons .here rfl (.cons .here rfl (.cons .here rfl .nil)))) rfl ?_
    refine RunA.one (i := 11) (by kernel_rfl) (by kernel_rfl) ?_
    refine Ab4 rfl (Ab7 rfl Bl5) rfl rfl rfl (fun w hm => AF0 (Ao9 c hc bv m p.ents 0 (k : Int) true 0 (by decide) w (hS.mono0 hm) (hm.at (.tail _ (.tail _ (.head _)))) (AO8 hc hpo hpF (hm.at (.tail _ (.tail _ (.tail _ (.head _))))) (fun _ _ h => hm.at (.tail _ (.tail _ (.tail _ (.tail _ ((by first | exact List.mem_append_right _ (List.mem_append_left _ h) | exact List.mem_append_right _ (List.mem_append_right _ (List.mem_append_left _ h))))))))))) (by rw [Az1 (hL k true (by show k < c.st.toNat; omega))]; rfl)) (Aa0 (.cons .here rfl (.cons .here rfl (.cons .here rfl (.cons .here rfl .nil)))) (.cons .here rfl (.cons .here rfl (.cons .here rfl (.cons .here rfl .nil)))) rfl ?_)
    refine Ac9 (i := 12) rfl (by kernel_rfl) (by kernel_rfl) (Val.field rfl Av0 rfl) rfl rfl rfl (PanQ.back rfl) (.cons .here rfl (.cons .here rfl (.cons .here rfl (.cons .here rfl .nil)))) rfl ?_
    refine Ac9 (i := 13) rfl (by kernel_rfl) (by kernel_rfl) (Val.build (parts := [(0, .tmp 33), (1, .tmp 39)]) rfl AJ4 AY0 rfl) rfl rfl rfl (PanQ.back rfl) (.cons .here rfl (.cons .here rfl (.cons .here rfl (.cons .here rfl .nil)))) rfl ?_
    refine RunA.one (i := 14) (by kernel_rfl) (by kernel_rfl) ?_
    refine Ac8 rfl (New.buildSlice (parts := [(0, .tmp 40)]) rfl BG7 AJ4 rfl rfl rfl rfl) rfl rfl rfl (fun b41 => (Aa0 (.cons .here rfl (.cons .here rfl (.cons .here rfl (.cons .here rfl (.cons .here rfl .nil))))) (.cons (.there .here) rfl (.cons (.there .here) rfl (.cons (.there .here) rfl (.cons (.there .here) rfl .nil)))) rfl ?_))
    refine Af4 (by kernel_rfl) ?_
    refine RunB.one (i := 15) (by kernel_rfl) ?_
    refine RunI.append (A := [(b41, _), (b3, _), (b5, _), (bv, _), (m, _)]) (B := _) (x := y) (ys := (Spt.cells ⟨-(iFind (boundsX c.pl (k : Int) false 0) 0).getD 0, -(iFind (boundsX c.pl (k : Int) true 0) 0).getD 0⟩)) rfl BY4 rfl rfl rfl how rfl (fun h => by cases h) (fun w hm => Ak1 (hm.at (.head _))) (Ao6 rfl) (by simp only [maxLen]; omega) (by omega) rfl (fun z42 hz42 => (Ab1 ?_))
    refine RunB.one (i := 16) (by kernel_rfl) ?_
    refine Ac5 rfl (Aa5 rfl) rfl rfl rfl (Ab1 ?_)
    refine RunB.done (by kernel_rfl) ?_
    refine Ag3 ?_
    rw [hdf]
    exact Ag1 z42 (by rw [← hdf]; exact hz42) rfl (Ad4 (t := 6) rfl rfl (Sub.cons (t := 3) rfl (Sub.cons (t := 4) rfl (Sub.cons (t := 5) rfl (Sub.cons (t := 23) rfl (Sub.cons (t := 24) rfl (Sub.nil _))))))) (.cons (.there .here) rfl (.cons (.there .here) rfl (.cons (.there .here) rfl (.cons (.there .here) rfl (Pick.skip (Pick.refl _))))))
   intro z2 z2I
   refine Ad0 ?_
   refine RunE.next ?_
   refine RunC.region ?_
   refine Aa1 (Val.add rfl rfl (IntWalk.i64_in _ ⟨by omega, by omega⟩)) rfl rfl rfl ?_
   refine vp rfl rfl rfl rfl ?_
   refine RunL.nil ?_
   exact Ag2 z2 (by omega) z2I rfl (Ad4 (t := 24) rfl rfl (Ad4 (t := 6) rfl rfl (Sub.cons (t := 3) rfl (Sub.cons (t := 4) rfl (Sub.cons (t := 5) rfl (Sub.cons (t := 23) rfl (Sub.nil _))))))) (.cons .here rfl (.cons .here rfl (.cons .here rfl (.cons .here rfl (Pick.refl _)))))
  intro c0
  have c0' := c0; clear c0
  try simp only [nH] at c0'
  obtain rfl : k = n := by omega
  refine RunC.exit ?_
  refine Ac0 ?_
  refine Ac0 ?_
  refine Ab2 ?_
  refine RunE.next ?_
  refine csr ?_
  refine vp rfl rfl rfl rfl ?_
  refine vp rfl rfl rfl rfl ?_
  refine Aa9 (Sto.store rfl rfl .here Ah4 rfl rfl) rfl rfl ?_
  refine nnx ?_
  refine RunC.ret ?_
  exact Bs5 AI7 Bl8 (.r2 rfl (.tmp rfl) (.one rfl (.head _) Ah4 rfl)) (fun _ hm => ⟨⟨y, by rw [AE4]; exact how⟩, rfl, hm.pick (Pick.cnt fun x => by simp only [nC, Bw3, List.nil_append]; omega)⟩)
theorem BM0 : Calls Tryz.prog 10 #[c.v] W (Pure (.tuple #[.int .i64 0, .int .i64 0]) W) := by
  have hfew := hc.few
  have hfew2 : c.sg.l.length ≤ 10 := hfew
  refine Af0 Tryz.func10 rfl rfl ?_
  refine csr ?_
  refine Ad9 (New.box rfl) rfl rfl rfl (fun b1 => ?_)
  refine vp rfl rfl rfl rfl ?_
  refine Ad9 (New.alloc Ar5) rfl rfl rfl (fun b3 => ?_)
  refine nsr ?_
  refine RunL.defer rfl ?_
  refine nsr ?_
  refine Aa1 (Ac4 rfl (.tail _ (.head _)) AC4 rfl) rfl rfl rfl ?_
  refine Aq0 (Ab7 rfl Bl7) rfl rfl rfl (fun w hm => AE9 (Av3 c (by omega) [] none 0 0 0 w (hS.mono0 hm) Sl.emp (by simp)) (AT3 hc)) (fun z6 => ?_)
  obtain ⟨⟨bv, m, p⟩, hpo, hpF⟩ := z6
  dsimp only at hpo hpF ⊢
  refine Ab3 (Ab7 rfl BP8) rfl rfl rfl (fun w hm => AJ5 c hc hR bv m p.ents w (hS.mono0 hm) (hm.at (.tail _ (.tail _ (.head _)))) (AO8 hc hpo hpF (hm.at (.tail _ (.tail _ (.tail _ (.head _))))) (fun _ _ h => hm.at (.tail _ (.tail _ (.tail _ (.tail _ ((by first | exact List.mem_append_left _ h | exact List.mem_append_right _ (List.mem_append_left _ h)))))))))) ?_
  refine vp rfl rfl rfl rfl ?_
  refine nnx ?_
  refine RunC.seq ?_
  refine csr ?_
  refine vp rfl rfl rfl rfl ?_
  refine Aa1 (Ag7 rfl Bu6) rfl rfl rfl ?_
  refine vp rfl rfl rfl rfl ?_
  refine nnx ?_
  refine RunC.cond rfl ?_ (fun h => absurd h (by decide))
  intro c0
  clear c0
  refine csr ?_
  refine vp rfl rfl rfl rfl ?_
  refine Aa9 (Sto.store rfl rfl .here Ah4 rfl rfl) rfl rfl ?_
  refine nnx ?_
  refine RunC.ret ?_
  refine Ad6 ?_
  exact Ah3 AI7 Bl8 (.r2 rfl (.tmp rfl) (.one rfl (.head _) Ah4 rfl)) (by first | rfl | simp)
end
end Go.Proofs.YthbiaipagceokaaGreat
namespace Go.Proofs.YthbiaipagceokaaGreat
open Go Go.Eng
theorem BQ0 : Enters Tryz.prog 13 := Aa6 Tryz.func13 (by kernel_rfl) rfl
end Go.Proofs.YthbiaipagceokaaGreat
namespace Go.Ct
open Go Go.Eng Go.Pw1
theorem BN5 {m : Im} {k : Int} (h : (iFind m k).isSome = false) : Value.tuple #[.int .i64 ((iFind m k).getD 0), .bool (iFind m k).isSome] = .tuple #[.int .i64 0, .bool false] := by
  cases hf : iFind m k with
  | none => rfl
  | some v => rw [hf] at h; cases h
/-- Without any sight its ends are not linked. -/
def NoIdle (c : Ch) : Prop := ∀ (i : Nat) (nx : Bool), i < c.sg.length → (iFind (boundsX c (c.sg.getD i zSg).fr nx (2 ^ i)) (c.sg.getD i zSg).to).isSome = false
end Go.Ct
namespace Go.Proofs.YthbiaipagceokaaGreat
open Go Go.Eng Go.Ct Go.RowKit
open Go.Pw1 (Ai5 Ah0 needX within idxF Ah2 Ap7 Ai1 Ag9 Ai7)
section
variable (c : ChA) (hc : ChOk c.pl) (hR : RightC c.pl) (W : World) (hS : c.Ok W)
include hc hR hS
set_option maxHeartbeats 1000000 in
theorem BE1 (hN : NoIdle c.pl) : Calls Tryz.prog 11 #[c.v] W (Pure (.tuple #[.int .i64 0, .int .i64 0]) W) := by
  have hfew := hc.few
  have hfew2 : c.sg.l.length ≤ 10 := hfew
  refine Af0 Tryz.func11 rfl rfl ?_
  refine csr ?_
  refine Ad9 (New.box rfl) rfl rfl rfl (fun b1 => ?_)
  refine vp rfl rfl rfl rfl ?_
  refine Ad9 (New.alloc Ar5) rfl rfl rfl (fun b3 => ?_)
  refine nsr ?_
  refine RunL.defer rfl ?_
  refine nsr ?_
  refine Aa1 (Ac4 rfl (.tail _ (.head _)) AC4 rfl) rfl rfl rfl ?_
  refine Aq0 (Ab7 rfl Bl7) rfl rfl rfl (fun w hm => AE9 (Av3 c (by omega) [] none 0 0 0 w (hS.mono0 hm) Sl.emp (by simp)) (AT3 hc)) (fun z13 => ?_)
  obtain ⟨⟨bv, m, p⟩, hpo, hpF⟩ := z13
  dsimp only at hpo hpF ⊢
  refine vp rfl rfl rfl rfl ?_
  refine nsr ?_
  refine vp rfl rfl rfl rfl ?_
  refine Ab3 (Ab7 rfl BB9) rfl rfl rfl (fun w hm => AA6 c hc hR bv m p.ents w (hS.mono0 hm) (hm.at (.tail _ (.tail _ (.head _)))) (AO8 hc hpo hpF (hm.at (.tail _ (.tail _ (.tail _ (.head _))))) (fun _ _ h => hm.at (.tail _ (.tail _ (.tail _ (.tail _ ((by first | exact List.mem_append_left _ h | exact List.mem_append_right _ (List.mem_append_left _ h)))))))))) ?_
  refine nnx ?_
  refine RunC.seq ?_
  refine csr ?_
  refine vp rfl rfl rfl rfl ?_
  refine vp rfl rfl rfl rfl ?_
  refine Aa1 (Val.fieldAddr rfl Au6) rfl rfl rfl ?_
  refine Aa1 (Val.fieldAddr rfl Ay7) rfl rfl rfl ?_
  refine Aa1 (Aa3 rfl (.tail _ (.tail _ (.head _))) Bd5 rfl) rfl rfl rfl ?_
  refine Aa1 (Ag7 rfl AO7) rfl rfl rfl ?_
  refine vp rfl rfl rfl rfl ?_
  refine nnx ?_
  refine RunC.block ?_
  refine Af5 (c.sg.l.length) (fun k q => (22, .int .i64 (k : Int)) :: q) (fun _ => _) (fun _ => []) (fun _ => True) trivial rfl (Ad4 (t := 22) rfl rfl (Sub.cons (t := 2) rfl (Sub.cons (t := 3) rfl (Sub.cons (t := 4) rfl (Sub.cons (t := 20) rfl (Sub.cons (t := 21) rfl (Sub.nil _))))))) (.cons .here rfl (.cons (.there .here) rfl (.cons (.there .here) rfl (Pick.skip (Pick.refl _))))) ?_
  intro k kN kI
  clear kI
  refine csr ?_
  refine vp rfl rfl rfl rfl ?_
  refine nnx ?_
  refine RunC.seq ?_
  refine RunC.cond rfl ?_ ?_
  ·intro c0
   have c0' := c0; clear c0
   try simp only [nH] at c0'
   have hk : k < c.sg.l.length := by omega
   obtain ⟨sg, hsg⟩ : ∃ s, c.sg.l[k] = s := ⟨_, rfl⟩
   have hsd : c.sg.l.getD k zSg = sg := by (rw [List.getD_eq_getElem?_getD, List.getElem?_eq_getElem hk]; exact hsg)
   have h2k : 2 ^ k ≤ 2 ^ 9 := Nat.pow_le_pow_right (by decide) (by omega)
   have hNk : ∀ nx, (iFind (boundsX c.pl sg.fr nx (2 ^ k)) sg.to).isSome = false := fun nx => by (have h9 := hN k nx hk; rw [show c.pl.sg.getD k zSg = sg from hsd] at h9; exact h9)
   refine RunC.skip ?_
   refine RunE.next ?_
   refine RunC.seq ?_
   refine RunC.block ?_
   refine csr ?_
   refine vp rfl rfl rfl rfl ?_
   refine Aa1 (Ab0 rfl rfl AO7 (by omega) (by omega) (Sl.ptrM hS hk)) rfl rfl rfl ?_
   refine Aa1 (Ab8 rfl (fun w hm => Sl.loadX hS (by decide) hm (by simp) AS6 hk hsg)) rfl rfl rfl ?_
   refine Ad9 (New.alloc AA3) rfl rfl rfl (fun b6 => ?_)
   refine vp rfl rfl rfl rfl ?_
   refine Aa9 (Sto.store rfl rfl .here AS6 rfl rfl) rfl rfl ?_
   refine nsr ?_
   refine vp rfl rfl rfl rfl ?_
   refine nnx ?_
   refine RunC.seq ?_
   refine csr ?_
   refine Ab3 (Ab7 rfl Bl6) rfl rfl rfl (fun w hm => Az2 w) ?_
   refine vp rfl rfl rfl rfl ?_
   refine nnx ?_
   refine RunC.block ?_
   refine Aq1 2 ?_
   refine csr ?_
   refine vp rfl rfl rfl rfl ?_
   refine nnx ?_
   refine RunC.seq ?_
   refine RunC.cond rfl ?_ (fun h => absurd h (by decide))
   intro c1
   clear c1
   refine RunC.skip ?_
   refine RunE.next ?_
   refine RunC.seq ?_
   refine RunC.block ?_
   refine csr ?_
   refine Aa1 (Az3 rfl rfl AV5 (by decide) (by decide) rfl) rfl rfl rfl ?_
   refine Ad9 (New.alloc AF7) rfl rfl rfl (fun b9 => ?_)
   refine Aa9 (Sto.store rfl rfl .here AH6 rfl rfl) rfl rfl ?_
   refine nnx ?_
   refine RunC.seq ?_
   refine Az5 14 Al3 (.cons .here rfl (.cons .here rfl (.cons .here rfl (.cons .here rfl (.cons .here rfl .nil))))) ?_
   refine Ac9 (i := 0) rfl (by kernel_rfl) (by kernel_rfl) (Aa5 rfl) rfl rfl rfl (PanQ.back rfl) (.cons .here rfl (.cons .here rfl (.cons .here rfl (.cons .here rfl (.cons .here rfl .nil))))) rfl ?_
   refine Ac9 (i := 1) rfl (by kernel_rfl) (by kernel_rfl) (Val.fieldAddr rfl Au9) rfl rfl rfl (PanQ.back rfl) (.cons .here rfl (.cons .here rfl (.cons .here rfl (.cons .here rfl (.cons .here rfl .nil))))) rfl ?_
   refine Ac9 (i := 2) rfl (by kernel_rfl) (by kernel_rfl) (Aa3 rfl (.tail _ (.head _)) Ag0 rfl) rfl rfl rfl (PanQ.back rfl) (.cons .here rfl (.cons .here rfl (.cons .here rfl (.cons .here rfl (.cons .here rfl .nil))))) rfl ?_
   refine Ac9 (i := 3) rfl (by kernel_rfl) (by kernel_rfl) (Ac4 rfl (.head _) AH6 rfl) rfl rfl rfl (PanQ.back rfl) (.cons .here rfl (.cons .here rfl (.cons .here rfl (.cons .here rfl (.cons .here rfl .nil))))) rfl ?_
   refine Ac9 (i := 4) rfl (by kernel_rfl) (by kernel_rfl) (Aa5 rfl) rfl rfl rfl (PanQ.back rfl) (.cons .here rfl (.cons .here rfl (.cons .here rfl (.cons .here rfl (.cons .here rfl .nil))))) rfl ?_
   refine Ac9 (i := 5) rfl (by kernel_rfl) (by kernel_rfl) (AJ2 (b := k) rfl rfl (by show k ≤ 64; omega) (u64_in (n := 2 ^ k) (by omega))) rfl rfl rfl (PanQ.back rfl) (.cons .here rfl (.cons .here rfl (.cons .here rfl (.cons .here rfl (.cons .here rfl .nil))))) rfl ?_
   refine Ac9 (i := 7) rfl (by kernel_rfl) (by kernel_rfl) (Val.fieldAddr rfl Au8) rfl rfl rfl (PanQ.back rfl) (.cons .here rfl (.cons .here rfl (.cons .here rfl (.cons .here rfl (.cons .here rfl .nil))))) rfl ?_
   refine Ac9 (i := 8) rfl (by kernel_rfl) (by kernel_rfl) (Aa3 rfl (.tail _ (.head _)) Ag0 rfl) rfl rfl rfl (PanQ.back rfl) (.cons .here rfl (.cons .here rfl (.cons .here rfl (.cons .here rfl (.cons .here rfl .nil))))) rfl ?_
   refine RunA.one (i := 6) (by kernel_rfl) (by kernel_rfl) ?_
   refine Az4 rfl (Ab7 rfl Bl4) rfl rfl rfl (fun w hm => Ar2 c hc bv m p.ents _ false (2 ^ k) (by omega) w (hS.mono0 hm) (hm.at (.tail _ (.tail _ (.tail _ (.head _))))) (AO8 hc hpo hpF (hm.at (.tail _ (.tail _ (.tail _ (.tail _ (.head _)))))) (fun _ _ h => hm.at (.tail _ (.tail _ (.tail _ (.tail _ (.tail _ ((by first | exact List.mem_append_left _ h | exact List.mem_append_right _ (List.mem_append_left _ h))))))))))) (fun b38 => (Aa0 (.cons .here rfl (.cons .here rfl (.cons .here rfl (.cons .here rfl (.cons .here rfl (.cons .here rfl .nil)))))) (.cons (.there .here) rfl (.cons (.there .here) rfl (.cons (.there .here) rfl (.cons (.there .here) rfl (.cons (.there .here) rfl .nil))))) rfl ?_))
   refine RunA.one (i := 9) (by kernel_rfl) (by kernel_rfl) ?_
   refine Ac5 rfl (Aj4 (v := .tuple #[.int .i64 0, .bool false]) rfl rfl (fun w hm => hm.at (.head _)) Au2 AA4 (by rw [AD4]; exact BN5 (hNk _))) rfl rfl rfl (Aa0 (.cons .here rfl (.cons .here rfl (.cons .here rfl (.cons .here rfl (.cons .here rfl (.cons .here rfl .nil)))))) (.cons .here rfl (.cons .here rfl (.cons .here rfl (.cons .here rfl (.cons .here rfl (.cons .here rfl .nil)))))) rfl ?_)
   refine Ac9 (i := 10) rfl (by kernel_rfl) (by kernel_rfl) (Aa5 rfl) rfl rfl rfl (PanQ.back rfl) (.cons .here rfl (.cons .here rfl (.cons .here rfl (.cons .here rfl (.cons .here rfl (.cons .here rfl .nil)))))) rfl ?_
   refine Ac9 (i := 11) rfl (by kernel_rfl) (by kernel_rfl) (Aa5 rfl) rfl rfl rfl (PanQ.back rfl) (.cons .here rfl (.cons .here rfl (.cons .here rfl (.cons .here rfl (.cons .here rfl (.cons .here rfl .nil)))))) rfl ?_
   refine Ac9 (i := 12) rfl (by kernel_rfl) (by kernel_rfl) (Aa5 rfl) rfl rfl rfl (PanQ.back rfl) (.cons .here rfl (.cons .here rfl (.cons .here rfl (.cons .here rfl (.cons .here rfl (.cons .here rfl .nil)))))) rfl ?_
   refine Ac9 (i := 13) rfl (by kernel_rfl) (by kernel_rfl) (Aa5 rfl) rfl rfl rfl (PanQ.back rfl) (.cons .here rfl (.cons .here rfl (.cons .here rfl (.cons .here rfl (.cons .here rfl (.cons .here rfl .nil)))))) rfl ?_
   refine Af4 (by kernel_rfl) ?_
   refine RunB.one (i := 14) (by kernel_rfl) ?_
   refine Ac5 rfl (Aa5 rfl) rfl rfl rfl (Ab1 ?_)
   refine RunB.done (by kernel_rfl) ?_
   refine Ag3 ?_
   refine RunE.next ?_
   refine RunC.seq ?_
   apply AC2 (J := J0 _ _ _ _ _ _) 28 Al3 (.cons .here rfl (.cons .here rfl (.cons .here rfl (.cons .here rfl (.cons .here rfl (.cons .here rfl .nil))))))
   ·refine Ac9 (i := 0) rfl (by kernel_rfl) (by kernel_rfl) (Aa5 rfl) rfl rfl rfl (PanQ.back rfl) (.cons .here rfl (.cons .here rfl (.cons .here rfl (.cons .here rfl (.cons .here rfl (.cons .here rfl .nil)))))) rfl ?_
    refine Ac9 (i := 1) rfl (by kernel_rfl) (by kernel_rfl) (Aa5 rfl) rfl rfl rfl (PanQ.back rfl) (.cons .here rfl (.cons .here rfl (.cons .here rfl (.cons .here rfl (.cons .here rfl (.cons .here rfl .nil)))))) rfl ?_
    refine Ac9 (i := 2) rfl (by kernel_rfl) (by kernel_rfl) (Aa5 rfl) rfl rfl rfl (PanQ.back rfl) (.cons .here rfl (.cons .here rfl (.cons .here rfl (.cons .here rfl (.cons .here rfl (.cons .here rfl .nil)))))) rfl ?_
    refine Ae0 (i := 3) rfl (by kernel_rfl) (by kernel_rfl) rfl rfl rfl (PanQ.back rfl) (.cons .here rfl (.cons .here rfl (.cons .here rfl (.cons .here rfl (.cons .here rfl (.cons .here rfl .nil)))))) rfl ?_
    refine Ae0 (i := 4) rfl (by kernel_rfl) (by kernel_rfl) rfl rfl rfl (PanQ.back rfl) (.cons .here rfl (.cons .here rfl (.cons .here rfl (.cons .here rfl (.cons .here rfl (.cons .here rfl .nil)))))) rfl ?_
    refine Ae0 (i := 5) rfl (by kernel_rfl) (by kernel_rfl) rfl rfl rfl (PanQ.back rfl) (.cons .here rfl (.cons .here rfl (.cons .here rfl (.cons .here rfl (.cons .here rfl (.cons .here rfl .nil)))))) rfl ?_
    refine Ae0 (i := 6) rfl (by kernel_rfl) (by kernel_rfl) rfl rfl rfl (PanQ.back rfl) (.cons .here rfl (.cons .here rfl (.cons .here rfl (.cons .here rfl (.cons .here rfl (.cons .here rfl .nil)))))) rfl ?_
    refine RunA.one (i := 7) (by kernel_rfl) (by kernel_rfl) ?_
    refine Ag4 rfl rfl rfl rfl (Aa0 (.cons .here rfl (.cons .here rfl (.cons .here rfl (.cons .here rfl (.cons .here rfl (.cons .here rfl .nil)))))) (.cons .here rfl (.cons .here rfl (.cons .here rfl (.cons .here rfl (.cons .here rfl (.cons .here rfl .nil)))))) rfl ?_)
    refine Ae0 (i := 8) rfl (by kernel_rfl) (by kernel_rfl) rfl rfl rfl (PanQ.back rfl) (.cons .here rfl (.cons .here rfl (.cons .here rfl (.cons .here rfl (.cons .here rfl (.cons .here rfl .nil)))))) rfl ?_
    refine Ae0 (i := 9) rfl (by kernel_rfl) (by kernel_rfl) rfl rfl rfl (PanQ.back rfl) (.cons .here rfl (.cons .here rfl (.cons .here rfl (.cons .here rfl (.cons .here rfl (.cons .here rfl .nil)))))) rfl ?_
    refine Ac9 (i := 10) rfl (by kernel_rfl) (by kernel_rfl) (Aa5 rfl) rfl rfl rfl (PanQ.back rfl) (.cons .here rfl (.cons .here rfl (.cons .here rfl (.cons .here rfl (.cons .here rfl (.cons .here rfl .nil)))))) rfl ?_
    refine Ac9 (i := 11) rfl (by kernel_rfl) (by kernel_rfl) (Aa5 rfl) rfl rfl rfl (PanQ.back rfl) (.cons .here rfl (.cons .here rfl (.cons .here rfl (.cons .here rfl (.cons .here rfl (.cons .here rfl .nil)))))) rfl ?_
    refine Ae0 (i := 12) rfl (by kernel_rfl) (by kernel_rfl) rfl rfl rfl (PanQ.back rfl) (.cons .here rfl (.cons .here rfl (.cons .here rfl (.cons .here rfl (.cons .here rfl (.cons .here rfl .nil)))))) rfl ?_
    refine Ae0 (i := 13) rfl (by kernel_rfl) (by kernel_rfl) rfl rfl rfl (PanQ.back rfl) (.cons .here rfl (.cons .here rfl (.cons .here rfl (.cons .here rfl (.cons .here rfl (.cons .here rfl .nil)))))) rfl ?_
    refine Ae0 (i := 14) rfl (by kernel_rfl) (by kernel_rfl) rfl rfl rfl (PanQ.back rfl) (.cons .here rfl (.cons .here rfl (.cons .here rfl (.cons .here rfl (.cons .here rfl (.cons .here rfl .nil)))))) rfl ?_
    refine Ae0 (i := 15) rfl (by kernel_rfl) (by kernel_rfl) rfl rfl rfl (PanQ.back rfl) (.cons .here rfl (.cons .here rfl (.cons .here rfl (.cons .here rfl (.cons .here rfl (.cons .here rfl .nil)))))) rfl ?_
    refine Ae0 (i := 16) rfl (by kernel_rfl) (by kernel_rfl) rfl rfl rfl (PanQ.back rfl) (.cons .here rfl (.cons .here rfl (.cons .here rfl (.cons .here rfl (.cons .here rfl (.cons .here rfl .nil)))))) rfl ?_
    refine Ae0 (i := 17) rfl (by kernel_rfl) (by kernel_rfl) rfl rfl rfl (PanQ.back rfl) (.cons .here rfl (.cons .here rfl (.cons .here rfl (.cons .here rfl (.cons .here rfl (.cons .here rfl .nil)))))) rfl ?_
    refine Ae0 (i := 19) rfl (by kernel_rfl) (by kernel_rfl) rfl rfl rfl (PanQ.back rfl) (.cons .here rfl (.cons .here rfl (.cons .here rfl (.cons .here rfl (.cons .here rfl (.cons .here rfl .nil)))))) rfl ?_
    refine Ae0 (i := 20) rfl (by kernel_rfl) (by kernel_rfl) rfl rfl rfl (PanQ.back rfl) (.cons .here rfl (.cons .here rfl (.cons .here rfl (.cons .here rfl (.cons .here rfl (.cons .here rfl .nil)))))) rfl ?_
    refine Ae0 (i := 23) rfl (by kernel_rfl) (by kernel_rfl) rfl rfl rfl (PanQ.back rfl) (.cons .here rfl (.cons .here rfl (.cons .here rfl (.cons .here rfl (.cons .here rfl (.cons .here rfl .nil)))))) rfl ?_
    refine Ae0 (i := 24) rfl (by kernel_rfl) (by kernel_rfl) rfl rfl rfl (PanQ.back rfl) (.cons .here rfl (.cons .here rfl (.cons .here rfl (.cons .here rfl (.cons .here rfl (.cons .here rfl .nil)))))) rfl ?_
    refine Ae0 (i := 25) rfl (by kernel_rfl) (by kernel_rfl) rfl rfl rfl (PanQ.back rfl) (.cons .here rfl (.cons .here rfl (.cons .here rfl (.cons .here rfl (.cons .here rfl (.cons .here rfl .nil)))))) rfl ?_
    refine RunA.one (i := 18) (by kernel_rfl) (by kernel_rfl) ?_
    refine Ag4 rfl rfl rfl rfl (Aa0 (.cons .here rfl (.cons .here rfl (.cons .here rfl (.cons .here rfl (.cons .here rfl (.cons .here rfl .nil)))))) (.cons .here rfl (.cons .here rfl (.cons .here rfl (.cons .here rfl (.cons .here rfl (.cons .here rfl .nil)))))) rfl ?_)
    refine Ae8 (rs := [21, 26]) (by kernel_rfl) (by simp) (by kernel_rfl) (fun m hm => ?_)
    simp only [List.mem_cons, List.not_mem_nil, or_false] at hm
    rcases hm with rfl | rfl
    ·refine Ag4 rfl rfl rfl rfl (Aa0 (.cons .here rfl (.cons .here rfl (.cons .here rfl (.cons .here rfl (.cons .here rfl (.cons .here rfl .nil)))))) (.cons .here rfl (.cons .here rfl (.cons .here rfl (.cons .here rfl (.cons .here rfl (.cons .here rfl .nil)))))) rfl ?_)
     refine Ae0 (i := 22) rfl (by kernel_rfl) (by kernel_rfl) rfl rfl rfl (PanQ.back rfl) (.cons .here rfl (.cons .here rfl (.cons .here rfl (.cons .here rfl (.cons .here rfl (.cons .here rfl .nil)))))) rfl ?_
     refine RunA.one (i := 26) (by kernel_rfl) (by kernel_rfl) ?_
     refine Ag4 rfl rfl rfl rfl (Aa0 (.cons .here rfl (.cons .here rfl (.cons .here rfl (.cons .here rfl (.cons .here rfl (.cons .here rfl .nil)))))) (.cons .here rfl (.cons .here rfl (.cons .here rfl (.cons .here rfl (.cons .here rfl (.cons .here rfl .nil)))))) rfl ?_)
     refine Ae0 (i := 27) rfl (by kernel_rfl) (by kernel_rfl) rfl rfl rfl (PanQ.back rfl) (.cons .here rfl (.cons .here rfl (.cons .here rfl (.cons .here rfl (.cons .here rfl (.cons .here rfl .nil)))))) rfl ?_
     refine Af4 (by kernel_rfl) ?_
     refine RunB.one (i := 28) (by kernel_rfl) ?_
     refine Ag4 rfl rfl rfl rfl (Ab1 ?_)
     refine RunB.one (i := 29) (by kernel_rfl) ?_
     refine Ac5 rfl (Aa5 rfl) rfl rfl rfl (Ab1 ?_)
     refine RunB.done (by kernel_rfl) ?_
     refine Ag3 ?_
     exact Al1  (Ab5 _) (Pick.refl _)
    refine Ag4 rfl rfl rfl rfl (Aa0 (.cons .here rfl (.cons .here rfl (.cons .here rfl (.cons .here rfl (.cons .here rfl (.cons .here rfl .nil)))))) (.cons .here rfl (.cons .here rfl (.cons .here rfl (.cons .here rfl (.cons .here rfl (.cons .here rfl .nil)))))) rfl ?_)
    refine Ae0 (i := 27) rfl (by kernel_rfl) (by kernel_rfl) rfl rfl rfl (PanQ.back rfl) (.cons .here rfl (.cons .here rfl (.cons .here rfl (.cons .here rfl (.cons .here rfl (.cons .here rfl .nil)))))) rfl ?_
    refine RunA.one (i := 21) (by kernel_rfl) (by kernel_rfl) ?_
    refine Ag4 rfl rfl rfl rfl (Aa0 (.cons .here rfl (.cons .here rfl (.cons .here rfl (.cons .here rfl (.cons .here rfl (.cons .here rfl .nil)))))) (.cons .here rfl (.cons .here rfl (.cons .here rfl (.cons .here rfl (.cons .here rfl (.cons .here rfl .nil)))))) rfl ?_)
    refine Ae0 (i := 22) rfl (by kernel_rfl) (by kernel_rfl) rfl rfl rfl (PanQ.back rfl) (.cons .here rfl (.cons .here rfl (.cons .here rfl (.cons .here rfl (.cons .here rfl (.cons .here rfl .nil)))))) rfl ?_
    refine Af4 (by kernel_rfl) ?_
    refine RunB.one (i := 28) (by kernel_rfl) ?_
    refine Ag4 rfl rfl rfl rfl (Ab1 ?_)
    refine RunB.one (i := 29) (by kernel_rfl) ?_
    refine Ac5 rfl (Aa5 rfl) rfl rfl rfl (Ab1 ?_)
    refine RunB.done (by kernel_rfl) ?_
    refine Ag3 ?_
    exact Al1  (Sub.cons (t := 73) rfl (Sub.cons (t := 72) rfl (Sub.cons (t := 71) rfl (Sub.cons (t := 70) rfl (Sub.cons (t := 66) rfl (Sub.cons (t := 65) rfl (Sub.cons (t := 62) rfl (Sub.cons (t := 69) rfl (Sub.cons (t := 68) rfl (Sub.cons (t := 67) rfl (Sub.cons (t := 64) rfl (Sub.cons (t := 63) rfl (Sub.cons (t := 61) rfl (Sub.cons (t := 60) rfl (Sub.cons (t := 59) rfl (Sub.cons (t := 58) rfl (Sub.cons (t := 57) rfl (Sub.cons (t := 56) rfl (Sub.cons (t := 55) rfl (Sub.cons (t := 54) rfl (Sub.cons (t := 53) rfl (Sub.cons (t := 52) rfl (Sub.cons (t := 51) rfl (Sub.cons (t := 50) rfl (Sub.cons (t := 49) rfl (Sub.cons (t := 48) rfl (Sub.cons (t := 47) rfl (Sub.cons (t := 46) rfl (Sub.cons (t := 45) rfl (Sub.cons (t := 44) rfl (Sub.skip rfl (Sub.skip rfl (Sub.skip rfl (Sub.skip rfl (Sub.skip rfl (Sub.skip rfl (Sub.skip rfl (Sub.skip rfl (Sub.skip rfl (Sub.skip rfl (Sub.skip rfl (Sub.skip rfl (Sub.skip rfl (Sub.skip rfl (Sub.skip rfl (Sub.skip rfl (Sub.skip rfl (Sub.skip rfl (Sub.skip rfl (Sub.skip rfl (Sub.skip rfl (Sub.skip rfl (Sub.skip rfl (Sub.skip rfl (Sub.skip rfl (Sub.skip rfl (Sub.skip rfl (Sub.skip rfl (Sub.skip rfl (Sub.skip rfl (Ab5 _))))))))))))))))))))))))))))))))))))))))))))))))))))))))))))) (.cons .here rfl (.cons .here rfl (.cons .here rfl (.cons .here rfl (.cons .here rfl (.cons .here rfl (Pick.refl _)))))))
   refine J0.out ?_
   refine RunE.next ?_
   refine AA2 rfl ?_
   refine RunC.region ?_
   refine vp rfl rfl rfl rfl ?_
   refine RunL.nil ?_
   refine Ad0 ?_
   refine RunE.next ?_
   refine RunC.region ?_
   refine Aa1 (Val.add rfl rfl (IntWalk.i64_in _ ⟨by decide, by decide⟩)) rfl rfl rfl ?_
   refine vp rfl rfl rfl rfl ?_
   refine RunL.nil ?_
   refine Aj2 (Sub.cons (t := 2) rfl (Sub.cons (t := 3) rfl (Sub.cons (t := 4) rfl (Sub.cons (t := 5) rfl (Sub.cons (t := 6) rfl (Sub.cons (t := 7) rfl (Sub.cons (t := 20) rfl (Sub.cons (t := 21) rfl (Sub.cons (t := 22) rfl (Sub.cons (t := 27) rfl (Sub.cons (t := 28) rfl (Sub.nil _)))))))))))) (.cons (.there (.there .here)) rfl (.cons (.there (.there .here)) rfl (.cons (.there (.there .here)) rfl (.cons (.there (.there .here)) rfl (Pick.skip (Pick.skip (Pick.refl _))))))) ?_
   refine Ai2 ?_
   refine csr ?_
   refine vp rfl rfl rfl rfl ?_
   refine nnx ?_
   refine RunC.seq ?_
   refine RunC.cond rfl ?_ (fun h => absurd h (by decide))
   intro c1
   clear c1
   refine RunC.skip ?_
   refine RunE.next ?_
   refine RunC.seq ?_
   refine RunC.block ?_
   refine csr ?_
   refine Aa1 (Az3 rfl rfl AV5 (by decide) (by decide) rfl) rfl rfl rfl ?_
   refine Ad9 (New.alloc AF7) rfl rfl rfl (fun b9 => ?_)
   refine Aa9 (Sto.store rfl rfl .here AH6 rfl rfl) rfl rfl ?_
   refine nnx ?_
   refine RunC.seq ?_
   refine Az5 14 Al3 (.cons .here rfl (.cons .here rfl (.cons .here rfl (.cons .here rfl (.cons .here rfl .nil))))) ?_
   refine Ac9 (i := 0) rfl (by kernel_rfl) (by kernel_rfl) (Aa5 rfl) rfl rfl rfl (PanQ.back rfl) (.cons .here rfl (.cons .here rfl (.cons .here rfl (.cons .here rfl (.cons .here rfl .nil))))) rfl ?_
   refine Ac9 (i := 1) rfl (by kernel_rfl) (by kernel_rfl) (Val.fieldAddr rfl Au9) rfl rfl rfl (PanQ.back rfl) (.cons .here rfl (.cons .here rfl (.cons .here rfl (.cons .here rfl (.cons .here rfl .nil))))) rfl ?_
   refine Ac9 (i := 2) rfl (by kernel_rfl) (by kernel_rfl) (Aa3 rfl (.tail _ (.head _)) Ag0 rfl) rfl rfl rfl (PanQ.back rfl) (.cons .here rfl (.cons .here rfl (.cons .here rfl (.cons .here rfl (.cons .here rfl .nil))))) rfl ?_
   refine Ac9 (i := 3) rfl (by kernel_rfl) (by kernel_rfl) (Ac4 rfl (.head _) AH6 rfl) rfl rfl rfl (PanQ.back rfl) (.cons .here rfl (.cons .here rfl (.cons .here rfl (.cons .here rfl (.cons .here rfl .nil))))) rfl ?_
   refine Ac9 (i := 4) rfl (by kernel_rfl) (by kernel_rfl) (Aa5 rfl) rfl rfl rfl (PanQ.back rfl) (.cons .here rfl (.cons .here rfl (.cons .here rfl (.cons .here rfl (.cons .here rfl .nil))))) rfl ?_
   refine Ac9 (i := 5) rfl (by kernel_rfl) (by kernel_rfl) (AJ2 (b := k) rfl rfl (by show k ≤ 64; omega) (u64_in (n := 2 ^ k) (by omega))) rfl rfl rfl (PanQ.back rfl) (.cons .here rfl (.cons .here rfl (.cons .here rfl (.cons .here rfl (.cons .here rfl .nil))))) rfl ?_
   refine Ac9 (i := 7) rfl (by kernel_rfl) (by kernel_rfl) (Val.fieldAddr rfl Au8) rfl rfl rfl (PanQ.back rfl) (.cons .here rfl (.cons .here rfl (.cons .here rfl (.cons .here rfl (.cons .here rfl .nil))))) rfl ?_
   refine Ac9 (i := 8) rfl (by kernel_rfl) (by kernel_rfl) (Aa3 rfl (.tail _ (.head _)) Ag0 rfl) rfl rfl rfl (PanQ.back rfl) (.cons .here rfl (.cons .here rfl (.cons .here rfl (.cons .here rfl (.cons .here rfl .nil))))) rfl ?_
   refine RunA.one (i := 6) (by kernel_rfl) (by kernel_rfl) ?_
   refine Az4 rfl (Ab7 rfl Bl4) rfl rfl rfl (fun w hm => Ar2 c hc bv m p.ents _ true (2 ^ k) (by omega) w (hS.mono0 hm) (hm.at (.tail _ (.tail _ (.tail _ (.head _))))) (AO8 hc hpo hpF (hm.at (.tail _ (.tail _ (.tail _ (.tail _ (.head _)))))) (fun _ _ h => hm.at (.tail _ (.tail _ (.tail _ (.tail _ (.tail _ ((by first | exact List.mem_append_left _ h | exact List.mem_append_right _ (List.mem_append_left _ h))))))))))) (fun b38 => (Aa0 (.cons .here rfl (.cons .here rfl (.cons .here rfl (.cons .here rfl (.cons .here rfl (.cons .here rfl .nil)))))) (.cons (.there .here) rfl (.cons (.there .here) rfl (.cons (.there .here) rfl (.cons (.there .here) rfl (.cons (.there .here) rfl .nil))))) rfl ?_))
   refine RunA.one (i := 9) (by kernel_rfl) (by kernel_rfl) ?_
   refine Ac5 rfl (Aj4 (v := .tuple #[.int .i64 0, .bool false]) rfl rfl (fun w hm => hm.at (.head _)) Au2 AA4 (by rw [AD4]; exact BN5 (hNk _))) rfl rfl rfl (Aa0 (.cons .here rfl (.cons .here rfl (.cons .here rfl (.cons .here rfl (.cons .here rfl (.cons .here rfl .nil)))))) (.cons .here rfl (.cons .here rfl (.cons .here rfl (.cons .here rfl (.cons .here rfl (.cons .here rfl .nil)))))) rfl ?_)
   refine Ac9 (i := 10) rfl (by kernel_rfl) (by kernel_rfl) (Aa5 rfl) rfl rfl rfl (PanQ.back rfl) (.cons .here rfl (.cons .here rfl (.cons .here rfl (.cons .here rfl (.cons .here rfl (.cons .here rfl .nil)))))) rfl ?_
   refine Ac9 (i := 11) rfl (by kernel_rfl) (by kernel_rfl) (Aa5 rfl) rfl rfl rfl (PanQ.back rfl) (.cons .here rfl (.cons .here rfl (.cons .here rfl (.cons .here rfl (.cons .here rfl (.cons .here rfl .nil)))))) rfl ?_
   refine Ac9 (i := 12) rfl (by kernel_rfl) (by kernel_rfl) (Aa5 rfl) rfl rfl rfl (PanQ.back rfl) (.cons .here rfl (.cons .here rfl (.cons .here rfl (.cons .here rfl (.cons .here rfl (.cons .here rfl .nil)))))) rfl ?_
   refine Ac9 (i := 13) rfl (by kernel_rfl) (by kernel_rfl) (Aa5 rfl) rfl rfl rfl (PanQ.back rfl) (.cons .here rfl (.cons .here rfl (.cons .here rfl (.cons .here rfl (.cons .here rfl (.cons .here rfl .nil)))))) rfl ?_
   refine Af4 (by kernel_rfl) ?_
   refine RunB.one (i := 14) (by kernel_rfl) ?_
   refine Ac5 rfl (Aa5 rfl) rfl rfl rfl (Ab1 ?_)
   refine RunB.done (by kernel_rfl) ?_
   refine Ag3 ?_
   refine RunE.next ?_
   refine RunC.seq ?_
   apply AC2 (J := J0 _ _ _ _ _ _) 28 Al3 (.cons .here rfl (.cons .here rfl (.cons .here rfl (.cons .here rfl (.cons .here rfl (.cons .here rfl .nil))))))
   ·refine Ac9 (i := 0) rfl (by kernel_rfl) (by kernel_rfl) (Aa5 rfl) rfl rfl rfl (PanQ.back rfl) (.cons .here rfl (.cons .here rfl (.cons .here rfl (.cons .here rfl (.cons .here rfl (.cons .here rfl .nil)))))) rfl ?_
    refine Ac9 (i := 1) rfl (by kernel_rfl) (by kernel_rfl) (Aa5 rfl) rfl rfl rfl (PanQ.back rfl) (.cons .here rfl (.cons .here rfl (.cons .here rfl (.cons .here rfl (.cons .here rfl (.cons .here rfl .nil)))))) rfl ?_
    refine Ac9 (i := 2) rfl (by kernel_rfl) (by kernel_rfl) (Aa5 rfl) rfl rfl rfl (PanQ.back rfl) (.cons .here rfl (.cons .here rfl (.cons .here rfl (.cons .here rfl (.cons .here rfl (.cons .here rfl .nil)))))) rfl ?_
    refine Ae0 (i := 3) rfl (by kernel_rfl) (by kernel_rfl) rfl rfl rfl (PanQ.back rfl) (.cons .here rfl (.cons .here rfl (.cons .here rfl (.cons .here rfl (.cons .here rfl (.cons .here rfl .nil)))))) rfl ?_
    refine Ae0 (i := 4) rfl (by kernel_rfl) (by kernel_rfl) rfl rfl rfl (PanQ.back rfl) (.cons .here rfl (.cons .here rfl (.cons .here rfl (.cons .here rfl (.cons .here rfl (.cons .here rfl .nil)))))) rfl ?_
    refine Ae0 (i := 5) rfl (by kernel_rfl) (by kernel_rfl) rfl rfl rfl (PanQ.back rfl) (.cons .here rfl (.cons .here rfl (.cons .here rfl (.cons .here rfl (.cons .here rfl (.cons .here rfl .nil)))))) rfl ?_
    refine Ae0 (i := 6) rfl (by kernel_rfl) (by kernel_rfl) rfl rfl rfl (PanQ.back rfl) (.cons .here rfl (.cons .here rfl (.cons .here rfl (.cons .here rfl (.cons .here rfl (.cons .here rfl .nil)))))) rfl ?_
    refine RunA.one (i := 7) (by kernel_rfl) (by kernel_rfl) ?_
    refine Ag4 rfl rfl rfl rfl (Aa0 (.cons .here rfl (.cons .here rfl (.cons .here rfl (.cons .here rfl (.cons .here rfl (.cons .here rfl .nil)))))) (.cons .here rfl (.cons .here rfl (.cons .here rfl (.cons .here rfl (.cons .here rfl (.cons .here rfl .nil)))))) rfl ?_)
    refine Ae0 (i := 8) rfl (by kernel_rfl) (by kernel_rfl) rfl rfl rfl (PanQ.back rfl) (.cons .here rfl (.cons .here rfl (.cons .here rfl (.cons .here rfl (.cons .here rfl (.cons .here rfl .nil)))))) rfl ?_
    refine Ae0 (i := 9) rfl (by kernel_rfl) (by kernel_rfl) rfl rfl rfl (PanQ.back rfl) (.cons .here rfl (.cons .here rfl (.cons .here rfl (.cons .here rfl (.cons .here rfl (.cons .here rfl .nil)))))) rfl ?_
    refine Ac9 (i := 10) rfl (by kernel_rfl) (by kernel_rfl) (Aa5 rfl) rfl rfl rfl (PanQ.back rfl) (.cons .here rfl (.cons .here rfl (.cons .here rfl (.cons .here rfl (.cons .here rfl (.cons .here rfl .nil)))))) rfl ?_
    refine Ac9 (i := 11) rfl (by kernel_rfl) (by kernel_rfl) (Aa5 rfl) rfl rfl rfl (PanQ.back rfl) (.cons .here rfl (.cons .here rfl (.cons .here rfl (.cons .here rfl (.cons .here rfl (.cons .here rfl .nil)))))) rfl ?_
    refine Ae0 (i := 12) rfl (by kernel_rfl) (by kernel_rfl) rfl rfl rfl (PanQ.back rfl) (.cons .here rfl (.cons .here rfl (.cons .here rfl (.cons .here rfl (.cons .here rfl (.cons .here rfl .nil)))))) rfl ?_
    refine Ae0 (i := 13) rfl (by kernel_rfl) (by kernel_rfl) rfl rfl rfl (PanQ.back rfl) (.cons .here rfl (.cons .here rfl (.cons .here rfl (.cons .here rfl (.cons .here rfl (.cons .here rfl .nil)))))) rfl ?_
    refine Ae0 (i := 14) rfl (by kernel_rfl) (by kernel_rfl) rfl rfl rfl (PanQ.back rfl) (.cons .here rfl (.cons .here rfl (.cons .here rfl (.cons .here rfl (.cons .here rfl (.cons .here rfl .nil)))))) rfl ?_
    refine Ae0 (i := 15) rfl (by kernel_rfl) (by kernel_rfl) rfl rfl rfl (PanQ.back rfl) (.cons .here rfl (.cons .here rfl (.cons .here rfl (.cons .here rfl (.cons .here rfl (.cons .here rfl .nil)))))) rfl ?_
    refine Ae0 (i := 16) rfl (by kernel_rfl) (by kernel_rfl) rfl rfl rfl (PanQ.back rfl) (.cons .here rfl (.cons .here rfl (.cons .here rfl (.cons .here rfl (.cons .here rfl (.cons .here rfl .nil)))))) rfl ?_
    refine Ae0 (i := 17) rfl (by kernel_rfl) (by kernel_rfl) rfl rfl rfl (PanQ.back rfl) (.cons .here rfl (.cons .here rfl (.cons .here rfl (.cons .here rfl (.cons .here rfl (.cons .here rfl .nil)))))) rfl ?_
    refine Ae0 (i := 19) rfl (by kernel_rfl) (by kernel_rfl) rfl rfl rfl (PanQ.back rfl) (.cons .here rfl (.cons .here rfl (.cons .here rfl (.cons .here rfl (.cons .here rfl (.cons .here rfl .nil)))))) rfl ?_
    refine Ae0 (i := 20) rfl (by kernel_rfl) (by kernel_rfl) rfl rfl rfl (PanQ.back rfl) (.cons .here rfl (.cons .here rfl (.cons .here rfl (.cons .here rfl (.cons .here rfl (.cons .here rfl .nil)))))) rfl ?_
    refine Ae0 (i := 23) rfl (by kernel_rfl) (by kernel_rfl) rfl rfl rfl (PanQ.back rfl) (.cons .here rfl (.cons .here rfl (.cons .here rfl (.cons .here rfl (.cons .here rfl (.cons .here rfl .nil)))))) rfl ?_
    refine Ae0 (i := 24) rfl (by kernel_rfl) (by kernel_rfl) rfl rfl rfl (PanQ.back rfl) (.cons .here rfl (.cons .here rfl (.cons .here rfl (.cons .here rfl (.cons .here rfl (.cons .here rfl .nil)))))) rfl ?_
    refine Ae0 (i := 25) rfl (by kernel_rfl) (by kernel_rfl) rfl rfl rfl (PanQ.back rfl) (.cons .here rfl (.cons .here rfl (.cons .here rfl (.cons .here rfl (.cons .here rfl (.cons .here rfl .nil)))))) rfl ?_
    refine RunA.one (i := 18) (by kernel_rfl) (by kernel_rfl) ?_
    refine Ag4 rfl rfl rfl rfl (Aa0 (.cons .here rfl (.cons .here rfl (.cons .here rfl (.cons .here rfl (.cons .here rfl (.cons .here rfl .nil)))))) (.cons .here rfl (.cons .here rfl (.cons .here rfl (.cons .here rfl (.cons .here rfl (.cons .here rfl .nil)))))) rfl ?_)
    refine Ae8 (rs := [21, 26]) (by kernel_rfl) (by simp) (by kernel_rfl) (fun m hm => ?_)
    simp only [List.mem_cons, List.not_mem_nil, or_false] at hm
    rcases hm with rfl | rfl
    ·refine Ag4 rfl rfl rfl rfl (Aa0 (.cons .here rfl (.cons .here rfl (.cons .here rfl (.cons .here rfl (.cons .here rfl (.cons .here rfl .nil)))))) (.cons .here rfl (.cons .here rfl (.cons .here rfl (.cons .here rfl (.cons .here rfl (.cons .here rfl .nil)))))) rfl ?_)
     refine Ae0 (i := 22) rfl (by kernel_rfl) (by kernel_rfl) rfl rfl rfl (PanQ.back rfl) (.cons .here rfl (.cons .here rfl (.cons .here rfl (.cons .here rfl (.cons .here rfl (.cons .here rfl .nil)))))) rfl ?_
     refine RunA.one (i := 26) (by kernel_rfl) (by kernel_rfl) ?_
     refine Ag4 rfl rfl rfl rfl (Aa0 (.cons .here rfl (.cons .here rfl (.cons .here rfl (.cons .here rfl (.cons .here rfl (.cons .here rfl .nil)))))) (.cons .here rfl (.cons .here rfl (.cons .here rfl (.cons .here rfl (.cons .here rfl (.cons .here rfl .nil)))))) rfl ?_)
     refine Ae0 (i := 27) rfl (by kernel_rfl) (by kernel_rfl) rfl rfl rfl (PanQ.back rfl) (.cons .here rfl (.cons .here rfl (.cons .here rfl (.cons .here rfl (.cons .here rfl (.cons .here rfl .nil)))))) rfl ?_
     refine Af4 (by kernel_rfl) ?_
     refine RunB.one (i := 28) (by kernel_rfl) ?_
     refine Ag4 rfl rfl rfl rfl (Ab1 ?_)
     refine RunB.one (i := 29) (by kernel_rfl) ?_
     refine Ac5 rfl (Aa5 rfl) rfl rfl rfl (Ab1 ?_)
     refine RunB.done (by kernel_rfl) ?_
     refine Ag3 ?_
     exact Al1  (Ab5 _) (Pick.refl _)
    refine Ag4 rfl rfl rfl rfl (Aa0 (.cons .here rfl (.cons .here rfl (.cons .here rfl (.cons .here rfl (.cons .here rfl (.cons .here rfl .nil)))))) (.cons .here rfl (.cons .here rfl (.cons .here rfl (.cons .here rfl (.cons .here rfl (.cons .here rfl .nil)))))) rfl ?_)
    refine Ae0 (i := 27) rfl (by kernel_rfl) (by kernel_rfl) rfl rfl rfl (PanQ.back rfl) (.cons .here rfl (.cons .here rfl (.cons .here rfl (.cons .here rfl (.cons .here rfl (.cons .here rfl .nil)))))) rfl ?_
    refine RunA.one (i := 21) (by kernel_rfl) (by kernel_rfl) ?_
    refine Ag4 rfl rfl rfl rfl (Aa0 (.cons .here rfl (.cons .here rfl (.cons .here rfl (.cons .here rfl (.cons .here rfl (.cons .here rfl .nil)))))) (.cons .here rfl (.cons .here rfl (.cons .here rfl (.cons .here rfl (.cons .here rfl (.cons .here rfl .nil)))))) rfl ?_)
    refine Ae0 (i := 22) rfl (by kernel_rfl) (by kernel_rfl) rfl rfl rfl (PanQ.back rfl) (.cons .here rfl (.cons .here rfl (.cons .here rfl (.cons .here rfl (.cons .here rfl (.cons .here rfl .nil)))))) rfl ?_
    refine Af4 (by kernel_rfl) ?_
    refine RunB.one (i := 28) (by kernel_rfl) ?_
    refine Ag4 rfl rfl rfl rfl (Ab1 ?_)
    refine RunB.one (i := 29) (by kernel_rfl) ?_
    refine Ac5 rfl (Aa5 rfl) rfl rfl rfl (Ab1 ?_)
    refine RunB.done (by kernel_rfl) ?_
    refine Ag3 ?_
    exact Al1  (Sub.cons (t := 73) rfl (Sub.cons (t := 72) rfl (Sub.cons (t := 71) rfl (Sub.cons (t := 70) rfl (Sub.cons (t := 66) rfl (Sub.cons (t := 65) rfl (Sub.cons (t := 62) rfl (Sub.cons (t := 69) rfl (Sub.cons (t := 68) rfl (Sub.cons (t := 67) rfl (Sub.cons (t := 64) rfl (Sub.cons (t := 63) rfl (Sub.cons (t := 61) rfl (Sub.cons (t := 60) rfl (Sub.cons (t := 59) rfl (Sub.cons (t := 58) rfl (Sub.cons (t := 57) rfl (Sub.cons (t := 56) rfl (Sub.cons (t := 55) rfl (Sub.cons (t := 54) rfl (Sub.cons (t := 53) rfl (Sub.cons (t := 52) rfl (Sub.cons (t := 51) rfl (Sub.cons (t := 50) rfl (Sub.cons (t := 49) rfl (Sub.cons (t := 48) rfl (Sub.cons (t := 47) rfl (Sub.cons (t := 46) rfl (Sub.cons (t := 45) rfl (Sub.cons (t := 44) rfl (Sub.skip rfl (Sub.skip rfl (Sub.skip rfl (Sub.skip rfl (Sub.skip rfl (Sub.skip rfl (Sub.skip rfl (Sub.skip rfl (Sub.skip rfl (Sub.skip rfl (Sub.skip rfl (Sub.skip rfl (Sub.skip rfl (Sub.skip rfl (Sub.skip rfl (Sub.skip rfl (Sub.skip rfl (Sub.skip rfl (Sub.skip rfl (Sub.skip rfl (Sub.skip rfl (Sub.skip rfl (Sub.skip rfl (Sub.skip rfl (Sub.skip rfl (Sub.skip rfl (Sub.skip rfl (Sub.skip rfl (Sub.skip rfl (Sub.skip rfl (Ab5 _))))))))))))))))))))))))))))))))))))))))))))))))))))))))))))) (.cons .here rfl (.cons .here rfl (.cons .here rfl (.cons .here rfl (.cons .here rfl (.cons .here rfl (Pick.refl _)))))))
   refine J0.out ?_
   refine RunE.next ?_
   refine AA2 rfl ?_
   refine RunC.region ?_
   refine vp rfl rfl rfl rfl ?_
   refine RunL.nil ?_
   refine Ad0 ?_
   refine RunE.next ?_
   refine RunC.region ?_
   refine Aa1 (Val.add rfl rfl (IntWalk.i64_in _ ⟨by decide, by decide⟩)) rfl rfl rfl ?_
   refine vp rfl rfl rfl rfl ?_
   refine RunL.nil ?_
   refine Aj2 (Sub.cons (t := 2) rfl (Sub.cons (t := 3) rfl (Sub.cons (t := 4) rfl (Sub.cons (t := 5) rfl (Sub.cons (t := 6) rfl (Sub.cons (t := 7) rfl (Sub.cons (t := 20) rfl (Sub.cons (t := 21) rfl (Sub.cons (t := 22) rfl (Sub.cons (t := 27) rfl (Sub.cons (t := 28) rfl (Sub.nil _)))))))))))) (.cons (.there (.there .here)) rfl (.cons (.there (.there .here)) rfl (.cons (.there (.there .here)) rfl (.cons (.there (.there .here)) rfl (Pick.skip (Pick.skip (Pick.refl _))))))) ?_
   refine Ai2 ?_
   refine csr ?_
   refine vp rfl rfl rfl rfl ?_
   refine nnx ?_
   refine RunC.seq ?_
   refine RunC.cond rfl (fun h => absurd h (by decide)) ?_
   intro c1
   clear c1
   refine RunC.exit ?_
   refine Ac0 ?_
   refine Ac0 ?_
   refine Ab2 ?_
   refine RunE.next ?_
   refine csr ?_
   refine vp rfl rfl rfl rfl ?_
   refine nnx ?_
   refine RunC.cond rfl (fun h => absurd h (by decide)) ?_
   intro c3
   clear c3
   refine RunC.skip ?_
   refine Ad0 ?_
   refine RunE.next ?_
   refine RunC.region ?_
   refine Aa1 (Val.add rfl rfl (IntWalk.i64_in _ ⟨by omega, by omega⟩)) rfl rfl rfl ?_
   refine vp rfl rfl rfl rfl ?_
   refine RunL.nil ?_
   exact Ae4 (by omega) trivial rfl (Ad4 (t := 22) rfl rfl (Sub.cons (t := 2) rfl (Sub.cons (t := 3) rfl (Sub.cons (t := 4) rfl (Sub.cons (t := 20) rfl (Sub.cons (t := 21) rfl (Sub.nil _))))))) (.cons (.there .here) rfl (.cons (.there .here) rfl (.cons (.there .here) rfl (Pick.skip (Pick.refl _)))))
  intro c0
  have c0' := c0; clear c0
  try simp only [nH] at c0'
  obtain rfl : k = c.sg.l.length := by omega
  refine RunC.exit ?_
  refine Ac0 ?_
  refine Ac0 ?_
  refine Ab2 ?_
  refine RunE.next ?_
  refine csr ?_
  refine vp rfl rfl rfl rfl ?_
  refine vp rfl rfl rfl rfl ?_
  refine Aa9 (Sto.store rfl rfl .here Ah4 rfl rfl) rfl rfl ?_
  refine nnx ?_
  refine RunC.ret ?_
  exact Ah3 AI7 Bl8 (.r2 rfl (.tmp rfl) (.one rfl (.head _) Ah4 rfl)) (by first | rfl | simp)
theorem AO5 (b : Int) (hb : 0 ≤ b ∧ b < c.st) (e n : Pw1.Sp) (he : betwX c.pl 0 b false 0 = .ok e) (hn : betwX c.pl 0 b true 0 = .ok n) :
    Calls Tryz.prog 12 #[c.v, .int .i64 b] W (Pure (.tuple #[Pw1.Sp.v e, Pw1.Sp.v n, .int .i64 0]) W) := by
  have hst := hc.st
  have hst2 : 1 ≤ c.st ∧ c.st ≤ 8 := hst
  obtain ⟨e1, e2⟩ := e
  obtain ⟨n1, n2⟩ := n
  refine Aa2 Tryz.func12 rfl rfl ?_
  refine st ?_
  refine zn (New.box rfl) (fun b2 => ?_)
  refine zn (New.alloc Ac7) (fun b4 => ?_)
  refine zn (New.alloc Ac7) (fun b5 => ?_)
  refine zc (zF rfl BQ0) (fun w hm => AF6 c hc hR w (hS.mono0 hm) 0 b (by omega) hb ⟨e1, e2⟩ ⟨n1, n2⟩ he hn) ?_
  refine Aa9 (Sto.store rfl rfl (.there .here) Ad7 rfl rfl) rfl rfl ?_
  refine Aa9 (Sto.store rfl rfl .here Ad7 rfl rfl) rfl rfl ?_
  refine su ?_
  exact Aa7 (.r3 rfl (.agg rfl (.tail _ (.head _)) Ad7 rfl) (.agg rfl (.head _) Ad7 rfl) (.tmp rfl)) (by first | rfl | simp)
end
end Go.Proofs.YthbiaipagceokaaGreat
namespace Go.Ct
open Go Go.Eng Go.Pw1
/-! ## The chart of a straight road -/
def zSp : Pw1.Sp := ⟨0, 0⟩
def stS (sp : List Pw1.Sp) : List Sg := (List.range sp.length).map fun (i : Nat) => ⟨0, ((i + 1 : Nat) : Int), sp.getD i zSp, zSp⟩
def star (sp : List Pw1.Sp) : Ch := ⟨((sp.length + 1 : Nat) : Int), stS sp⟩
theorem Aw5 (sp : List Pw1.Sp) : (stS sp).length = sp.length := by unfold stS; rw [List.length_map, List.length_range]
theorem AK6 {sp : List Pw1.Sp} {i : Nat} (h : i < sp.length) : (stS sp).getD i zSg = ⟨0, ((i + 1 : Nat) : Int), sp.getD i zSp, zSp⟩ := by
  rw [List.getD_eq_getElem?_getD, List.getElem?_eq_getElem (by rw [Aw5]; exact h)]
  simp [stS]
theorem Bi8 (sp : List Pw1.Sp) (s : Pw1.Sp) : stS (sp ++ [s]) = stS sp ++ [⟨0, ((sp.length + 1 : Nat) : Int), s, zSp⟩] := by
  unfold stS
  rw [List.length_append, List.length_singleton, List.range_succ, List.map_append]
  congr 1
  · refine List.map_congr_left (fun i hi => ?_)
    rw [List.mem_range] at hi
    rw [List.getD_eq_getElem?_getD, List.getD_eq_getElem?_getD, List.getElem?_append_left hi]
  · rw [List.map_singleton, List.getD_eq_getElem?_getD, List.getElem?_append_right (Nat.le_refl _), Nat.sub_self]
    try rfl
section
variable {sp : List Pw1.Sp} (hsp : ∀ s ∈ sp, -1073741824 ≤ s.lo ∧ s.lo ≤ s.hi ∧ s.hi ≤ 1073741824)
def ax (sp : List Pw1.Sp) (nx : Bool) (j : Nat) : Pw1.Sp := if nx then zSp else sp.getD j zSp
include hsp in
theorem BY1 (nx : Bool) (j : Nat) : (ax sp nx j).lo ≤ (ax sp nx j).hi := by
  unfold ax
  cases nx
  · rw [List.getD_eq_getElem?_getD]
    by_cases h : j < sp.length
    · rw [List.getElem?_eq_getElem h]; exact (hsp _ (List.getElem_mem h)).2.1
    · rw [List.getElem?_eq_none (by omega)]; exact Int.le_refl _
  · exact Int.le_refl _
include hsp in
theorem AK3 (h : sp.length ≤ 7) : ChOk (star sp) := by
  refine ⟨⟨by show (1 : Int) ≤ ((sp.length + 1 : Nat) : Int); omega, by show ((sp.length + 1 : Nat) : Int) ≤ 8; omega⟩, by show (stS sp).length ≤ 10; rw [Aw5]; omega, fun s hs => ?_⟩
  obtain ⟨i, hi, rfl⟩ := List.mem_map.1 (show s ∈ stS sp from hs)
  rw [List.mem_range] at hi
  have h1 := hsp _ (List.getElem_mem hi)
  have e : sp.getD i zSp = sp[i] := by rw [List.getD_eq_getElem?_getD, List.getElem?_eq_getElem hi]; rfl
  refine ⟨⟨by show (0 : Int) ≤ 0; decide, by show (0 : Int) < ((sp.length + 1 : Nat) : Int); omega⟩, ⟨by show (0 : Int) ≤ ((i + 1 : Nat) : Int); omega, by show ((i + 1 : Nat) : Int) < ((sp.length + 1 : Nat) : Int); omega⟩, by show (0 : Int) ≠ ((i + 1 : Nat) : Int); omega, by rw [e]; exact h1, by show -1073741824 ≤ (0 : Int) ∧ (0 : Int) ≤ 0 ∧ (0 : Int) ≤ 1073741824; decide⟩
theorem BN6 : ∀ n, n ≤ sp.length → lksK (stS sp) n 0 = (List.range n).map fun (i : Nat) => ⟨i, ((i + 1 : Nat) : Int), false⟩
  | 0, _ => rfl
  | n + 1, h => by
    show lksK (stS sp) n 0 ++ lk1 n ((stS sp).getD n zSg) 0 = _
    rw [BN6 n (by omega), AK6 (by omega), List.range_succ, List.map_append]
    congr 1
theorem BT4 : lks (star sp) 0 = (List.range sp.length).map fun (i : Nat) => ⟨i, ((i + 1 : Nat) : Int), false⟩ := by
  show lksK (stS sp) (stS sp).length 0 = _
  rw [Aw5]
  exact BN6 _ (Nat.le_refl _)
theorem Bx8 (j : Nat) : ∀ n, n ≤ sp.length → lksK (stS sp) n ((j + 1 : Nat) : Int) = if j < n then [⟨j, 0, true⟩] else []
  | 0, _ => rfl
  | n + 1, h => by
    show lksK (stS sp) n ((j + 1 : Nat) : Int) ++ lk1 n ((stS sp).getD n zSg) ((j + 1 : Nat) : Int) = _
    rw [Bx8 j n (by omega), AK6 (by omega)]
    unfold lk1
    rw [if_neg (show ¬ (0 : Int) = ((j + 1 : Nat) : Int) by omega)]
    by_cases hj : j = n
    · subst hj
      rw [if_neg (by omega), if_pos rfl, if_pos (by omega)]
      rfl
    · rw [if_neg (show ¬ ((n + 1 : Nat) : Int) = ((j + 1 : Nat) : Int) by omega)]
      by_cases hl : j < n
      · rw [if_pos hl, if_pos (by omega)]; rfl
      · rw [if_neg hl, if_neg (by omega)]; rfl
theorem BI8 {j : Nat} (h : j < sp.length) : lks (star sp) ((j + 1 : Nat) : Int) = [⟨j, 0, true⟩] := by
  show lksK (stS sp) (stS sp).length _ = _
  rw [Aw5, Bx8 j _ (Nat.le_refl _), if_pos h]
theorem BG6 (nx : Bool) {i : Nat} (h : i < sp.length) (to : Int) : spanL (star sp) nx ⟨i, to, false⟩ = ax sp nx i := by
  unfold spanL
  rw [if_neg (by show ¬ (false = true); decide)]
  show axS nx ((stS sp).getD i zSg) = _
  rw [AK6 h]
  cases nx <;> rfl
theorem Bu5 (nx : Bool) {i : Nat} (h : i < sp.length) (to : Int) : spanL (star sp) nx ⟨i, to, true⟩ = ⟨-(ax sp nx i).hi, -(ax sp nx i).lo⟩ := by
  unfold spanL
  rw [if_pos rfl]
  show (⟨-(axS nx ((stS sp).getD i zSg)).hi, -(axS nx ((stS sp).getD i zSg)).lo⟩ : Pw1.Sp) = _
  rw [AK6 h]
  cases nx <;> rfl
/-! ### No circles -/
theorem Ar9 : RightC (star sp) := by
  have h0 : ∀ n, n ≤ sp.length + 1 → circA (star sp) n = [] := by
    intro n
    induction n with
    | zero => intro _; rfl
    | succ n ih =>
      intro hn
      rw [AU8, ih (by omega), List.nil_append]
      have hlen : (star sp).sg.length = sp.length := Aw5 sp
      rw [hlen]
      show (lks (star sp) (n : Int)).flatMap _ = []
      rw [List.flatMap_eq_nil_iff]
      intro l hl
      cases n with
      | zero =>
        rw [show ((0 : Nat) : Int) = 0 from rfl, BT4] at hl
        obtain ⟨i, hi, rfl⟩ := List.mem_map.1 hl
        rw [List.mem_range] at hi
        have hb : lkBad ((0 : Nat) : Int) [] ⟨i, ((i + 1 : Nat) : Int), false⟩ = false := by
          unfold lkBad
          rw [List.any_nil, Bool.or_false]
          exact decide_eq_false (by show ¬ ((i + 1 : Nat) : Int) < ((0 : Nat) : Int); omega)
        have hne : (⟨i, ((i + 1 : Nat) : Int), false⟩ : Lk).to ≠ ((0 : Nat) : Int) := by show ((i + 1 : Nat) : Int) ≠ ((0 : Nat) : Int); omega
        by_cases hbit : (2 ^ 0).testBit (⟨i, ((i + 1 : Nat) : Int), false⟩ : Lk).to.toNat = true
        · exact AP1 hb hne hbit
        · rw [Bi7 hb hne (by simpa using hbit)]
          have hs : sp.length = (sp.length - 1) + 1 := by omega
          rw [hs]
          show (lks (star sp) ((i + 1 : Nat) : Int)).flatMap _ = []
          rw [BI8 hi, List.flatMap_cons, List.flatMap_nil, List.append_nil]
          refine AK2 ?_
          unfold lkBad
          simp
      | succ j =>
        rw [BI8 (by omega)] at hl
        rw [List.mem_singleton.1 hl]
        refine AK2 ?_
        unfold lkBad
        rw [Bool.or_eq_true]
        exact .inl (decide_eq_true (by show (0 : Int) < ((j + 1 : Nat) : Int); omega))
  intro way hw
  have : circs (star sp) = [] := h0 _ (by show ((sp.length + 1 : Nat) : Int).toNat ≤ _; rw [Int.toNat_natCast]; exact Nat.le_refl _)
  rw [this] at hw
  cases hw
/-! ### Bounds -/
def mn (o : Option Int) (v : Int) : Int := match o with
  | none => v
  | some x => if v < x then v else x
theorem AI2 (m : Im) (k v t : Int) : iFind (putX m k v) t = if k = t then some (mn (iFind m k) v) else iFind m t := by
  unfold putX mn
  cases h : iFind m k with
  | none => simp only [AE0]
  | some o =>
    by_cases hv : v < o
    · simp only [if_pos hv, AE0]
    · simp only [if_neg hv]
      by_cases hk : k = t
      · rw [if_pos hk, ← hk, h]
      · rw [if_neg hk]
theorem BN8 (nx : Bool) (b : Int) (m : Im) : ∀ n, n ≤ sp.length → (∀ j, iFind (((List.range n).map fun (i : Nat) => (⟨i, ((i + 1 : Nat) : Int), false⟩ : Lk)).foldl (stepX (star sp) nx 0 b) m) ((j + 1 : Nat) : Int) = if j < n then some (mn (iFind m ((j + 1 : Nat) : Int)) (b + (ax sp nx j).hi)) else iFind m ((j + 1 : Nat) : Int)) ∧
    iFind (((List.range n).map fun (i : Nat) => (⟨i, ((i + 1 : Nat) : Int), false⟩ : Lk)).foldl (stepX (star sp) nx 0 b) m) 0 = iFind m 0
  | 0, _ => ⟨fun j => by rw [if_neg (by omega)]; rfl, rfl⟩
  | n + 1, h => by
    obtain ⟨ih, ih0⟩ := BN8 nx b m n (by omega)
    rw [List.range_succ, List.map_append, List.foldl_append]
    generalize ((List.range n).map fun (i : Nat) => (⟨i, ((i + 1 : Nat) : Int), false⟩ : Lk)).foldl (stepX (star sp) nx 0 b) m = M at ih ih0 ⊢
    have e : ([n].map fun (i : Nat) => (⟨i, ((i + 1 : Nat) : Int), false⟩ : Lk)).foldl (stepX (star sp) nx 0 b) M = putX M ((n + 1 : Nat) : Int) (b + (ax sp nx n).hi) := by
      show stepX (star sp) nx 0 b M ⟨n, ((n + 1 : Nat) : Int), false⟩ = _
      unfold stepX
      rw [if_neg (by simp), BG6 nx (by omega)]
    rw [e]
    refine ⟨fun j => ?_, ?_⟩
    · rw [AI2]
      by_cases hj : n = j
      · subst hj
        rw [if_pos rfl, if_pos (by omega), ih, if_neg (by omega)]
      · rw [if_neg (by omega), ih]
        by_cases hl : j < n
        · rw [if_pos hl, if_pos (by omega)]
        · rw [if_neg hl, if_neg (by omega)]
    · rw [AI2, if_neg (by omega), ih0]
theorem Cg0 (nx : Bool) {b : Int} {m : Im} (h : iFind m 0 = some b) : (∀ j, j < sp.length → iFind (atX (star sp) nx 0 m 0) ((j + 1 : Nat) : Int) = some (mn (iFind m ((j + 1 : Nat) : Int)) (b + (ax sp nx j).hi))) ∧ iFind (atX (star sp) nx 0 m 0) 0 = some b := by
  unfold atX
  rw [show ((0 : Nat) : Int) = 0 from rfl, h]
  show (∀ j, j < sp.length → iFind ((lks (star sp) 0).foldl _ m) _ = _) ∧ iFind ((lks (star sp) 0).foldl _ m) 0 = _
  rw [BT4]
  obtain ⟨h1, h2⟩ := BN8 nx b m sp.length (Nat.le_refl _)
  exact ⟨fun j hj => by rw [h1, if_pos hj], by rw [h2, h]⟩
theorem Cf7 (nx : Bool) {out : Nat} {m : Im} (h : iFind m 0 = none) : atX (star sp) nx out m 0 = m := by
  unfold atX
  rw [show ((0 : Nat) : Int) = 0 from rfl, h]
theorem Cf6 (nx : Bool) {j : Nat} (hj : j < sp.length) {v : Int} {m : Im} (h : iFind m ((j + 1 : Nat) : Int) = some v) (t : Int) : iFind (atX (star sp) nx 0 m (j + 1)) t = if 0 = t then some (mn (iFind m 0) (v + -(ax sp nx j).lo)) else iFind m t := by
  unfold atX
  rw [h]
  show iFind ((lks (star sp) ((j + 1 : Nat) : Int)).foldl _ m) t = _
  rw [BI8 hj]
  show iFind (stepX (star sp) nx 0 v m ⟨j, 0, true⟩) t = _
  unfold stepX
  rw [if_neg (by simp), Bu5 nx hj, AI2]
theorem Ce0 (nx : Bool) {out : Nat} {j : Nat} {m : Im} (h : iFind m ((j + 1 : Nat) : Int) = none) : atX (star sp) nx out m (j + 1) = m := by
  unfold atX
  rw [h]
def Pc (sp : List Pw1.Sp) (nx : Bool) (m : Im) : Prop := iFind m 0 = some 0 ∧ ∀ j, j < sp.length → iFind m ((j + 1 : Nat) : Int) = some (ax sp nx j).hi
def P0 (sp : List Pw1.Sp) (nx : Bool) (m : Im) : Prop := iFind m 0 = some 0 ∧ ∀ j, j < sp.length → iFind m ((j + 1 : Nat) : Int) = none ∨ iFind m ((j + 1 : Nat) : Int) = some (ax sp nx j).hi
theorem Pc.p0 {nx : Bool} {m : Im} (h : Pc sp nx m) : P0 sp nx m := ⟨h.1, fun j hj => .inr (h.2 j hj)⟩
theorem P0.at0 {nx : Bool} {m : Im} (h : P0 sp nx m) : Pc sp nx (atX (star sp) nx 0 m 0) := by
  obtain ⟨h1, h2⟩ := Cg0 (sp := sp) nx h.1
  refine ⟨h2, fun j hj => ?_⟩
  rw [h1 j hj]
  rcases h.2 j hj with e | e <;> rw [e] <;> simp [mn]
include hsp in
theorem Pc.atj {nx : Bool} {m : Im} (h : Pc sp nx m) {j : Nat} (hj : j < sp.length) : Pc sp nx (atX (star sp) nx 0 m (j + 1)) := by
  have hf := Cf6 nx hj (h.2 j hj)
  have hle := BY1 hsp nx j
  refine ⟨?_, fun i hi => ?_⟩
  · rw [hf, if_pos rfl, h.1]
    show some (if (ax sp nx j).hi + -(ax sp nx j).lo < 0 then _ else (0 : Int)) = some 0
    rw [if_neg (by omega)]
  · rw [hf, if_neg (by omega)]; exact h.2 i hi
include hsp in
theorem P0.ats {nx : Bool} {m : Im} (h : P0 sp nx m) : ∀ n, 1 ≤ n → n ≤ sp.length + 1 → Pc sp nx (atsX (star sp) nx 0 m n)
  | 0, h0, _ => by omega
  | 1, _, _ => by rw [AV4]; exact h.at0
  | n + 2, _, hn => by rw [AV4]; exact (P0.ats h (n + 1) (by omega) (by omega)).atj hsp (by omega)
include hsp in
theorem P0.rnds {nx : Bool} {m : Im} (h : P0 sp nx m) : ∀ n, 1 ≤ n → Pc sp nx (rndsX (star sp) nx 0 m n)
  | 0, h0 => by omega
  | 1, _ => h.ats hsp _ (by show 1 ≤ ((sp.length + 1 : Nat) : Int).toNat; omega) (by show ((sp.length + 1 : Nat) : Int).toNat ≤ _; omega)
  | n + 2, _ => (P0.rnds h (n + 1) (by omega)).p0.ats hsp _ (by show 1 ≤ ((sp.length + 1 : Nat) : Int).toNat; omega) (by show ((sp.length + 1 : Nat) : Int).toNat ≤ _; omega)
include hsp in
theorem Bm6 (nx : Bool) : Pc sp nx (boundsX (star sp) 0 nx 0) := by
  have h : P0 sp nx [(0, 0)] := ⟨rfl, fun j _ => .inl (by show (if (0 : Int) = ((j + 1 : Nat) : Int) then some (0 : Int) else none) = none; rw [if_neg (by omega)])⟩
  exact h.rnds hsp _ (by show 1 ≤ ((sp.length + 1 : Nat) : Int).toNat; omega)
/-! ### From another station -/
def L0 (sp : List Pw1.Sp) (a : Nat) (m : Im) : Prop := iFind m ((a + 1 : Nat) : Int) = some 0 ∧ iFind m 0 = none ∧ ∀ j, j < sp.length → j ≠ a → iFind m ((j + 1 : Nat) : Int) = none
def L1 (sp : List Pw1.Sp) (nx : Bool) (a : Nat) (m : Im) : Prop := iFind m ((a + 1 : Nat) : Int) = some 0 ∧ iFind m 0 = some (-(ax sp nx a).lo) ∧ ∀ j, j < sp.length → j ≠ a → iFind m ((j + 1 : Nat) : Int) = none ∨ iFind m ((j + 1 : Nat) : Int) = some (-(ax sp nx a).lo + (ax sp nx j).hi)
def L2 (sp : List Pw1.Sp) (nx : Bool) (a : Nat) (m : Im) : Prop := iFind m ((a + 1 : Nat) : Int) = some 0 ∧ iFind m 0 = some (-(ax sp nx a).lo) ∧ ∀ j, j < sp.length → j ≠ a → iFind m ((j + 1 : Nat) : Int) = some (-(ax sp nx a).lo + (ax sp nx j).hi)
theorem L2.l1 {nx : Bool} {a : Nat} {m : Im} (h : L2 sp nx a m) : L1 sp nx a m := ⟨h.1, h.2.1, fun j hj hja => .inr (h.2.2 j hj hja)⟩
include hsp in
theorem L1.at0 {nx : Bool} {a : Nat} (ha : a < sp.length) {m : Im} (h : L1 sp nx a m) : L2 sp nx a (atX (star sp) nx 0 m 0) := by
  obtain ⟨h1, h2⟩ := Cg0 (sp := sp) nx h.2.1
  have hle := BY1 hsp nx a
  refine ⟨?_, h2, fun j hj hja => ?_⟩
  · rw [h1 a ha, h.1]
    show some (if -(ax sp nx a).lo + (ax sp nx a).hi < 0 then _ else (0 : Int)) = some 0
    rw [if_neg (by omega)]
  · rw [h1 j hj]
    rcases h.2.2 j hj hja with e | e <;> rw [e] <;> simp [mn]
include hsp in
theorem L1.atj {nx : Bool} {a : Nat} {m : Im} (h : L1 sp nx a m) {j : Nat} (hj : j < sp.length) : (∀ t, iFind (atX (star sp) nx 0 m (j + 1)) t = iFind m t) := by
  intro t
  have hle := BY1 hsp nx j
  have key : ∀ v, iFind m ((j + 1 : Nat) : Int) = some v → -(ax sp nx a).lo ≤ v + -(ax sp nx j).lo → iFind (atX (star sp) nx 0 m (j + 1)) t = iFind m t := fun v hv hle2 => by
    rw [Cf6 nx hj hv]
    by_cases ht : 0 = t
    · subst ht
      rw [if_pos rfl, h.2.1]
      show some (if v + -(ax sp nx j).lo < -(ax sp nx a).lo then _ else -(ax sp nx a).lo) = _
      rw [if_neg (by omega)]
    · rw [if_neg ht]
  by_cases hja : j = a
  · subst hja
    exact key 0 h.1 (by omega)
  · rcases h.2.2 j hj hja with e | e
    · rw [Ce0 nx e]
    · exact key _ e (by omega)
theorem L1.same {nx : Bool} {a : Nat} {m m' : Im} (h : L1 sp nx a m) (he : ∀ t, iFind m' t = iFind m t) : L1 sp nx a m' := ⟨by rw [he]; exact h.1, by rw [he]; exact h.2.1, fun j hj hja => by rw [he]; exact h.2.2 j hj hja⟩
theorem L2.same {nx : Bool} {a : Nat} {m m' : Im} (h : L2 sp nx a m) (he : ∀ t, iFind m' t = iFind m t) : L2 sp nx a m' := ⟨by rw [he]; exact h.1, by rw [he]; exact h.2.1, fun j hj hja => by rw [he]; exact h.2.2 j hj hja⟩
theorem L0.atj {nx : Bool} {a : Nat} {m : Im} (h : L0 sp a m) {j : Nat} (hj : j < sp.length) (hja : j ≠ a) : L0 sp a (atX (star sp) nx 0 m (j + 1)) := by
  rw [Ce0 nx (h.2.2 j hj hja)]; exact h
theorem L0.ata {nx : Bool} {a : Nat} (ha : a < sp.length) {m : Im} (h : L0 sp a m) : L1 sp nx a (atX (star sp) nx 0 m (a + 1)) := by
  have hf := Cf6 nx ha h.1
  refine ⟨by rw [hf, if_neg (by omega)]; exact h.1, ?_, fun j hj hja => .inl (by rw [hf, if_neg (by omega)]; exact h.2.2 j hj hja)⟩
  rw [hf, if_pos rfl, h.2.1]
  show some (0 + -(ax sp nx a).lo) = _
  rw [Int.zero_add]
include hsp in
theorem L0.ats {nx : Bool} {a : Nat} (ha : a < sp.length) {m : Im} (h : L0 sp a m) : ∀ n, n ≤ sp.length + 1 → (n ≤ a + 1 → L0 sp a (atsX (star sp) nx 0 m n)) ∧ (a + 1 < n → L1 sp nx a (atsX (star sp) nx 0 m n))
  | 0, _ => ⟨fun _ => h, fun h1 => by omega⟩
  | 1, _ => ⟨fun _ => by rw [AV4, Cf7 nx (show iFind (atsX (star sp) nx 0 m 0) 0 = none from h.2.1)]; exact h, fun h1 => by omega⟩
  | n + 2, hn => by
    obtain ⟨i1, i2⟩ := L0.ats ha h (n + 1) (by omega)
    rw [AV4]
    refine ⟨fun h1 => (i1 (by omega)).atj (by omega) (by omega), fun h1 => ?_⟩
    by_cases he : n = a
    · subst he
      exact (i1 (by omega)).ata ha
    · have hl := i2 (by omega)
      exact hl.same (hl.atj hsp (by omega))
include hsp in
theorem L1.ats {nx : Bool} {a : Nat} (ha : a < sp.length) {m : Im} (h : L1 sp nx a m) : ∀ n, 1 ≤ n → n ≤ sp.length + 1 → L2 sp nx a (atsX (star sp) nx 0 m n)
  | 0, h0, _ => by omega
  | 1, _, _ => by rw [AV4]; exact h.at0 hsp ha
  | n + 2, _, hn => by
    have hl := L1.ats ha h (n + 1) (by omega) (by omega)
    rw [AV4]
    exact hl.same (hl.l1.atj hsp (by omega))
include hsp in
theorem Az0 (nx : Bool) {a : Nat} (ha : a < sp.length) : L2 sp nx a (boundsX (star sp) ((a + 1 : Nat) : Int) nx 0) := by
  have h0 : L0 sp a [(((a + 1 : Nat) : Int), 0)] := ⟨by show (if _ then _ else _) = _; rw [if_pos rfl], by show (if ((a + 1 : Nat) : Int) = 0 then some (0 : Int) else none) = none; rw [if_neg (by omega)], fun j _ hja => by show (if ((a + 1 : Nat) : Int) = ((j + 1 : Nat) : Int) then some (0 : Int) else none) = none; rw [if_neg (by omega)]⟩
  have hst : (star sp).st.toNat = sp.length + 1 := by show ((sp.length + 1 : Nat) : Int).toNat = _; rw [Int.toNat_natCast]
  have h1 : L1 sp nx a (rndsX (star sp) nx 0 [(((a + 1 : Nat) : Int), 0)] 1) := by
    show L1 sp nx a (atsX (star sp) nx 0 _ (star sp).st.toNat)
    rw [hst]
    exact (h0.ats hsp ha (sp.length + 1) (Nat.le_refl _)).2 (by omega)
  have h2 : ∀ n, 2 ≤ n → L2 sp nx a (rndsX (star sp) nx 0 [(((a + 1 : Nat) : Int), 0)] n) := by
    intro n
    induction n with
    | zero => intro h; omega
    | succ n ih =>
      intro h
      show L2 sp nx a (atsX (star sp) nx 0 (rndsX (star sp) nx 0 [(((a + 1 : Nat) : Int), 0)] n) (star sp).st.toNat)
      rw [hst]
      by_cases hn : n = 1
      · subst hn; exact h1.ats hsp ha _ (by omega) (Nat.le_refl _)
      · exact (ih (by omega)).l1.ats hsp ha _ (by omega) (Nat.le_refl _)
  unfold boundsX
  rw [hst]
  exact h2 _ (by omega)
/-! ### What is answered -/
include hsp in
theorem BQ2 (nx : Bool) {i : Nat} (hi : i < sp.length) : betwX (star sp) 0 ((i + 1 : Nat) : Int) nx 0 = .ok (ax sp nx i) := by
  have h0 := Bm6 hsp nx
  have hj := Az0 hsp nx hi
  rw [Az1 (by rw [h0.2 i hi]; rfl), h0.2 i hi, hj.2.1]
  show Except.ok (⟨- -(ax sp nx i).lo, (ax sp nx i).hi⟩ : Pw1.Sp) = _
  rw [Int.neg_neg]
include hsp in
theorem Cd8 {i : Nat} (hi : i < sp.length) (h1 : i ≠ 0) : betwX (star sp) 1 ((i + 1 : Nat) : Int) false 0 = .ok ⟨(ax sp false i).lo - (ax sp false 0).hi, (ax sp false i).hi - (ax sp false 0).lo⟩ := by
  have ha := Az0 hsp false (show 0 < sp.length by omega)
  have hj := Az0 hsp false hi
  have e1 := ha.2.2 i hi h1
  have e2 := hj.2.2 0 (by omega) (fun e => h1 e.symm)
  rw [show ((0 + 1 : Nat) : Int) = 1 from rfl] at e1 e2
  rw [Az1 (by rw [e1]; rfl), e1, e2]
  show Except.ok (⟨-(-(ax sp false i).lo + (ax sp false 0).hi), -(ax sp false 0).lo + (ax sp false i).hi⟩ : Pw1.Sp) = _
  congr 2 <;> omega
include hsp in
theorem BX8 {i : Nat} (hi : i < sp.length) (h1 : i ≠ 0) : ∃ n, betwX (star sp) 1 ((i + 1 : Nat) : Int) true 0 = .ok n := by
  have ha := Az0 hsp true (show 0 < sp.length by omega)
  have e1 := ha.2.2 i hi h1
  rw [show ((0 + 1 : Nat) : Int) = 1 from rfl] at e1
  exact ⟨_, Az1 (by rw [e1]; rfl)⟩
include hsp in
theorem Be0 : Linked (star sp) := fun i nx hi => by
  have h0 := Bm6 hsp nx
  have hi2 : i < sp.length + 1 := by (have : i < ((sp.length + 1 : Nat) : Int).toNat := hi); omega
  cases i with
  | zero => rw [show ((0 : Nat) : Int) = 0 from rfl, h0.1]; rfl
  | succ i => rw [h0.2 i (by omega)]; rfl
/-- What is not reached stays so. -/
theorem Bw8 {c : Ch} {nx : Bool} {out : Nat} {t : Int} (hl : ∀ k : Nat, ∀ l ∈ lks c (k : Int), l.to = t → out.testBit l.s = true) {m : Im} (h : iFind m t = none) (k : Nat) : iFind (atX c nx out m k) t = none := by
  unfold atX
  split
  · exact h
  · rename_i n hn
    have key : ∀ (ls : List Lk) (m : Im), (∀ l ∈ ls, l.to = t → out.testBit l.s = true) → iFind m t = none → iFind (ls.foldl (stepX c nx out n) m) t = none := by
      intro ls
      induction ls with
      | nil => intro m _ h; exact h
      | cons l ls ih =>
        intro m hls h
        refine ih _ (fun x hx => hls x (List.mem_cons_of_mem _ hx)) ?_
        unfold stepX
        by_cases hb : out.testBit l.s = true
        · rw [if_pos hb]; exact h
        · rw [if_neg hb, AI2, if_neg (fun e => hb (hls l (List.mem_cons_self ..) e))]; exact h
    exact key _ m (hl k) h
theorem AY9 {c : Ch} {nx : Bool} {out : Nat} {t : Int} (hl : ∀ k : Nat, ∀ l ∈ lks c (k : Int), l.to = t → out.testBit l.s = true) {m : Im} (h : iFind m t = none) : ∀ n, iFind (rndsX c nx out m n) t = none
  | 0 => h
  | n + 1 => by
    have ih := AY9 hl h n (nx := nx)
    have key : ∀ j m, iFind m t = none → iFind (atsX c nx out m j) t = none := by
      intro j
      induction j with
      | zero => intro m h; exact h
      | succ j ihj => intro m h; rw [AV4]; exact Bw8 hl (ihj m h) j
    exact key _ _ ih
theorem Bu3 : NoIdle (star sp) := fun i nx hi => by
  have hi2 : i < sp.length := by rw [← Aw5 sp]; exact hi
  have hg : (star sp).sg.getD i zSg = ⟨0, ((i + 1 : Nat) : Int), sp.getD i zSp, zSp⟩ := AK6 hi2
  rw [hg]
  show (iFind (boundsX (star sp) 0 nx (2 ^ i)) ((i + 1 : Nat) : Int)).isSome = false
  unfold boundsX
  rw [AY9 (t := ((i + 1 : Nat) : Int))]
  · rfl
  · intro k l hl hto
    cases k with
    | zero =>
      rw [show ((0 : Nat) : Int) = 0 from rfl, BT4] at hl
      obtain ⟨j, hj, rfl⟩ := List.mem_map.1 hl
      have : j = i := by (have h9 : ((j + 1 : Nat) : Int) = ((i + 1 : Nat) : Int) := hto); omega
      subst this
      simp
    | succ k =>
      by_cases hk : k < sp.length
      · rw [BI8 hk] at hl
        rw [List.mem_singleton.1 hl] at hto
        have h9 : (0 : Int) = ((i + 1 : Nat) : Int) := hto
        omega
      · have he : lks (star sp) ((k + 1 : Nat) : Int) = [] := by
          show lksK (stS sp) (stS sp).length _ = _
          rw [Aw5, Bx8 k _ (Nat.le_refl _), if_neg hk]
        rw [he] at hl
        cases hl
  · show (if (0 : Int) = ((i + 1 : Nat) : Int) then some (0 : Int) else none) = none
    rw [if_neg (by omega)]
include hsp in
theorem BW7 {i n : Nat} (hi : i < sp.length) (hn : i + 1 < n) : ∀ h, (drawL (star sp) n)[i + 1]'h = ⟨(ax sp false i).lo, 0⟩ := fun h => by
  simp only [drawL, List.getElem_map, List.getElem_range]
  rw [(Az0 hsp false hi).2.1, (Az0 hsp true hi).2.1]
  show (⟨- -(ax sp false i).lo, - -(ax sp true i).lo⟩ : Spt) = _
  rw [Int.neg_neg, Int.neg_neg]
  rfl
end
end Go.Ct
namespace Go.Ct
open Go Go.Eng Go.Pw1
theorem Aq6 {p : Pr} {i : Nat} (hi : i < p.things.length) : thingR p (i : Int) = true := by simp [thingR, within]; omega
theorem AU4 {p : Pr} {n : Int} (h : (distX p n).2 = 0) : p.near ≤ (distX p n).1.1 ∧ (distX p n).1.1 ≤ (distX p n).1.2 ∧ (distX p n).1.2 ≤ p.far := by
  obtain ⟨hp, ht, hw, hst, he⟩ := AU5 h
  have hm := At3 ht
  by_cases h0 : (thingAt p n).far = 0
  · have := BK8 hp hw hm h0 hst
    rw [he]
    exact this
  · have h2 := (hp.ths _ hm).2
    rw [he]
    unfold farS
    rw [if_neg h0]
    rcases h2 with h2 | h2
    · exact absurd h2 h0
    · exact ⟨h2.1, Int.le_refl _, h2.2⟩
/-- The pair in which it is known how far away a thing is. -/
theorem Av8 {p : Pr} {k : Nat} (hk : k < p.things.length) (hd : (distX p (k : Int)).2 = 0) {F : Int} (h1 : (distX p (k : Int)).1.1 ≤ F) (h2 : F ≤ (distX p (k : Int)).1.2) :
    (markP p k F).Ok ∧ isB (allS (markP p k F)) = true ∧ F ≠ 0 := by
  obtain ⟨hp, ht, hw, hst, he⟩ := AU5 hd
  have hr := AU4 hd
  have n1 := hp.n1
  have hF : p.near ≤ F ∧ F ≤ p.far := by omega
  have hF0 : F ≠ 0 := by omega
  have hxo := Bx0 hp hk hF.1 hF.2
  refine ⟨hxo, ?_, hF0⟩
  by_cases h0 : (thingAt p (k : Int)).far = 0
  · have hc := (BX1 hp hw hk h0 hF.1 hF.2).2 ⟨hst, by rw [he] at h1 h2; exact ⟨h1, h2⟩⟩
    exact (Bj5 hxo).1 (of_decide_eq_true hc)
  · have hf : (thingAt p (k : Int)).far = F := by
      rw [he] at h1 h2
      unfold farS at h1 h2
      rw [if_neg h0] at h1 h2
      simp only at h1 h2
      omega
    have : markP p k F = p := by
      unfold markP
      rw [← hf, show ({ thingAt p (k : Int) with far := (thingAt p (k : Int)).far } : Th) = thingAt p (k : Int) from rfl, Ae6 hk rfl, List.set_getElem_self]
    rw [this]
    exact hw
theorem Bq2 {p : Pr} {k : Nat} (hk : k < p.things.length) (F : Int) : (thingAt (markP p k F) (k : Int)).far = F := by
  rw [Ae6 (p := markP p k F) (k := k) (t := { thingAt p (k : Int) with far := F }) (by show k < (p.things.set k _).length; rw [List.length_set]; exact hk) (by show (p.things.set k _)[k]'_ = _; rw [List.getElem_set_self])]
theorem AZ0 {x : Pr} (hx : x.Ok) {k i : Nat} (hk : k < x.things.length) (hi : i < x.things.length) : (nearerX x (k : Int) (i : Int)) = (nearerS (thingAt x (k : Int)) (thingAt x (i : Int)), 0) := by
  rw [Be8]
  unfold nearerR
  rw [if_pos (AD1 hx), if_pos (by rw [Aq6 hk, Aq6 hi]; rfl)]
section
variable {x : Pr} (hx : x.Ok) (hw : isB (allS x) = true)
include hx hw
theorem BW9 {i : Nat} (hi : i < x.things.length) : ((distX x (i : Int)).2 = 0 ∧ isB (nar (allS x) (powersR x (thingAt x (i : Int)))) = true ∧ (distX x (i : Int)).1 = farS x (thingAt x (i : Int)) (allS x)) ∨ (distX x (i : Int)).2 = 11 := by
  have h := Bg3 hx (Aq6 hi) hw
  by_cases hs : isB (nar (allS x) (powersR x (thingAt x (i : Int)))) = true
  · rw [if_pos hs] at h
    exact .inl ⟨by rw [h], hs, by rw [h]⟩
  · rw [if_neg hs] at h
    exact .inr (by rw [h])
theorem BC4 {i : Nat} (hi : i < x.things.length) (hf : (thingAt x (i : Int)).far ≠ 0) : distX x (i : Int) = (((thingAt x (i : Int)).far, (thingAt x (i : Int)).far), 0) := by
  have hm := At3 (Aq6 hi)
  rw [Bg3 hx (Aq6 hi) hw, if_pos (By3 hw hm hf)]
  unfold farS
  rw [if_neg hf]
theorem Bp9 {k i : Nat} (hk : k < x.things.length) (hi : i < x.things.length) {F : Int} (hf : (thingAt x (k : Int)).far = F) (hF : F ≠ 0) (hd : (distX x (i : Int)).2 = 0) :
    (nearerS (thingAt x (k : Int)) (thingAt x (i : Int)) = 2 → F < (distX x (i : Int)).1.1) ∧ (nearerS (thingAt x (i : Int)) (thingAt x (k : Int)) = 2 → (distX x (i : Int)).1.2 < F) := by
  obtain ⟨_, _, _, hst, he⟩ := AU5 hd
  have hmk := At3 (Aq6 hk)
  have hmi := At3 (Aq6 hi)
  have n1 := hx.n1
  have hFr : x.near ≤ F ∧ F ≤ x.far := by
    rcases (hx.ths _ hmk).2 with h | h
    · rw [hf] at h; exact absurd h hF
    · rw [hf] at h; exact h
  have hbd := AN3 hx
  have hwi := AB4.1 hw
  have hw2 : InB (allS x).2 (allS x) := ⟨by (have := hwi.2; exact this), Int.le_refl _⟩
  have hfk : (thingAt x (k : Int)).far ≠ 0 := by rw [hf]; exact hF
  have hk1 := (AB7.1 hwi).2 _ hmk hfk
  have hk2 := (AB7.1 hw2).2 _ hmk hfk
  obtain ⟨sk, _, pk⟩ := AL0 (w := allS x) hbd.1 (By3 hw hmk hfk)
  obtain ⟨si, _, pi⟩ := AL0 (w := allS x) hbd.1 hst
  have bk := At7 sk
  have bi := At7 si
  rw [pk] at hk1 hk2
  unfold powersS at hk1 hk2
  rw [if_neg hfk, hf] at hk1 hk2
  have hA : (shownS (thingAt x (k : Int))).1 * F ≤ (allS x).1 := hk1.1
  have hB : (allS x).2 ≤ ((shownS (thingAt x (k : Int))).2 + 1) * F - 1 := hk2.2
  have hAB : (allS x).1 ≤ (allS x).2 := hwi.2
  rw [he]
  constructor
  · intro hn
    have hlt := Bi9 (AL7.1 hn) (by omega)
    have hmul : ((shownS (thingAt x (i : Int))).2 + 1) * F ≤ (shownS (thingAt x (k : Int))).1 * F := Int.mul_le_mul_of_nonneg_right (by omega) (by omega)
    unfold farS
    by_cases h0 : (thingAt x (i : Int)).far = 0
    · rw [if_pos h0]
      show F < max x.near _
      have : F ≤ (allS x).1 / ((shownS (thingAt x (i : Int))).2 + 1) := (AZ7 (by omega)).2 (by rw [Int.mul_comm]; omega)
      omega
    · rw [if_neg h0]
      show F < (thingAt x (i : Int)).far
      have hi1 := (AB7.1 hwi).2 _ hmi h0
      rw [pi] at hi1
      unfold powersS at hi1
      rw [if_neg h0] at hi1
      have hC : (allS x).1 ≤ ((shownS (thingAt x (i : Int))).2 + 1) * (thingAt x (i : Int)).far - 1 := hi1.2
      rcases Int.lt_or_le F (thingAt x (i : Int)).far with h | h
      · exact h
      · exfalso
        have hm2 : ((shownS (thingAt x (i : Int))).2 + 1) * (thingAt x (i : Int)).far ≤ ((shownS (thingAt x (i : Int))).2 + 1) * F := Int.mul_le_mul_of_nonneg_left h (by omega)
        omega
  · intro hn
    have hlt := Bi9 (AL7.1 hn) (by omega)
    have hmul : ((shownS (thingAt x (k : Int))).2 + 1) * F ≤ (shownS (thingAt x (i : Int))).1 * F := Int.mul_le_mul_of_nonneg_right (by omega) (by omega)
    unfold farS
    by_cases h0 : (thingAt x (i : Int)).far = 0
    · rw [if_pos h0]
      show (if 0 < (shownS (thingAt x (i : Int))).1 then min x.far ((allS x).2 / (shownS (thingAt x (i : Int))).1) else x.far) < F
      rw [if_pos (by omega)]
      have : (allS x).2 / (shownS (thingAt x (i : Int))).1 < F := (Bb1 (by omega)).2 (by rw [Int.mul_comm]; omega)
      omega
    · rw [if_neg h0]
      show (thingAt x (i : Int)).far < F
      have hi1 := (AB7.1 hwi).2 _ hmi h0
      rw [pi] at hi1
      unfold powersS at hi1
      rw [if_neg h0] at hi1
      have hC : (shownS (thingAt x (i : Int))).1 * (thingAt x (i : Int)).far ≤ (allS x).1 := hi1.1
      rcases Int.lt_or_le (thingAt x (i : Int)).far F with h | h
      · exact h
      · exfalso
        have hm2 : (shownS (thingAt x (i : Int))).1 * F ≤ (shownS (thingAt x (i : Int))).1 * (thingAt x (i : Int)).far := Int.mul_le_mul_of_nonneg_left h (by omega)
        omega
end
/-! ## Which things are drawn -/
structure AS where
  th : List Nat
  sp : List Pw1.Sp
def spD (x : Pr) (i : Nat) : Pw1.Sp := ⟨(distX x (i : Int)).1.1, (distX x (i : Int)).1.2⟩
def addX (x : Pr) (s : AS) (i : Nat) : AS := if (distX x (i : Int)).2 = 0 ∧ s.sp.length < 7 then ⟨s.th ++ [i], s.sp ++ [spD x i]⟩ else s
structure AsOk (x : Pr) (s : AS) : Prop where
  len : s.th.length = s.sp.length
  few : s.sp.length ≤ 7
  at' : ∀ j, j < s.th.length → (s.th.getD j 0) < x.things.length ∧ (distX x ((s.th.getD j 0 : Nat) : Int)).2 = 0 ∧ s.sp.getD j zSp = spD x (s.th.getD j 0)
theorem AsOk.nil (x : Pr) : AsOk x ⟨[], []⟩ := ⟨rfl, by decide, fun j h => by cases h⟩
theorem AI9 {x : Pr} {s : AS} {i : Nat} (h : (distX x (i : Int)).2 = 0) (h2 : s.sp.length < 7) : addX x s i = ⟨s.th ++ [i], s.sp ++ [spD x i]⟩ := if_pos ⟨h, h2⟩
theorem BL9 {x : Pr} {s : AS} {i : Nat} (h2 : ¬ s.sp.length < 7) : addX x s i = s := if_neg (fun h => h2 h.2)
theorem BL8 {x : Pr} {s : AS} {i : Nat} (h : ¬ (distX x (i : Int)).2 = 0) : addX x s i = s := if_neg (fun h2 => h h2.1)
theorem AsOk.add {x : Pr} {s : AS} (h : AsOk x s) {i : Nat} (hi : i < x.things.length) : AsOk x (addX x s i) := by
  unfold addX
  split
  · rename_i hc
    refine ⟨by simp [h.len], by simp; omega, fun j hj => ?_⟩
    have hj2 : j < s.th.length + 1 := by simpa using hj
    by_cases e : j < s.th.length
    · have h1 := h.at' j e
      rw [List.getD_eq_getElem?_getD, List.getD_eq_getElem?_getD, List.getElem?_append_left e, List.getElem?_append_left (by rw [← h.len]; exact e), ← List.getD_eq_getElem?_getD, ← List.getD_eq_getElem?_getD]
      exact h1
    · have e2 : j = s.th.length := by omega
      subst e2
      have a1 : (s.th ++ [i]).getD s.th.length 0 = i := by rw [List.getD_eq_getElem?_getD, List.getElem?_append_right (Nat.le_refl _), Nat.sub_self]; rfl
      have a2 : (s.sp ++ [spD x i]).getD s.th.length zSp = spD x i := by rw [h.len, List.getD_eq_getElem?_getD, List.getElem?_append_right (Nat.le_refl _), Nat.sub_self]; rfl
      simp only [a1, a2]
      exact ⟨hi, hc.1, trivial⟩
  · exact h
/-- All of them, one after the other; the one that is known comes first. -/
def addN (x : Pr) (k : Nat) : Nat → AS
  | 0 => addX x ⟨[], []⟩ k
  | n + 1 => if n = k then addN x k n else addX x (addN x k n) n
theorem AR2 {x : Pr} {k : Nat} (hd : (distX x (k : Int)).2 = 0) : ∀ n, ∃ t s, addN x k n = ⟨k :: t, spD x k :: s⟩
  | 0 => ⟨[], [], by unfold addN; rw [AI9 hd (by show 0 < 7; decide)]; rfl⟩
  | n + 1 => by
    obtain ⟨t, s, h⟩ := AR2 hd n
    unfold addN
    split
    · exact ⟨t, s, h⟩
    · rw [h]
      unfold addX
      split
      · exact ⟨_, _, rfl⟩
      · exact ⟨t, s, rfl⟩
end Go.Ct
namespace Go.Pw1
open Go Go.Eng
/-- A card, and a trimming. -/
structure Cd where
  p : Pr
  half : Int
  step : Int
  cuts : Int
  eyes : Sp
  prism : Int
  squeeze : Int
  front : Int
  deep : Int
structure Tr where
  ll : Int
  lr : Int
  rl : Int
  rr : Int
  deriving DecidableEq
def Tr.cells (t : Tr) : List Value := [.int .i64 t.ll, .int .i64 t.lr, .int .i64 t.rl, .int .i64 t.rr]
def Tr.v (t : Tr) : Value := .agg #[.int .i64 t.ll, .int .i64 t.lr, .int .i64 t.rl, .int .i64 t.rr]
def Cd.cells (c : Cd) (q : Option Addr) (cap : Nat) : List Value := [.int .i64 c.p.focal.lo, .int .i64 c.p.focal.hi, .int .i64 c.p.base.lo, .int .i64 c.p.base.hi, .int .i64 c.p.tilt, .int .i64 c.p.near, .int .i64 c.p.far, .slice q c.p.things.length cap,
  .int .i64 c.half, .int .i64 c.step, .int .i64 c.cuts, .int .i64 c.eyes.lo, .int .i64 c.eyes.hi, .int .i64 c.prism, .int .i64 c.squeeze, .int .i64 c.front, .int .i64 c.deep]
def Cd.v (c : Cd) (q : Option Addr) (cap : Nat) : Value := .agg (c.cells q cap).toArray
/-- A card that is looked at: with the map of the things that are seen. -/
def cdCells (c : Cd) (q : Option Addr) (cap : Nat) (m : Nat) : List Value := [.int .i64 c.p.focal.lo, .int .i64 c.p.focal.hi, .int .i64 c.p.base.lo, .int .i64 c.p.base.hi, .int .i64 c.p.tilt, .int .i64 c.p.near, .int .i64 c.p.far, .slice q c.p.things.length cap,
  .int .i64 c.half, .int .i64 c.step, .int .i64 c.cuts, .int .i64 c.eyes.lo, .int .i64 c.eyes.hi, .int .i64 c.prism, .int .i64 c.squeeze, .int .i64 c.front, .int .i64 c.deep, .map (some m)]
def mtV (b : Nat) (t : Tr) : Value := .agg #[.pointer (some ⟨b, 0, none⟩), .int .i64 t.ll, .int .i64 t.lr, .int .i64 t.rl, .int .i64 t.rr]
def sizesM (c : Cd) : Bool := within c.half 1 4000 && within c.step 1 100 && within c.cuts 0 40
def eyesM (c : Cd) : Bool := decide (1 ≤ c.eyes.lo) && decide (c.eyes.lo ≤ c.eyes.hi) && decide (c.eyes.hi ≤ 10000)
def badM (n : Int) : Bool := !within n 0 10000
def cardIs (c : Cd) : Bool := !decide ((powerX c.p).2 = 1) && (sizesM c && eyesM c) && ![c.prism, c.squeeze, c.front, c.deep].any badM
structure Cd.Ok (c : Cd) : Prop where
  h1 : 1 ≤ c.half
  h2 : c.half ≤ 4000
  s1 : 1 ≤ c.step
  s2 : c.step ≤ 100
  c1 : 0 ≤ c.cuts
  c2 : c.cuts ≤ 40
  e1 : 1 ≤ c.eyes.lo
  e2 : c.eyes.lo ≤ c.eyes.hi
  e3 : c.eyes.hi ≤ 10000
  p1 : 0 ≤ c.prism
  p2 : c.prism ≤ 10000
  q1 : 0 ≤ c.squeeze
  q2 : c.squeeze ≤ 10000
  f1 : 0 ≤ c.front
  f2 : c.front ≤ 10000
  d1 : 0 ≤ c.deep
  d2 : c.deep ≤ 10000
theorem BG8 {c : Cd} (h1 : sizesM c = true) (h2 : eyesM c = true) (h3 : [c.prism, c.squeeze, c.front, c.deep].any badM = false) : c.Ok := by
  simp only [sizesM, eyesM, badM, within, List.any_cons, List.any_nil, Bool.or_false, Bool.or_eq_false_iff, Bool.and_eq_true, decide_eq_true_eq, Bool.not_eq_false'] at h1 h2 h3
  obtain ⟨⟨⟨_, _⟩, _, _⟩, _, _⟩ := h1
  obtain ⟨⟨_, _⟩, _⟩ := h2
  obtain ⟨⟨_, _⟩, ⟨_, _⟩, ⟨_, _⟩, _, _⟩ := h3
  exact ⟨by assumption, by assumption, by assumption, by assumption, by assumption, by assumption, by assumption, by assumption, by assumption, by assumption, by assumption, by assumption, by assumption, by assumption, by assumption, by assumption, by assumption⟩
theorem AE8 {c : Cd} (h : cardIs c = true) : c.Ok ∧ (powerX c.p).2 ≠ 1 := by
  simp only [cardIs, Bool.and_eq_true, Bool.not_eq_true', decide_eq_false_iff_not] at h
  exact ⟨BG8 h.1.2.1 h.1.2.2 h.2, h.1.1⟩
def badT (c : Cd) (n : Int) : Bool := !within n 0 c.cuts
def trIs (c : Cd) (t : Tr) : Bool := ![t.ll, t.lr, t.rl, t.rr].any (badT c) && decide (t.ll + t.lr = t.rl + t.rr)
structure Tr.Ok (t : Tr) (k : Int) : Prop where
  a1 : 0 ≤ t.ll
  a2 : t.ll ≤ k
  b1 : 0 ≤ t.lr
  b2 : t.lr ≤ k
  c1 : 0 ≤ t.rl
  c2 : t.rl ≤ k
  d1 : 0 ≤ t.rr
  d2 : t.rr ≤ k
theorem BD1 {c : Cd} {t : Tr} (h : [t.ll, t.lr, t.rl, t.rr].any (badT c) = false) : t.Ok c.cuts := by
  simp only [badT, within, List.any_cons, List.any_nil, Bool.or_false, Bool.or_eq_false_iff, Bool.and_eq_true, decide_eq_true_eq, Bool.not_eq_false'] at h
  obtain ⟨⟨_, _⟩, ⟨_, _⟩, ⟨_, _⟩, _, _⟩ := h
  exact ⟨by assumption, by assumption, by assumption, by assumption, by assumption, by assumption, by assumption, by assumption⟩
theorem AS7 {c : Cd} {t : Tr} (h : trIs c t = true) : t.Ok c.cuts ∧ t.ll + t.lr = t.rl + t.rr := by
  simp only [trIs, Bool.and_eq_true, Bool.not_eq_true', decide_eq_true_eq] at h
  exact ⟨BD1 h.1, h.2⟩
/-- A card is opened, with these trimmings: why it can't be. -/
def openM (c : Cd) (l : List Tr) : Int := if cardIs c then (if l.all (trIs c) then (powerX c.p).2 else 2) else 1
theorem AT4 {c : Cd} {l : List Tr} (h : openM c l = 0) : cardIs c = true ∧ l.all (trIs c) = true ∧ (powerX c.p).2 = 0 := by
  unfold openM at h
  split at h
  · split at h
    · exact ⟨by assumption, by assumption, h⟩
    · simp at h
  · simp at h
/-- The things that are seen, with their shifts. -/
def seenK (p : Pr) : Nat → List (Int × (Int × Int))
  | 0 => []
  | k + 1 => if (whyX p k).1 = 0 then seenK p k ++ [((k : Int), (shiftX p k).1)] else seenK p k
def seenM (p : Pr) : List (Int × (Int × Int)) := seenK p p.things.length
def entsV (l : List (Int × (Int × Int))) : List (Int × Value) := l.map fun e => (e.1, b2v e.2)
def mEnts (p : Pr) : List (Int × Value) := entsV (seenM p)
theorem AC8 {p : Pr} {k : Nat} (h : (whyX p k).1 = 0) : seenK p (k + 1) = seenK p k ++ [((k : Int), (shiftX p k).1)] := by simp [seenK, h]
theorem Bj1 {p : Pr} {k : Nat} (h : (whyX p k).1 ≠ 0) : seenK p (k + 1) = seenK p k := by simp [seenK, h]
theorem AI1 (p : Pr) : ∀ k, ∀ e ∈ seenK p k, ∃ j : Nat, e = ((j : Int), (shiftX p j).1) ∧ j < k ∧ (whyX p j).1 = 0
  | 0, e, h => by cases h
  | k + 1, e, h => by
    unfold seenK at h
    split at h
    · rename_i hw
      rcases List.mem_append.1 h with h | h
      · obtain ⟨j, h1, h2, h3⟩ := AI1 p k e h; exact ⟨j, h1, by omega, h3⟩
      · cases List.mem_singleton.1 h; exact ⟨k, rfl, by omega, hw⟩
    · obtain ⟨j, h1, h2, h3⟩ := AI1 p k e h; exact ⟨j, h1, by omega, h3⟩
/-- Looking a key up. -/
theorem AD3 {l : List (Int × Value)} {a : Int} (h : ∀ e ∈ l, e.1 ≠ a) : mIdx l a = none := by
  induction l with
  | nil => rfl
  | cons x l ih =>
    unfold mIdx
    rw [if_neg (h x (by simp)), ih (fun e he => h e (List.mem_cons_of_mem _ he))]
    rfl
theorem AZ5 (l l2 : List (Int × Value)) (a : Int) : mFind (l ++ l2) a = (mFind l a).or (mFind l2 a) := by
  unfold mFind
  induction l with
  | nil => simp [mIdx]
  | cons x l ih =>
    simp only [List.cons_append, mIdx]
    by_cases h : x.1 = a
    · simp [h]
    · simp only [h, if_false, Option.map_map]
      have h2 : ∀ o : Option (Nat × Value), (o.map ((fun x => x.2) ∘ fun p : Nat × Value => (p.1 + 1, p.2))) = o.map (·.2) := fun o => by cases o <;> rfl
      rw [h2, h2, ih]
theorem Bx2 (p : Pr) (j : Nat) : ∀ k, mFind (entsV (seenK p k)) j = if j < k ∧ (whyX p j).1 = 0 then some (b2v (shiftX p j).1) else none
  | 0 => by simp [seenK, entsV, mFind, mIdx]
  | k + 1 => by
    have ih := Bx2 p j k
    unfold seenK
    by_cases hw : (whyX p k).1 = 0
    · rw [if_pos hw, show entsV (seenK p k ++ [((k : Int), (shiftX p k).1)]) = entsV (seenK p k) ++ [((k : Int), b2v (shiftX p k).1)] by simp [entsV], AZ5, ih]
      rcases Nat.lt_trichotomy j k with h | h | h
      · by_cases hj : (whyX p j).1 = 0
        · simp [h, hj, Nat.lt_succ_of_lt h]
        · have : ¬ (k : Int) = j := by omega
          simp [hj, mFind, mIdx, this]
      · subst h; simp [hw, mFind, mIdx]
      · have : ¬ (k : Int) = j := by omega
        rw [if_neg (by omega), if_neg (by omega)]
        simp [mFind, mIdx, this]
    · rw [if_neg hw, ih]
      by_cases hj : (whyX p j).1 = 0
      · have : j ≠ k := fun e => hw (e ▸ hj)
        by_cases h : j < k
        · simp [h, hj, Nat.lt_succ_of_lt h]
        · rw [if_neg (by omega), if_neg (by omega)]
      · simp [hj]
theorem AG1 {p : Pr} {j : Nat} (h : j < p.things.length) : mFind (mEnts p) j = if (whyX p j).1 = 0 then some (b2v (shiftX p j).1) else none := by
  unfold mEnts seenM
  rw [Bx2]
  simp [h]
def seenN (p : Pr) : List Int := (seenM p).map (·.1)
def seenNK (p : Pr) (k : Nat) : List Int := (seenK p k).map (·.1)
theorem Ap1 {p : Pr} {k : Nat} (h : (whyX p k).1 = 0) : seenNK p (k + 1) = seenNK p k ++ [(k : Int)] := by simp [seenNK, seenK, h]
theorem As0 {p : Pr} {k : Nat} (h : (whyX p k).1 ≠ 0) : seenNK p (k + 1) = seenNK p k := by simp [seenNK, seenK, h]
theorem AF9 (p : Pr) : ∀ k, (seenNK p k).length ≤ k
  | 0 => by simp [seenNK, seenK]
  | k + 1 => by
    have := AF9 p k
    by_cases h : (whyX p k).1 = 0
    · rw [Ap1 h]; simp; omega
    · rw [As0 h]; omega
theorem BH1 {p : Pr} {i : Int} (h : i ∈ seenN p) : ∃ j : Nat, i = j ∧ j < p.things.length ∧ (whyX p j).1 = 0 := by
  obtain ⟨e, he, rfl⟩ := List.mem_map.1 h
  obtain ⟨j, rfl, h2, h3⟩ := AI1 p _ e he
  exact ⟨j, rfl, h2, h3⟩
/-! ## Why a thing hurts -/
def windowM (c : Cd) (t : Tr) : Int := c.step * (t.ll - t.rl)
def apartM (c : Cd) (t : Tr) : Int := 2 * c.half - c.step * (t.lr + t.rl)
def offM (c : Cd) (t : Tr) (x : Th) : Bool := (decide (x.lx.lo < c.step * t.ll - c.half) || decide (c.half - c.step * t.lr < x.lx.hi)) || (decide (x.rx.lo < c.step * t.rl - c.half) || decide (c.half - c.step * t.rr < x.rx.hi))
def hurtL (c : Cd) (t : Tr) (s : Int × Int) (x : Th) : List Bool := [decide (apartM c t - s.2 < c.eyes.hi - c.squeeze), decide (c.eyes.lo + c.prism < apartM c t - s.1), decide (windowM c t + c.front < s.2), decide (s.1 < windowM c t - c.deep), offM c t x]
def whyM (c : Cd) (t : Tr) (i : Int) : Int := idxF id (hurtL c t (shiftX c.p i).1 (thingAt c.p i)) + 1
/-- The first one that hurts, and why. -/
def hurtF (c : Cd) (t : Tr) : List Int → Int × Int
  | [] => (0, 0)
  | i :: l => if whyM c t i = 0 then hurtF c t l else (i, whyM c t i)
def hurtM (c : Cd) (t : Tr) : Int × Int := hurtF c t (seenN c.p)
theorem Ba1 {c : Cd} {t : Tr} : ∀ {l : List Int}, (∀ i ∈ l, whyM c t i = 0) → hurtF c t l = (0, 0)
  | [], _ => rfl
  | i :: l, h => by simp [hurtF, h i (by simp), Ba1 (fun j hj => h j (List.mem_cons_of_mem _ hj))]
theorem Ba0 {c : Cd} {t : Tr} : ∀ {l : List Int} {k : Nat} (hk : k < l.length), (∀ j (h : j < k), whyM c t l[j] = 0) → whyM c t l[k] ≠ 0 → hurtF c t l = (l[k], whyM c t l[k])
  | i :: l, 0, _, _, h => by simp at h; simp [hurtF, h]
  | i :: l, k + 1, hk, h1, h2 => by
    have h0 := h1 0 (by omega)
    simp only [List.getElem_cons_zero] at h0
    simp only [hurtF, h0, if_true, List.getElem_cons_succ] at h2 ⊢
    exact Ba0 (by simpa using hk) (fun j h => by simpa using h1 (j + 1) (by omega)) h2
end Go.Pw1
namespace Go.Pw1
open Go Go.Eng
/-! ## All trimmings, those with fewer steps first -/
def oneLo (c : Cd) (one : Int) : Int := max 0 (one - c.cuts)
def oneHi (c : Cd) (one : Int) : Int := min one c.cuts
/-- The whole numbers from one on, so many. -/
def fromZ (lo : Int) : Nat → List Int
  | 0 => []
  | n + 1 => fromZ lo n ++ [lo + n]
theorem AE2 (lo : Int) : ∀ n, (fromZ lo n).length = n
  | 0 => rfl
  | n + 1 => by simp [fromZ, AE2 lo n]
theorem AM4 {lo a : Int} : ∀ {n : Nat}, a ∈ fromZ lo n ↔ lo ≤ a ∧ a < lo + n
  | 0 => by simp only [fromZ, List.not_mem_nil, false_iff]; omega
  | n + 1 => by
    simp only [fromZ, List.mem_append, List.mem_singleton, AM4 (n := n)]
    omega
def oneN (c : Cd) (one : Int) : Nat := (oneHi c one + 1 - oneLo c one).toNat
def trD (one a : Int) (l : List Int) : List Tr := l.map fun d => ⟨a, one - a, d, one - d⟩
def trA (c : Cd) (one : Int) (l : List Int) : List Tr := l.flatMap fun a => trD one a (fromZ (oneLo c one) (oneN c one))
def trO (c : Cd) (l : List Int) : List Tr := l.flatMap fun one => trA c one (fromZ (oneLo c one) (oneN c one))
def trimsM (c : Cd) : List Tr := trO c (fromZ 0 (2 * c.cuts + 1).toNat)
theorem BF9 (one a d : Int) (l : List Int) : trD one a (l ++ [d]) = trD one a l ++ [⟨a, one - a, d, one - d⟩] := by simp [trD]
theorem BG0 (c : Cd) (one a : Int) (l : List Int) : trA c one (l ++ [a]) = trA c one l ++ trD one a (fromZ (oneLo c one) (oneN c one)) := by simp [trA]
theorem BF8 (c : Cd) (one : Int) (l : List Int) : trO c (l ++ [one]) = trO c l ++ trA c one (fromZ (oneLo c one) (oneN c one)) := by simp [trO]
/-- What of them there is: just the trimmings. -/
theorem AK0 {c : Cd} (hc : c.Ok) {t : Tr} : t ∈ trimsM c ↔ trIs c t = true := by
  have c1 := hc.c1
  simp only [trimsM, trO, trA, trD, List.mem_flatMap, List.mem_map, AM4, oneN, oneLo, oneHi, trIs, badT, within, List.any_cons, List.any_nil, Bool.or_false, Bool.and_eq_true, Bool.not_eq_true', Bool.or_eq_false_iff, Bool.not_eq_false', decide_eq_true_eq]
  constructor
  · rintro ⟨one, h1, a, h2, d, h3, rfl⟩
    simp only
    omega
  · rintro ⟨h1, h2⟩
    exact ⟨t.ll + t.lr, by omega, t.ll, by omega, t.rl, by omega, by cases t; simp only at h1 h2 ⊢; congr 1 <;> omega⟩
/-! ## Which comes before -/
def sumT (t : Tr) : Int := t.ll + t.lr + t.rl + t.rr
def lexT (a b : Tr) : Prop := a.ll < b.ll ∨ (a.ll = b.ll ∧ (a.lr < b.lr ∨ (a.lr = b.lr ∧ (a.rl < b.rl ∨ (a.rl = b.rl ∧ a.rr < b.rr)))))
instance (a b : Tr) : Decidable (lexT a b) := by unfold lexT; infer_instance
def befT (a b : Tr) : Prop := sumT a < sumT b ∨ (sumT a = sumT b ∧ lexT a b)
instance (a b : Tr) : Decidable (befT a b) := by unfold befT; infer_instance
theorem AI3 (lo : Int) : ∀ n, (fromZ lo n).Pairwise (· < ·)
  | 0 => List.Pairwise.nil
  | n + 1 => by
    simp only [fromZ]
    refine List.pairwise_append.2 ⟨AI3 lo n, List.pairwise_singleton _ _, fun a ha b hb => ?_⟩
    have := AM4.1 ha
    cases List.mem_singleton.1 hb
    omega
theorem BZ6 (one a : Int) {l : List Int} (h : l.Pairwise (· < ·)) : (trD one a l).Pairwise befT := by
  unfold trD
  refine List.pairwise_map.2 (h.imp fun {x y} hxy => ?_)
  right
  refine ⟨by simp only [sumT]; omega, .inr ⟨rfl, .inr ⟨rfl, .inl hxy⟩⟩⟩
theorem Bf8 {α β : Type} {R : α → α → Prop} {S : β → β → Prop} {f : α → List β} : ∀ {l : List α}, l.Pairwise R → (∀ a ∈ l, (f a).Pairwise S) → (∀ a b, R a b → ∀ x ∈ f a, ∀ y ∈ f b, S x y) → (l.flatMap f).Pairwise S
  | [], _, _, _ => by simp
  | a :: l, h, h1, h2 => by
    cases h with
    | cons ha hl =>
      rw [List.flatMap_cons]
      refine List.pairwise_append.2 ⟨h1 a (by simp), Bf8 hl (fun b hb => h1 b (List.mem_cons_of_mem _ hb)) h2, fun x hx y hy => ?_⟩
      obtain ⟨b, hb, hy⟩ := List.mem_flatMap.1 hy
      exact h2 a b (ha b hb) x hx y hy
theorem Bi6 (c : Cd) : (trimsM c).Pairwise befT := by
  refine Bf8 (AI3 _ _) (fun one _ => Bf8 (AI3 _ _) (fun a _ => BZ6 one a (AI3 _ _)) fun a b hab x hx y hy => ?_) fun a b hab x hx y hy => ?_
  · obtain ⟨d, _, rfl⟩ := List.mem_map.1 hx
    obtain ⟨e, _, rfl⟩ := List.mem_map.1 hy
    simp only [befT, sumT, lexT]
    omega
  · obtain ⟨a1, _, hx⟩ := List.mem_flatMap.1 hx
    obtain ⟨b1, _, hy⟩ := List.mem_flatMap.1 hy
    obtain ⟨d, _, rfl⟩ := List.mem_map.1 hx
    obtain ⟨e, _, rfl⟩ := List.mem_map.1 hy
    simp only [befT, sumT, lexT]
    omega
/-- The first one with which nothing hurts. -/
def fitT (c : Cd) (t : Tr) : Bool := decide ((hurtM c t).2 = 0)
def bestM (c : Cd) : Option Tr := (trimsM c).find? (fitT c)
def trimX (c : Cd) : Tr × Int := if openM c [] = 0 then (match bestM c with | some t => (t, 0) | none => (⟨0, 0, 0, 0⟩, 11)) else (⟨0, 0, 0, 0⟩, openM c [])
/-! ## Two things that are too far apart -/
/-! ## Eyes, room, depths -/
def roomOf (c : Cd) (t : Tr) : Int × Int := nar (nar (0, 2000) (windowM c t - c.deep, windowM c t + c.front)) (apartM c t - c.eyes.lo - c.prism, apartM c t - c.eyes.hi + c.squeeze)
def roomX (c : Cd) (t : Tr) : (Int × Int) × Int := if openM c [t] = 0 then (if (roomOf c t).2 < (roomOf c t).1 then ((0, 0), 4) else (roomOf c t, 0)) else ((0, 0), openM c [t])
/-- The least number below n of which f is true, or n. -/
def leastN (f : Nat → Bool) : Nat → Nat
  | 0 => 0
  | n + 1 => if leastN f n < n then leastN f n else if f n then n else n + 1
theorem Ap5 (f : Nat → Bool) : ∀ n, leastN f n ≤ n
  | 0 => Nat.le_refl _
  | n + 1 => by have := Ap5 f n; unfold leastN; split <;> (try split) <;> omega
theorem Ay5 (f : Nat → Bool) : ∀ n j, j < leastN f n → f j = false
  | 0, j, h => by simp [leastN] at h
  | n + 1, j, h => by
    unfold leastN at h
    have hl := Ap5 f n
    split at h
    · exact Ay5 f n j h
    · have hn : leastN f n = n := by omega
      split at h
      · exact Ay5 f n j (by omega)
      · rcases Nat.lt_or_ge j n with h2 | h2
        · exact Ay5 f n j (by omega)
        · have : j = n := by omega
          subst this
          simp_all
theorem AZ6 (f : Nat → Bool) : ∀ n, leastN f n < n → f (leastN f n) = true
  | 0, h => by simp at h
  | n + 1, h => by
    have h0 : leastN f (n + 1) = if leastN f n < n then leastN f n else if f n then n else n + 1 := rfl
    rw [h0] at h ⊢
    have hl := Ap5 f n
    split
    · rename_i h2; exact AZ6 f n h2
    · split
      · assumption
      · rename_i h2 h3; rw [if_neg h2, if_neg h3] at h; omega
/-- Whatever has these two is it. -/
theorem AM1 {f : Nat → Bool} {n m : Nat} (hm : m ≤ n) (h1 : ∀ j, j < m → f j = false) (h2 : m < n → f m = true) : leastN f n = m := by
  rcases Nat.lt_trichotomy (leastN f n) m with h | h | h
  · have := AZ6 f n (by omega); rw [h1 _ h] at this; cases this
  · exact h
  · have h3 := Ay5 f n m h
    have := Ap5 f n
    rw [h2 (by omega)] at h3; cases h3
def standsAt (p : Pr) (z : Int) : Int × Int := (standsX p z).1
def depthsOf (c : Cd) (r : Int × Int) : Int × Int :=
  let n := (c.p.far - c.p.near + 1).toNat
  (c.p.near + leastN (fun i => decide ((standsAt c.p (c.p.near + i)).2 ≤ r.2)) n, c.p.near + leastN (fun i => decide ((standsAt c.p (c.p.near + i)).1 < r.1)) n - 1)
def depthsX (c : Cd) (t : Tr) : (Int × Int) × Int := if (roomX c t).2 = 0 then (if (depthsOf c (roomX c t).1).2 < (depthsOf c (roomX c t).1).1 then ((0, 0), 4) else (depthsOf c (roomX c t).1, 0)) else ((0, 0), (roomX c t).2)
end Go.Pw1
namespace Go.Pw1
open Go Go.Eng
theorem AL2 (p : Pr) : (powerX p).2 = if isPair p then (if isB (allS p) then 0 else 4) else 1 := by
  rw [Ax9]
  unfold powerR openR
  cases isPair p <;> cases isB (allS p) <;> rfl
def cardR (c : Cd) : Bool := (within c.half 1 4000 && within c.step 1 100 && within c.cuts 0 40 && decide (1 ≤ c.eyes.lo) && decide (c.eyes.lo ≤ c.eyes.hi) && decide (c.eyes.hi ≤ 10000)) && within c.prism 0 10000 && within c.squeeze 0 10000 && within c.front 0 10000 && within c.deep 0 10000 && isPair c.p
theorem Bm5 (c : Cd) : cardR c = cardIs c := by
  unfold cardR cardIs
  rw [AL2]
  simp only [sizesM, eyesM, badM, List.any_cons, List.any_nil, Bool.or_false, Bool.not_or, Bool.not_not]
  cases isPair c.p
  · simp
  · cases isB (allS c.p) <;> simp [Bool.and_assoc]
def trR (c : Cd) (t : Tr) : Bool := within t.ll 0 c.cuts && within t.lr 0 c.cuts && within t.rl 0 c.cuts && within t.rr 0 c.cuts && decide (t.ll + t.lr = t.rl + t.rr)
theorem BZ5 (c : Cd) (t : Tr) : trR c t = trIs c t := by simp [trR, trIs, badT, Bool.and_assoc]
def checkR (c : Cd) (v : Bool) : Int := if cardR c then (if v then (powerR c.p).2 else 2) else 1
theorem BC6 (c : Cd) (t : Tr) : openM c [t] = checkR c (trR c t) := by simp [openM, checkR, Bm5, BZ5, Ax9]
theorem AQ8 {c : Cd} {v : Bool} (h : checkR c v = 0) : isPair c.p = true ∧ isB (allS c.p) = true ∧ c.Ok ∧ v = true := by
  unfold checkR at h
  split at h
  · rename_i hc
    rw [Bm5] at hc
    split at h
    · rename_i hv
      have h2 : (powerX c.p).2 = 0 := by rw [Ax9]; exact h
      rw [AL2] at h2
      cases h3 : isPair c.p with
      | false => simp [h3] at h2
      | true =>
        cases h4 : isB (allS c.p) with
        | false => simp [h3, h4] at h2
        | true => exact ⟨rfl, rfl, (AE8 hc).1, hv⟩
    · simp at h
  · simp at h
def hurtR (c : Cd) (t : Tr) (x : Th) : Int :=
  if apartM c t - (shift x).2 < c.eyes.hi - c.squeeze then 1
  else if c.eyes.lo + c.prism < apartM c t - (shift x).1 then 2
  else if windowM c t + c.front < (shift x).2 then 3
  else if (shift x).1 < windowM c t - c.deep then 4
  else if offM c t x then 5 else 0
def hurtRF (c : Cd) (t : Tr) : List Int → Option (Int × Int)
  | [] => none
  | i :: l => if hurtR c t (thingAt c.p i) = 0 then hurtRF c t l else some (i, hurtR c t (thingAt c.p i))
/-! ## Eyes and rooms -/
def roomR (c : Cd) (t : Tr) : (Int × Int) × Int := if checkR c (trR c t) = 0 then (if (roomOf c t).2 < (roomOf c t).1 then ((0, 0), 4) else (roomOf c t, 0)) else ((0, 0), checkR c (trR c t))
theorem AX6 (c : Cd) (t : Tr) : roomX c t = roomR c t := by unfold roomX roomR; rw [BC6]
def depthsO (c : Cd) (w r : Int × Int) : Int × Int := (max c.p.near (w.2 / (r.2 + 1) + 1), if 0 < r.1 then min c.p.far (w.1 / r.1) else c.p.far)
def depthsR (c : Cd) (t : Tr) : (Int × Int) × Int :=
  if (roomR c t).2 = 0 then
    (if (depthsO c (powerR c.p).1 (roomR c t).1).2 < (depthsO c (powerR c.p).1 (roomR c t).1).1 then ((0, 0), 4) else (depthsO c (powerR c.p).1 (roomR c t).1, 0))
  else ((0, 0), (roomR c t).2)
theorem AU3 {a b k : Int} (hb : 0 < b) : a / b < k ↔ a < k * b := Int.ediv_lt_iff_lt_mul hb
/-- The least one above a bound, of a row of numbers. -/
theorem AM0 {lo hi e : Int} {f : Nat → Bool} (h0 : lo ≤ hi) (hf : ∀ j : Nat, j < (hi - lo + 1).toNat → (f j = true ↔ e ≤ lo + j)) : lo + (leastN f (hi - lo + 1).toNat : Int) = min (hi + 1) (max lo e) := by
  have h : leastN f (hi - lo + 1).toNat = (min (hi + 1) (max lo e) - lo).toNat := by
    refine AM1 (by omega) (fun j hj => ?_) (fun h => ?_)
    · have h2 := hf j (by omega)
      cases hj2 : f j with
      | false => rfl
      | true => have := h2.1 hj2; omega
    · exact (hf _ h).2 (by omega)
  rw [h]
  omega
theorem Bg4 (c : Cd) (t : Tr) : depthsX c t = depthsR c t := by
  unfold depthsX depthsR
  rw [AX6]
  split
  · rename_i h
    have h1 : checkR c (trR c t) = 0 := by
      unfold roomR at h
      split at h
      · assumption
      · exact h
    obtain ⟨hp, hb, hc, _⟩ := AQ8 h1
    have hpk := Ag8 hp
    have n1 := hpk.n1
    have n2 := hpk.n2
    have r1 : 0 ≤ (roomR c t).1.1 ∧ (roomR c t).1.1 ≤ (roomR c t).1.2 := by
      unfold roomR at h ⊢
      rw [if_pos h1] at h ⊢
      split
      · rename_i h2; rw [if_pos h2] at h; simp at h
      · rename_i h2
        refine ⟨?_, by simpa using h2⟩
        simp only [roomOf, nar]
        omega
    generalize (roomR c t).1 = r at r1 ⊢
    have hw : (powerR c.p).1 = allS c.p := by simp [powerR, openR, hp, hb]
    rw [hw]
    have w1 := AN3 hpk
    have w2 : (allS c.p).1 ≤ (allS c.p).2 := by simpa [isB] using hb
    have hst : ∀ z, c.p.near ≤ z → z ≤ c.p.far → standsAt c.p z = ((allS c.p).1 / z, (allS c.p).2 / z) := fun z h2 h3 => by
      unfold standsAt
      rw [AK4]
      have : within z c.p.near c.p.far = true := by simp [within, h2, h3]
      simp [standsR, openR, hp, hb, this]
    generalize allS c.p = w at hst w1 w2 ⊢
    have e1 := AM0 (lo := c.p.near) (hi := c.p.far) (e := w.2 / (r.2 + 1) + 1) (f := fun i => decide ((standsAt c.p (c.p.near + i)).2 ≤ r.2)) n2 (fun j hj => by
      rw [hst _ (by omega) (by omega)]
      simp only [decide_eq_true_eq]
      have g1 : w.2 / (c.p.near + j) < r.2 + 1 ↔ w.2 < (r.2 + 1) * (c.p.near + j) := AU3 (by omega)
      have g2 : w.2 / (r.2 + 1) < c.p.near + j ↔ w.2 < (c.p.near + j) * (r.2 + 1) := AU3 (by omega)
      rw [Int.mul_comm] at g2
      omega)
    have hf2 : depthsOf c r = (min (c.p.far + 1) (max c.p.near (w.2 / (r.2 + 1) + 1)), (c.p.near + leastN (fun i => decide ((standsAt c.p (c.p.near + i)).1 < r.1)) (c.p.far - c.p.near + 1).toNat - 1)) := by
      unfold depthsOf
      simp only [e1]
    by_cases h0 : 0 < r.1
    · have e2 := AM0 (lo := c.p.near) (hi := c.p.far) (e := w.1 / r.1 + 1) (f := fun i => decide ((standsAt c.p (c.p.near + i)).1 < r.1)) n2 (fun j hj => by
        rw [hst _ (by omega) (by omega)]
        simp only [decide_eq_true_eq]
        have g1 : w.1 / (c.p.near + j) < r.1 ↔ w.1 < r.1 * (c.p.near + j) := AU3 (by omega)
        have g2 : w.1 / r.1 < c.p.near + j ↔ w.1 < (c.p.near + j) * r.1 := AU3 (by omega)
        rw [Int.mul_comm] at g2
        omega)
      rw [hf2, e2]
      simp only [depthsO, if_pos h0]
      split <;> split <;> first | rfl | omega | (congr 1; congr 1 <;> omega)
    · have e2 : leastN (fun i => decide ((standsAt c.p (c.p.near + i)).1 < r.1)) (c.p.far - c.p.near + 1).toNat = (c.p.far - c.p.near + 1).toNat := by
        refine AM1 (Nat.le_refl _) (fun j hj => ?_) (fun h => absurd h (by omega))
        rw [hst _ (by omega) (by omega)]
        have := Int.ediv_nonneg (show 0 ≤ w.1 by omega) (show 0 ≤ c.p.near + j by omega)
        simp only [decide_eq_false_iff_not]
        omega
      rw [hf2, e2]
      simp only [depthsO, if_neg h0]
      split <;> split <;> first | rfl | omega | (congr 1; congr 1 <;> omega)
  · rfl
end Go.Pw1
namespace Go.Pw1
open Go Go.Eng
def fitR (c : Cd) (t : Tr) : Bool := (hurtRF c t (seenN c.p)).isNone
def blockR (o : Option Tr) (t : Tr) : Bool := match o with | some u => decide (sumT u ≤ sumT t) | none => false
def stepR (c : Cd) (o : Option Tr) (t : Tr) : Option Tr := if !trR c t || blockR o t then o else if fitR c t then some t else o
def okR (c : Cd) (t : Tr) : Bool := trR c t && fitR c t
/-- What the fold has of the trimmings before. -/
def BestOf (c : Cd) (l : List Tr) (o : Option Tr) : Prop :=
  (o = none → ∀ v ∈ l, okR c v = false) ∧ ∀ u, o = some u → u ∈ l ∧ okR c u = true ∧ ∀ v ∈ l, okR c v = true → v = u ∨ befT u v
theorem BestOf.step {c : Cd} {l : List Tr} {o : Option Tr} {t : Tr} (h : BestOf c l o) (hl : ∀ v ∈ l, lexT v t) : BestOf c (l ++ [t]) (stepR c o t) := by
  obtain ⟨h1, h2⟩ := h
  unfold stepR
  by_cases ht : trR c t = true
  · by_cases hb : blockR o t = true
    · simp only [ht, hb, Bool.not_true, Bool.false_or, if_true]
      cases o with
      | none => cases hb
      | some u =>
        obtain ⟨g1, g2, g3⟩ := h2 u rfl
        have hs : sumT u ≤ sumT t := by simpa [blockR] using hb
        refine ⟨fun h => (by cases h), fun u' hu' => ?_⟩
        cases hu'
        refine ⟨List.mem_append_left _ g1, g2, fun v hv hv2 => ?_⟩
        rcases List.mem_append.1 hv with hv | hv
        · exact g3 v hv hv2
        · cases List.mem_singleton.1 hv
          right
          have := hl u g1
          unfold befT
          rcases Int.lt_or_eq_of_le hs with h | h
          · exact .inl h
          · exact .inr ⟨h, this⟩
    · have hb' : blockR o t = false := by simpa using hb
      by_cases hf : fitR c t = true
      · simp only [ht, hb', hf, Bool.not_true, Bool.false_or, Bool.false_eq_true, if_false, if_true]
        refine ⟨fun h => (by cases h), fun u' hu' => ?_⟩
        cases hu'
        refine ⟨by simp, by simp [okR, ht, hf], fun v hv hv2 => ?_⟩
        rcases List.mem_append.1 hv with hv | hv
        · right
          cases o with
          | none => rw [h1 rfl v hv] at hv2; cases hv2
          | some u =>
            obtain ⟨g1, g2, g3⟩ := h2 u rfl
            have hs : sumT t < sumT u := by simpa [blockR] using hb'
            left
            rcases g3 v hv hv2 with rfl | h
            · exact hs
            · unfold befT at h; omega
        · exact .inl (List.mem_singleton.1 hv)
      · have hf' : fitR c t = false := by simpa using hf
        simp only [ht, hb', hf', Bool.not_true, Bool.false_or, Bool.false_eq_true, if_false]
        have hok : okR c t = false := by simp [okR, hf']
        refine ⟨fun h v hv => ?_, fun u hu => ?_⟩
        · rcases List.mem_append.1 hv with hv | hv
          · exact h1 h v hv
          · cases List.mem_singleton.1 hv; exact hok
        · obtain ⟨g1, g2, g3⟩ := h2 u hu
          refine ⟨List.mem_append_left _ g1, g2, fun v hv hv2 => ?_⟩
          rcases List.mem_append.1 hv with hv | hv
          · exact g3 v hv hv2
          · cases List.mem_singleton.1 hv; rw [hok] at hv2; cases hv2
  · have ht' : trR c t = false := by simpa using ht
    simp only [ht', Bool.not_false, Bool.true_or, if_true]
    have hok : okR c t = false := by simp [okR, ht']
    refine ⟨fun h v hv => ?_, fun u hu => ?_⟩
    · rcases List.mem_append.1 hv with hv | hv
      · exact h1 h v hv
      · cases List.mem_singleton.1 hv; exact hok
    · obtain ⟨g1, g2, g3⟩ := h2 u hu
      refine ⟨List.mem_append_left _ g1, g2, fun v hv hv2 => ?_⟩
      rcases List.mem_append.1 hv with hv | hv
      · exact g3 v hv hv2
      · cases List.mem_singleton.1 hv; rw [hok] at hv2; cases hv2
end Go.Pw1
namespace Go.Pw1
open Go Go.Eng
/-! ## The truth -/
/-! ## The least one -/
/-! ## Two things too far apart -/
/-! ## Eyes -/
theorem BL7 {α : Type} {f : α → Bool} {l : List α} {k : Nat} (h : k < l.length) (h1 : (l.take k).all f = true) (h2 : f l[k] = true) : (l.take (k + 1)).all f = true := by
  rw [List.take_succ_eq_append_getElem h, List.all_append, h1]
  simp [h2]
theorem BY6 {α : Type} {f : α → Bool} {l : List α} {k : Nat} (h : k < l.length) (h2 : f l[k] = false) : l.all f = false := by
  rw [Bool.eq_false_iff]
  intro h3
  rw [List.all_eq_true.1 h3 _ (List.getElem_mem h)] at h2
  cases h2
end Go.Pw1
namespace Go.Proofs.YthbiaipagceokaaGreat
open Go Go.Eng Go.Pw1

theorem AP9 (p : Pr) (hp : p.Ok) (q : Option Addr) (b o cap : Nat) (pw0 : Int × Int) (bv : Nat) (W : World) (hV : W.heap[bv]? = some (.cells (vwCells p q cap pw0).toArray 71 (0, 0))) (hS : Sl W q b o 9 (p.things.map Th.cells)) (hne : p.things.map Th.cells ≠ [] → b ≠ bv) :
    Calls Tryz.prog 41 #[.pointer (some ⟨bv, 0, none⟩)] W (TryU misf (lookX p) (.tuple #[]) bv (fun w => .cells (vwCells p q cap w).toArray 71 (0, 0)) W) := by
  have f1 := hp.f1
  have f2 := hp.f2
  have f3 := hp.f3
  have b1 := hp.b1
  have b2 := hp.b2
  have b3 := hp.b3
  have m1 := AG9 (a := p.focal.lo) (b := p.base.lo) (A := 50000) (B := 10000) (by omega) (by omega) (by omega) (by omega)
  have m2 := AG9 (a := p.focal.hi) (b := p.base.hi) (A := 50000) (B := 10000) (by omega) (by omega) (by omega) (by omega)
  have hlen := hp.len
  obtain ⟨w0, hw0⟩ : ∃ w0 : Int × Int, w0 = (p.focal.lo * p.base.lo, p.focal.hi * p.base.hi) := ⟨_, rfl⟩
  have hl0 : lookS p = lookL p w0 p.things := by rw [hw0]; rfl
  have hbs : ∀ ob : Obj, ∀ ob' : Obj, p.things.map Th.cells ≠ [] → (b, ob) ∉ [(bv, ob')] := fun ob ob' h => by simp [hne h]
  refine AM9 hV Tryz.func41 rfl rfl ?_
  refine RunC.scope ?_
  refine st ?_
  refine Ae5 28 Al3 .nil ?_
  refine va 0 rfl (Aa5 rfl) rfl rfl rfl .nil rfl ?_
  refine va 1 rfl (Aa5 rfl) rfl rfl rfl .nil rfl ?_
  refine va 2 rfl (Aa5 rfl) rfl rfl rfl .nil rfl ?_
  refine va 3 rfl (Val.fieldAddr rfl Au7) rfl rfl rfl .nil rfl ?_
  refine va 4 rfl (Val.fieldAddr rfl AU1) rfl rfl rfl .nil rfl ?_
  refine va 5 rfl (Val.fieldAddr rfl Aj3) rfl rfl rfl .nil rfl ?_
  refine va 6 rfl (Aa3 rfl (.head _) Ag0 rfl) rfl rfl rfl .nil rfl ?_
  refine va 7 rfl (Aa5 rfl) rfl rfl rfl .nil rfl ?_
  refine va 8 rfl (Aa5 rfl) rfl rfl rfl .nil rfl ?_
  refine va 9 rfl (Val.fieldAddr rfl Au7) rfl rfl rfl .nil rfl ?_
  refine va 10 rfl (Val.fieldAddr rfl AU0) rfl rfl rfl .nil rfl ?_
  refine va 11 rfl (Val.fieldAddr rfl Aj3) rfl rfl rfl .nil rfl ?_
  refine va 12 rfl (Aa3 rfl (.head _) Ag0 rfl) rfl rfl rfl .nil rfl ?_
  refine va 13 rfl (Val.mul rfl rfl (IntWalk.i64_in _ ⟨by omega, by omega⟩)) rfl rfl rfl .nil rfl ?_
  refine va 14 rfl (Aa5 rfl) rfl rfl rfl .nil rfl ?_
  refine va 15 rfl (Aa5 rfl) rfl rfl rfl .nil rfl ?_
  refine va 16 rfl (Val.fieldAddr rfl Au7) rfl rfl rfl .nil rfl ?_
  refine va 17 rfl (Val.fieldAddr rfl AU1) rfl rfl rfl .nil rfl ?_
  refine va 18 rfl (Val.fieldAddr rfl Ah5) rfl rfl rfl .nil rfl ?_
  refine va 19 rfl (Aa3 rfl (.head _) Ag0 rfl) rfl rfl rfl .nil rfl ?_
  refine va 20 rfl (Aa5 rfl) rfl rfl rfl .nil rfl ?_
  refine va 21 rfl (Aa5 rfl) rfl rfl rfl .nil rfl ?_
  refine va 22 rfl (Val.fieldAddr rfl Au7) rfl rfl rfl .nil rfl ?_
  refine va 23 rfl (Val.fieldAddr rfl AU0) rfl rfl rfl .nil rfl ?_
  refine va 24 rfl (Val.fieldAddr rfl Ah5) rfl rfl rfl .nil rfl ?_
  refine va 25 rfl (Aa3 rfl (.head _) Ag0 rfl) rfl rfl rfl .nil rfl ?_
  refine va 26 rfl (Val.mul rfl rfl (IntWalk.i64_in _ ⟨by omega, by omega⟩)) rfl rfl rfl .nil rfl ?_
  refine va 27 rfl (Val.build (parts := [(0, .tmp 19), (1, .tmp 32)]) rfl Ae3 Ai3 rfl) rfl rfl rfl .nil rfl ?_
  refine zt ?_
  refine zp 28 ?_
  refine zp 29 ?_
  refine zB 30 ?_
  refine Ab9 rfl (Ag5 rfl rfl .here Ah6 rfl rfl) rfl rfl (Ab1 ?_)
  refine zd ?_
  refine st ?_
  refine RunC.label ?_
  refine su ?_
  refine Af5 (p.things.length) (fun k q => (42, .int .i64 (k : Int)) :: q) (fun k => [(bv, .cells (vwCells p q cap ((lookL p w0 (p.things.take k)).getD (0, 0))).toArray 71 (0, 0))]) (fun _ => []) (fun k => (lookL p w0 (p.things.take k)).isSome = true) (by simp [lookL]) (by simp only [List.take_zero, lookL, hw0]; rfl) (zE 42 rfl rfl (zS 0 rfl (zS 40 rfl (zS 41 rfl (Sub.nil _))))) .nil ?_
  intro k kN kI
  obtain ⟨wk, hwk⟩ := Option.isSome_iff_exists.1 kI
  simp only [hwk, Option.getD_some]
  refine st ?_
  refine cn rfl ?_ ?_
  ·intro c0'
   have hk : k < p.things.length := by omega
   have hx : p.things.map Th.cells ≠ [] := by intro h; simp [List.map_eq_nil_iff] at h; simp [h] at hk
   have hth := hp.ths _ (List.getElem_mem hk)
   obtain ⟨t, ht⟩ : ∃ t, p.things[k] = t := ⟨_, rfl⟩
   rw [ht] at hth
   refine st ?_
   refine lv (Ab0 rfl rfl Aw7 (by omega) (by omega) (hS.ptrM hk)) ?_
   refine lv (Ab8 rfl (fun w hm => hS.loadX (by decide) hm (fun ob => hbs ob _ hx) Av7 hk ht)) ?_
   refine zn (New.alloc Av9) (fun b3 => ?_)
   refine Aa9 (Sto.store rfl rfl .here Av7 rfl rfl) rfl rfl ?_
   refine su ?_
   refine cn rfl ?_ ?_
   ·intro c1'
    refine RunC.exit ?_
    refine Ac0 ?_
    refine Ab2 ?_
    refine st ?_
    refine lv (Val.add rfl rfl (IntWalk.i64_in _ ⟨by omega, by omega⟩)) ?_
    exact Ae4 (by omega) (by first | (simp [Ai9 hk ht hwk, lookL, c1']; done) | simp [Ai9 hk ht hwk, lookL, c1', ok60]) (by first | (simp [Ai9 hk ht hwk, lookL, c1']; done) | (simp [Ai9 hk ht hwk, lookL, c1', ok60]; done) | (simp [Ai9 hk ht hwk, lookL, c1', ok60]; rfl)) (zE 42 rfl rfl (zS 0 rfl (zS 40 rfl (zS 41 rfl (Sub.nil _))))) .nil
   intro c1'
   refine RunC.skip ?_
   refine RunE.next ?_
   refine RunC.seq ?_
   apply Am2 (J := J1 _ _ _ _ _ _) 12 Al3 (.cons .here rfl .nil)
   ·refine zw 0 ?_
    refine zw 1 ?_
    refine zw 2 ?_
    refine zw 3 ?_
    refine zw 4 ?_
    refine zw 5 ?_
    refine Ae8 (rs := [6, 10]) (by kernel_rfl) (by simp) (by kernel_rfl) (fun m hm => ?_)
    simp only [List.mem_cons, List.not_mem_nil, or_false] at hm
    rcases hm with rfl | rfl
    ·refine Ab4 rfl (zF rfl AQ4) rfl rfl rfl (fun w hm => Am0 p hp q cap wk t hth.1 hth.2 wk bv w (hm.at (.head _))) (Aa0 (.cons .here rfl .nil) (.cons .here rfl .nil) rfl ?_)
     refine zw 7 ?_
     refine zw 8 ?_
     refine zw 9 ?_
     refine zA 10 ?_
     refine Ac8 rfl (New.alloc Ae3) rfl rfl rfl (fun b4 => (Aa0 (.cons (.there .here) rfl .nil) (.cons .here rfl .nil) rfl ?_))
     refine zA 11 ?_
     refine Ab9 rfl (Sto.store rfl rfl .here Ah6 rfl rfl) rfl rfl (Aa0 (.cons (.there .here) rfl .nil) (.cons .here rfl .nil) rfl ?_)
     refine zt ?_
     refine zp 12 ?_
     refine zd ?_
     exact Al0 b4 (Ab5 _) (Pick.refl _)
    refine Ac8 rfl (New.alloc Ae3) rfl rfl rfl (fun b4 => (Aa0 (.cons (.there .here) rfl .nil) (.cons .here rfl .nil) rfl ?_))
    refine zA 6 ?_
    refine Ab4 rfl (zF rfl AQ4) rfl rfl rfl (fun w hm => Am0 p hp q cap wk t hth.1 hth.2 wk bv w (hm.at (.head _))) (Aa0 (.cons (.there .here) rfl .nil) (.cons .here rfl .nil) rfl ?_)
    refine zw 7 ?_
    refine zw 8 ?_
    refine zw 9 ?_
    refine zA 11 ?_
    refine Ab9 rfl (Sto.store rfl rfl .here Ah6 rfl rfl) rfl rfl (Aa0 (.cons (.there .here) rfl .nil) (.cons .here rfl .nil) rfl ?_)
    refine zt ?_
    refine zp 12 ?_
    refine zd ?_
    exact Al0 b4 (zS 5 rfl (zS 4 rfl (zS 58 rfl (zS 57 rfl (zS 49 rfl (zS 56 rfl (zS 55 rfl (zS 54 rfl (zS 53 rfl (zS 52 rfl (zS 51 rfl (zS 50 rfl (Sub.skip rfl (Sub.skip rfl (Sub.skip rfl (Sub.skip rfl (Sub.skip rfl (Sub.skip rfl (Sub.skip rfl (Sub.skip rfl (Sub.skip rfl (Sub.skip rfl (Sub.skip rfl (Sub.skip rfl (Ab5 _))))))))))))))))))))))))) (.cons .here rfl (.cons .here rfl .nil))
   refine J1.out (fun b4 => ?_)
   refine st ?_
   refine Am1 (zF rfl Ba7) rfl rfl rfl (fun w hm => As4 _ _ w) (fun e60 he60 => ?_) (fun v60 hv60 => ?_)
   ·obtain ⟨er60, rfl⟩ := Ah0 he60
    refine Ab6 ?_
    refine Ae9 ?_
    refine Ab6 ?_
    refine Ab6 ?_
    refine Ae9 ?_
    refine Ao5 ?_
    exact Bc7 (by rw [lookX, hl0, Bx4 hk ht hwk (by simp [lookL, c1', er60])])
   obtain ⟨ok60, rfl⟩ := Ai5 hv60
   refine su ?_
   refine Aa9 (Ag5 rfl rfl .here Ah6 rfl rfl) rfl rfl ?_
   refine st ?_
   refine lv (Val.add rfl rfl (IntWalk.i64_in _ ⟨by omega, by omega⟩)) ?_
   exact Ae4 (by omega) (by first | (simp [Ai9 hk ht hwk, lookL, c1']; done) | simp [Ai9 hk ht hwk, lookL, c1', ok60]) (by first | (simp [Ai9 hk ht hwk, lookL, c1']; done) | (simp [Ai9 hk ht hwk, lookL, c1', ok60]; done) | (simp [Ai9 hk ht hwk, lookL, c1', ok60]; rfl)) (zE 42 rfl rfl (zS 0 rfl (zS 40 rfl (zS 41 rfl (Sub.nil _))))) .nil
  intro c0'
  obtain rfl : k = p.things.length := by omega
  rw [List.take_length] at hwk
  refine RunC.exit ?_
  refine su ?_
  refine Ab2 ?_
  refine AG5 ?_
  exact Bs6 (.r0 rfl) (a := wk) (by rw [lookX, hl0, hwk]) rfl rfl
theorem Aw3 (p : Pr) (q : Option Addr) (b o cap : Nat) (l : List Int) (q2 : Option Addr) (bb oo cap2 : Nat) (W : World) (hS : Sl W q b o 9 (p.things.map Th.cells)) (hl : p.things.length ≤ 100000000000) (hL : Sl W q2 bb oo 1 (l.map fun n => [.int .i64 n])) (hl2 : l.length ≤ 100000) :
    Calls Tryz.prog 22 #[p.v q cap, .slice q2 l.length cap2] W (TryN misf (truthsX p l) (fun _ b => .pointer (some ⟨b, 0, none⟩)) (fun w b => [(b, .cells (vwCells p q cap w).toArray 71 (0, 0))]) W) := by
  refine Aa2 Tryz.func22 rfl rfl ?_
  refine st ?_
  refine zn (New.box rfl) (fun b2 => ?_)
  refine Ak5 (zF rfl Bl3) rfl rfl rfl (fun w hm => Ay2 p q b o cap l q2 bb oo cap2 w (hS.mono (by decide) hm (by simp)) hl (hL.mono (by decide) hm (by simp)) hl2) (fun e8 he8 => ?_) (fun a8 ha8 b8 => ?_)
  ·refine Ab6 ?_
   exact Ar4 (by simp [truthsX, he8])
  refine st ?_
  refine AN5 (zF rfl BP6) rfl rfl rfl (fun _ => .here) (fun w hm => AP9 p (Ag8 (Ay3 ha8).1) q b o cap (0, 0) _ w (hm.at (.head _)) (hS.mono (by decide) hm (by simp)) (hS.ne (by decide) hm (.head _))) (fun e10 he10 o10 => ?_) (fun a10 ha10 => ?_)
  ·refine Ab6 ?_
   exact Ar4 (by simp [truthsX, ha8, he10])
  refine su ?_
  exact AR6 (a := a10) b8 (.r1 rfl (.tmp rfl)) (by simp [truthsX, ha8, ha10]) rfl (.cons .here rfl .nil)
end Go.Proofs.YthbiaipagceokaaGreat
namespace Go.Proofs.YthbiaipagceokaaGreat
open Go Go.Eng Go.Pw1

theorem Bg8 (b : Nat) (w : World) : CallsD Tryz.prog 21 #[.pointer (some ⟨b, 0, none⟩)] .returning w fun e u w' => (∃ v, e = .returned v) ∧ u = .returning ∧ Mem w [] [] w' := by
  refine callsD_of_wpS Tryz.func21 rfl fun c₀ cs hu => ?_
  refine wpS_seq ?_
  refine wpS_region ?_
  simp [wpOpsS, go_sem, recoverD, hu, Tryz.ntmps21, Exit.thenS]
  refine wpS_of_wp ?_
  refine AW0 20 [(0, .pointer (some ⟨b, 0, none⟩)), (2, .nilIface)] w [] ?_ ?_
  · exact ⟨by simp, .consA (by simp) (.consA (by simp [Array.getElem?_append]) (Agree.nil _)), rfl, Mem.refl w⟩
  refine st ?_
  refine lv (Ax1 rfl Bi4) ?_
  refine RunC.cond rfl (fun h => absurd h (by simp)) ?_
  intro c0
  clear c0
  refine RunC.skip ?_
  intro a w2 s
  exact ⟨s.defers, .returning, by rw [← hu], _, results_none rfl _ _ _, ⟨_, rfl⟩, rfl, s.mem.drop⟩
theorem Bg7 (b : Nat) (k : Int) (x : Value) (w : World) (hb : w.heap[b]? = some (.cells #[x] 30 (0, 0))) : CallsD Tryz.prog 21 #[.pointer (some ⟨b, 0, none⟩)] (.panicking [{ v := misf k, recovered := false }]) w fun e u w' =>
    (∃ v, e = .returned v) ∧ u = .panicking [{ v := misf k, recovered := true }] ∧ Mem w [(b, .cells #[.int .i64 k] 30 (0, 0))] [] w' := by
  refine callsD_of_wpS Tryz.func21 rfl fun c₀ cs hu => ?_
  refine wpS_seq ?_
  refine wpS_region ?_
  simp [wpOpsS, go_sem, recoverD, hu, Tryz.ntmps21, Exit.thenS]
  refine wpS_of_wp ?_
  refine AW0 20 [(0, .pointer (some ⟨b, 0, none⟩)), (2, misf k)] w [(b, .cells #[x] 30 (0, 0))] ?_ ?_
  · exact ⟨by simp, .consA (by simp) (.consA (by simp [Array.getElem?_append]) (Agree.nil _)), rfl, Mem.start hb⟩
  refine st ?_
  refine lv (As7 rfl Bi4) ?_
  refine RunC.cond rfl ?_ (fun h => absurd h (by simp))
  intro c0
  clear c0
  refine st ?_
  refine lv (AF4 rfl Bk2) ?_
  refine zn (New.alloc Bi2) (fun b3 => ?_)
  refine Aa9 (Sto.store rfl rfl .here BN0 rfl rfl) rfl rfl ?_
  refine st ?_
  refine RunC.cond rfl (fun h => absurd h (by simp)) ?_
  intro c1
  clear c1
  refine su ?_
  refine Aa9 (Ag5 rfl rfl .here Ah4 rfl rfl) rfl rfl ?_
  refine RunL.nil ?_
  intro a w2 s
  exact ⟨s.defers, .panicking [{ v := misf k, recovered := true }], rfl, _, results_none rfl _ _ _, ⟨_, rfl⟩, rfl, s.mem.drop⟩
theorem Ah8 : Catches Tryz.prog 21 30 misf := ⟨Bg8, fun b k x w h => Bg7 b k x w h⟩
end Go.Proofs.YthbiaipagceokaaGreat
namespace Go.Proofs.YthbiaipagceokaaGreat
open Go Go.Eng Go.Pw1

theorem Bh4 (p : Pr) (n : Int) (q : Option Addr) (b o cap : Nat) (W : World) (hS : Sl W q b o 9 (p.things.map Th.cells)) (hl : p.things.length ≤ 100000000000) :
    Calls Tryz.prog 96 #[p.v q cap, .int .i64 n] W (Pure (.tuple #[b2v (shiftX p n).1, .int .i64 (shiftX p n).2]) W) := by
  refine Af0 Tryz.func96 rfl rfl ?_
  refine st ?_
  refine zn (New.box rfl) (fun b2 => ?_)
  refine zn (New.alloc Ac7) (fun b4 => ?_)
  refine zn (New.alloc Ar5) (fun b5 => ?_)
  refine RunL.defer rfl ?_
  refine su ?_
  refine zn (New.buildSlice (parts := [(0, .tmp 7)]) rfl Am6 Az7 rfl rfl rfl rfl) (fun b8 => ?_)
  refine Ak5 (zF rfl Bl3) rfl rfl rfl (fun w hm => Ay2 p q b o cap [_] _ _ _ _ w (hS.mono (by decide) hm (by simp)) hl (Sl.row1 (hm.at (.head _))) (by simp)) (fun e9 he9 => ?_) (fun a9 ha9 b9 => ?_)
  ·refine Ab6 ?_
   exact Al7 Ah8 Ak9 (.there .here) (.r2 rfl (.agg rfl (.tail _ (.tail _ (.head _))) Ad7 rfl) (.one rfl (.tail _ (.head _)) Ah4 rfl)) (by simp [b2v, shiftX, he9])
  have hp := Ag8 (Ay3 ha9).1
  obtain ⟨k, rfl, hk⟩ := Ay4 ha9 (List.mem_singleton.2 rfl)
  obtain ⟨t, ht⟩ : ∃ t, p.things[k] = t := ⟨_, rfl⟩
  have hth := hp.ths _ (List.getElem_mem hk)
  rw [ht] at hth
  refine su ?_
  refine lv (Ab0 rfl rfl Aw7 (by omega) (by omega) (hS.ptrM hk)) ?_
  refine lv (Ab8 rfl (fun w hm => hS.loadX (by decide) hm (by simp) Av7 hk ht)) ?_
  refine zc (zF rfl Ak8) (fun w hm => Ae1 t hth.1 w) ?_
  refine Aa9 (Sto.store rfl rfl (.there (.there (.there .here))) Ad7 rfl rfl) rfl rfl ?_
  refine Aa9 (Sto.store rfl rfl (.there (.there .here)) Ah4 rfl rfl) rfl rfl ?_
  refine su ?_
  exact Ah3 Ah8 Ak9 (.r2 rfl (.agg rfl (.tail _ (.tail _ (.tail _ (.head _)))) Ad7 rfl) (.one rfl (.tail _ (.tail _ (.head _))) Ah4 rfl)) (by simp [b2v, shiftX, ha9, Ae6 hk ht])
theorem An8 (p : Pr) (x y : Int) (q : Option Addr) (b o cap : Nat) (W : World) (hS : Sl W q b o 9 (p.things.map Th.cells)) (hl : p.things.length ≤ 100000000000) :
    Calls Tryz.prog 14 #[p.v q cap, .int .i64 x, .int .i64 y] W (Pure (.tuple #[.int .i64 (nearerX p x y).1, .int .i64 (nearerX p x y).2]) W) := by
  refine Af0 Tryz.func14 rfl rfl ?_
  refine st ?_
  refine zn (New.box rfl) (fun b3 => ?_)
  refine zn (New.alloc Ar5) (fun b7 => ?_)
  refine RunL.defer rfl ?_
  refine su ?_
  refine zn (New.buildSlice (parts := [(0, .tmp 12), (1, .tmp 13)]) rfl Am6 Az7 rfl rfl rfl rfl) (fun b14 => ?_)
  refine Ak5 (zF rfl Bl3) rfl rfl rfl (fun w hm => Ay2 p q b o cap [_, _] _ _ _ _ w (hS.mono (by decide) hm (by simp)) hl (Sl.row1 (hm.at (.head _))) (by simp)) (fun e15 he15 => ?_) (fun a15 ha15 b15 => ?_)
  ·refine Ab6 ?_
   exact Al7 Ah8 Ak9 (.there .here) (.r2 rfl (.tmp rfl) (.one rfl (.tail _ (.head _)) Ah4 rfl)) (by simp [nearerX, he15])
  have hp := Ag8 (Ay3 ha15).1
  obtain ⟨k, hkx, hk⟩ := Ay4 ha15 (n := x) (by simp)
  obtain ⟨k2, hky, hk2⟩ := Ay4 ha15 (n := y) (by simp)
  subst hkx
  subst hky
  obtain ⟨t, ht⟩ : ∃ t, p.things[k] = t := ⟨_, rfl⟩
  obtain ⟨u, hu⟩ : ∃ u, p.things[k2] = u := ⟨_, rfl⟩
  have hth := hp.ths _ (List.getElem_mem hk)
  have huh := hp.ths _ (List.getElem_mem hk2)
  rw [ht] at hth
  rw [hu] at huh
  refine vp rfl rfl rfl rfl ?_
  refine nnx ?_
  refine RunC.seq ?_
  apply Aq2 (J := J2 _ _ _ _ _ _) 20 Al3 (.cons .here rfl (.cons .here rfl (.cons .here rfl (.cons .here rfl .nil))))
  ·refine zw 0 ?_
   refine zw 1 ?_
   refine zw 2 ?_
   refine zw 3 ?_
   refine zw 4 ?_
   refine zw 5 ?_
   refine zv 6 rfl (Ab0 rfl rfl Aw7 (by omega) (by omega) (hS.ptrM hk)) ?_
   refine zv 7 rfl (Ab8 rfl (fun w hm => hS.loadX (by decide) hm (by simp) Av7 hk ht)) ?_
   refine zw 9 ?_
   refine zw 10 ?_
   refine zw 11 ?_
   refine zw 12 ?_
   refine zw 13 ?_
   refine zw 14 ?_
   refine zv 15 rfl (Ab0 rfl rfl Aw7 (by omega) (by omega) (hS.ptrM hk2)) ?_
   refine zv 16 rfl (Ab8 rfl (fun w hm => hS.loadX (by decide) hm (by simp) Av7 hk2 hu)) ?_
   refine Ae8 (rs := [8, 18, 19]) (by kernel_rfl) (by simp) (by kernel_rfl) (fun m hm => ?_)
   simp only [List.mem_cons, List.not_mem_nil, or_false] at hm
   rcases hm with rfl | rfl | rfl
   ·refine Ab4 rfl (zF rfl Ak8) rfl rfl rfl (fun w hm => Ae1 t hth.1 w) (Aa0 (.cons .here rfl (.cons .here rfl (.cons .here rfl (.cons .here rfl .nil)))) (.cons .here rfl (.cons .here rfl (.cons .here rfl (.cons .here rfl .nil)))) rfl ?_)
    refine Ae8 (rs := [17, 18, 19]) (by kernel_rfl) (by simp) (by kernel_rfl) (fun m hm => ?_)
    simp only [List.mem_cons, List.not_mem_nil, or_false] at hm
    rcases hm with rfl | rfl | rfl
    ·refine Ab4 rfl (zF rfl Ak8) rfl rfl rfl (fun w hm => Ae1 u huh.1 w) (Aa0 (.cons .here rfl (.cons .here rfl (.cons .here rfl (.cons .here rfl .nil)))) (.cons .here rfl (.cons .here rfl (.cons .here rfl (.cons .here rfl .nil)))) rfl ?_)
     refine Ae8 (rs := [18, 19]) (by kernel_rfl) (by simp) (by kernel_rfl) (fun m hm => ?_)
     simp only [List.mem_cons, List.not_mem_nil, or_false] at hm
     rcases hm with rfl | rfl
     ·refine Ac8 rfl (New.alloc Ac7) rfl rfl rfl (fun b9 => (Aa0 (.cons .here rfl (.cons .here rfl (.cons .here rfl (.cons .here rfl (.cons .here rfl .nil))))) (.cons (.there .here) rfl (.cons (.there .here) rfl (.cons (.there .here) rfl (.cons (.there .here) rfl .nil)))) rfl ?_))
      refine zA 19 ?_
      refine Ac8 rfl (New.alloc Ac7) rfl rfl rfl (fun b10 => (Aa0 (.cons .here rfl (.cons .here rfl (.cons .here rfl (.cons .here rfl (.cons .here rfl (.cons .here rfl .nil)))))) (.cons (.there .here) rfl (.cons (.there .here) rfl (.cons (.there .here) rfl (.cons (.there .here) rfl (.cons (.there .here) rfl .nil))))) rfl ?_))
      refine zt ?_
      refine zB 20 ?_
      refine Ab9 rfl (Sto.store rfl rfl (.there .here) Ad7 rfl rfl) rfl rfl (Ab1 ?_)
      refine zB 21 ?_
      refine Ab9 rfl (Sto.store rfl rfl .here Ad7 rfl rfl) rfl rfl (Ab1 ?_)
      refine zd ?_
      refine Ae2 ?_
      exact Ae7 b9 b10 (Ab5 _) (Pick.refl _)
     refine Ac8 rfl (New.alloc Ac7) rfl rfl rfl (fun b10 => (Aa0 (.cons .here rfl (.cons .here rfl (.cons .here rfl (.cons .here rfl (.cons .here rfl .nil))))) (.cons (.there .here) rfl (.cons (.there .here) rfl (.cons (.there .here) rfl (.cons (.there .here) rfl .nil)))) rfl ?_))
     refine zA 18 ?_
     refine Ac8 rfl (New.alloc Ac7) rfl rfl rfl (fun b9 => (Aa0 (.cons .here rfl (.cons .here rfl (.cons .here rfl (.cons .here rfl (.cons .here rfl (.cons .here rfl .nil)))))) (.cons (.there .here) rfl (.cons (.there .here) rfl (.cons (.there .here) rfl (.cons (.there .here) rfl (.cons (.there .here) rfl .nil))))) rfl ?_))
     refine zt ?_
     refine zB 20 ?_
     refine Ab9 rfl (Sto.store rfl rfl .here Ad7 rfl rfl) rfl rfl (Ab1 ?_)
     refine zB 21 ?_
     refine Ab9 rfl (Sto.store rfl rfl (.there .here) Ad7 rfl rfl) rfl rfl (Ab1 ?_)
     refine zd ?_
     refine Ae2 ?_
     exact Ae7 b9 b10 (zS 10 rfl (zS 9 rfl (zS 33 rfl (zS 24 rfl (zS 32 rfl (zS 31 rfl (zS 30 rfl (zS 29 rfl (zS 28 rfl (zS 27 rfl (zS 26 rfl (zS 25 rfl (zS 23 rfl (zS 22 rfl (zS 21 rfl (zS 20 rfl (zS 19 rfl (zS 18 rfl (zS 17 rfl (zS 16 rfl (Sub.skip rfl (Sub.skip rfl (Sub.skip rfl (Sub.skip rfl (Sub.skip rfl (Sub.skip rfl (Sub.skip rfl (Sub.skip rfl (Sub.skip rfl (Sub.skip rfl (Sub.skip rfl (Sub.skip rfl (Sub.skip rfl (Sub.skip rfl (Sub.skip rfl (Sub.skip rfl (Sub.skip rfl (Sub.skip rfl (Sub.skip rfl (Sub.skip rfl (Ab5 _))))))))))))))))))))))))))))))))))))))))) (.cons (.there .here) rfl (.cons .here rfl (.cons .here rfl (.cons .here rfl (.cons .here rfl (.cons .here rfl .nil))))))
    ·refine Ac8 rfl (New.alloc Ac7) rfl rfl rfl (fun b9 => (Aa0 (.cons .here rfl (.cons .here rfl (.cons .here rfl (.cons .here rfl (.cons .here rfl .nil))))) (.cons (.there .here) rfl (.cons (.there .here) rfl (.cons (.there .here) rfl (.cons (.there .here) rfl .nil)))) rfl ?_))
     refine Ae8 (rs := [17, 19]) (by kernel_rfl) (by simp) (by kernel_rfl) (fun m hm => ?_)
     simp only [List.mem_cons, List.not_mem_nil, or_false] at hm
     rcases hm with rfl | rfl
     ·refine Ab4 rfl (zF rfl Ak8) rfl rfl rfl (fun w hm => Ae1 u huh.1 w) (Aa0 (.cons .here rfl (.cons .here rfl (.cons .here rfl (.cons .here rfl (.cons .here rfl .nil))))) (.cons .here rfl (.cons .here rfl (.cons .here rfl (.cons .here rfl (.cons .here rfl .nil))))) rfl ?_)
      refine zA 19 ?_
      refine Ac8 rfl (New.alloc Ac7) rfl rfl rfl (fun b10 => (Aa0 (.cons .here rfl (.cons .here rfl (.cons .here rfl (.cons .here rfl (.cons .here rfl (.cons .here rfl .nil)))))) (.cons (.there .here) rfl (.cons (.there .here) rfl (.cons (.there .here) rfl (.cons (.there .here) rfl (.cons (.there .here) rfl .nil))))) rfl ?_))
      refine zt ?_
      refine zB 20 ?_
      refine Ab9 rfl (Sto.store rfl rfl (.there .here) Ad7 rfl rfl) rfl rfl (Ab1 ?_)
      refine zB 21 ?_
      refine Ab9 rfl (Sto.store rfl rfl .here Ad7 rfl rfl) rfl rfl (Ab1 ?_)
      refine zd ?_
      refine Ae2 ?_
      exact Ae7 b9 b10 (zS 10 rfl (zS 9 rfl (zS 33 rfl (zS 24 rfl (zS 32 rfl (zS 31 rfl (zS 30 rfl (zS 29 rfl (zS 28 rfl (zS 27 rfl (zS 26 rfl (zS 25 rfl (zS 23 rfl (zS 22 rfl (zS 21 rfl (zS 20 rfl (zS 19 rfl (zS 18 rfl (zS 17 rfl (zS 16 rfl (Sub.skip rfl (Sub.skip rfl (Sub.skip rfl (Sub.skip rfl (Sub.skip rfl (Sub.skip rfl (Sub.skip rfl (Sub.skip rfl (Sub.skip rfl (Sub.skip rfl (Sub.skip rfl (Sub.skip rfl (Sub.skip rfl (Sub.skip rfl (Sub.skip rfl (Sub.skip rfl (Sub.skip rfl (Sub.skip rfl (Sub.skip rfl (Sub.skip rfl (Ab5 _))))))))))))))))))))))))))))))))))))))))) (.cons .here rfl (.cons .here rfl (.cons .here rfl (.cons .here rfl (.cons .here rfl (.cons .here rfl .nil))))))
     refine Ac8 rfl (New.alloc Ac7) rfl rfl rfl (fun b10 => (Aa0 (.cons .here rfl (.cons .here rfl (.cons .here rfl (.cons .here rfl (.cons .here rfl (.cons .here rfl .nil)))))) (.cons (.there .here) rfl (.cons (.there .here) rfl (.cons (.there .here) rfl (.cons (.there .here) rfl (.cons (.there .here) rfl .nil))))) rfl ?_))
     refine zA 17 ?_
     refine Ab4 rfl (zF rfl Ak8) rfl rfl rfl (fun w hm => Ae1 u huh.1 w) (Aa0 (.cons .here rfl (.cons .here rfl (.cons .here rfl (.cons .here rfl (.cons .here rfl (.cons .here rfl .nil)))))) (.cons .here rfl (.cons .here rfl (.cons .here rfl (.cons .here rfl (.cons .here rfl (.cons .here rfl .nil)))))) rfl ?_)
     refine zt ?_
     refine zB 20 ?_
     refine Ab9 rfl (Sto.store rfl rfl (.there .here) Ad7 rfl rfl) rfl rfl (Ab1 ?_)
     refine zB 21 ?_
     refine Ab9 rfl (Sto.store rfl rfl .here Ad7 rfl rfl) rfl rfl (Ab1 ?_)
     refine zd ?_
     refine Ae2 ?_
     exact Ae7 b9 b10 (zS 10 rfl (zS 9 rfl (zS 33 rfl (zS 24 rfl (zS 32 rfl (zS 31 rfl (zS 30 rfl (zS 29 rfl (zS 28 rfl (zS 27 rfl (zS 26 rfl (zS 25 rfl (zS 23 rfl (zS 22 rfl (zS 21 rfl (zS 20 rfl (zS 19 rfl (zS 18 rfl (zS 17 rfl (zS 16 rfl (Sub.skip rfl (Sub.skip rfl (Sub.skip rfl (Sub.skip rfl (Sub.skip rfl (Sub.skip rfl (Sub.skip rfl (Sub.skip rfl (Sub.skip rfl (Sub.skip rfl (Sub.skip rfl (Sub.skip rfl (Sub.skip rfl (Sub.skip rfl (Sub.skip rfl (Sub.skip rfl (Sub.skip rfl (Sub.skip rfl (Sub.skip rfl (Sub.skip rfl (Ab5 _))))))))))))))))))))))))))))))))))))))))) (.cons .here rfl (.cons .here rfl (.cons .here rfl (.cons .here rfl (.cons .here rfl (.cons .here rfl .nil))))))
    refine Ac8 rfl (New.alloc Ac7) rfl rfl rfl (fun b10 => (Aa0 (.cons .here rfl (.cons .here rfl (.cons .here rfl (.cons .here rfl (.cons .here rfl .nil))))) (.cons (.there .here) rfl (.cons (.there .here) rfl (.cons (.there .here) rfl (.cons (.there .here) rfl .nil)))) rfl ?_))
    refine Ae8 (rs := [17, 18]) (by kernel_rfl) (by simp) (by kernel_rfl) (fun m hm => ?_)
    simp only [List.mem_cons, List.not_mem_nil, or_false] at hm
    rcases hm with rfl | rfl
    ·refine Ab4 rfl (zF rfl Ak8) rfl rfl rfl (fun w hm => Ae1 u huh.1 w) (Aa0 (.cons .here rfl (.cons .here rfl (.cons .here rfl (.cons .here rfl (.cons .here rfl .nil))))) (.cons .here rfl (.cons .here rfl (.cons .here rfl (.cons .here rfl (.cons .here rfl .nil))))) rfl ?_)
     refine zA 18 ?_
     refine Ac8 rfl (New.alloc Ac7) rfl rfl rfl (fun b9 => (Aa0 (.cons .here rfl (.cons .here rfl (.cons .here rfl (.cons .here rfl (.cons .here rfl (.cons .here rfl .nil)))))) (.cons (.there .here) rfl (.cons (.there .here) rfl (.cons (.there .here) rfl (.cons (.there .here) rfl (.cons (.there .here) rfl .nil))))) rfl ?_))
     refine zt ?_
     refine zB 20 ?_
     refine Ab9 rfl (Sto.store rfl rfl .here Ad7 rfl rfl) rfl rfl (Ab1 ?_)
     refine zB 21 ?_
     refine Ab9 rfl (Sto.store rfl rfl (.there .here) Ad7 rfl rfl) rfl rfl (Ab1 ?_)
     refine zd ?_
     refine Ae2 ?_
     exact Ae7 b9 b10 (zS 10 rfl (zS 9 rfl (zS 33 rfl (zS 24 rfl (zS 32 rfl (zS 31 rfl (zS 30 rfl (zS 29 rfl (zS 28 rfl (zS 27 rfl (zS 26 rfl (zS 25 rfl (zS 23 rfl (zS 22 rfl (zS 21 rfl (zS 20 rfl (zS 19 rfl (zS 18 rfl (zS 17 rfl (zS 16 rfl (Sub.skip rfl (Sub.skip rfl (Sub.skip rfl (Sub.skip rfl (Sub.skip rfl (Sub.skip rfl (Sub.skip rfl (Sub.skip rfl (Sub.skip rfl (Sub.skip rfl (Sub.skip rfl (Sub.skip rfl (Sub.skip rfl (Sub.skip rfl (Sub.skip rfl (Sub.skip rfl (Sub.skip rfl (Sub.skip rfl (Sub.skip rfl (Sub.skip rfl (Ab5 _))))))))))))))))))))))))))))))))))))))))) (.cons (.there .here) rfl (.cons .here rfl (.cons .here rfl (.cons .here rfl (.cons .here rfl (.cons .here rfl .nil))))))
    refine Ac8 rfl (New.alloc Ac7) rfl rfl rfl (fun b9 => (Aa0 (.cons .here rfl (.cons .here rfl (.cons .here rfl (.cons .here rfl (.cons .here rfl (.cons .here rfl .nil)))))) (.cons (.there .here) rfl (.cons (.there .here) rfl (.cons (.there .here) rfl (.cons (.there .here) rfl (.cons (.there .here) rfl .nil))))) rfl ?_))
    refine zA 17 ?_
    refine Ab4 rfl (zF rfl Ak8) rfl rfl rfl (fun w hm => Ae1 u huh.1 w) (Aa0 (.cons .here rfl (.cons .here rfl (.cons .here rfl (.cons .here rfl (.cons .here rfl (.cons .here rfl .nil)))))) (.cons .here rfl (.cons .here rfl (.cons .here rfl (.cons .here rfl (.cons .here rfl (.cons .here rfl .nil)))))) rfl ?_)
    refine zt ?_
    refine zB 20 ?_
    refine Ab9 rfl (Sto.store rfl rfl .here Ad7 rfl rfl) rfl rfl (Ab1 ?_)
    refine zB 21 ?_
    refine Ab9 rfl (Sto.store rfl rfl (.there .here) Ad7 rfl rfl) rfl rfl (Ab1 ?_)
    refine zd ?_
    refine Ae2 ?_
    exact Ae7 b9 b10 (zS 10 rfl (zS 9 rfl (zS 33 rfl (zS 24 rfl (zS 32 rfl (zS 31 rfl (zS 30 rfl (zS 29 rfl (zS 28 rfl (zS 27 rfl (zS 26 rfl (zS 25 rfl (zS 23 rfl (zS 22 rfl (zS 21 rfl (zS 20 rfl (zS 19 rfl (zS 18 rfl (zS 17 rfl (zS 16 rfl (Sub.skip rfl (Sub.skip rfl (Sub.skip rfl (Sub.skip rfl (Sub.skip rfl (Sub.skip rfl (Sub.skip rfl (Sub.skip rfl (Sub.skip rfl (Sub.skip rfl (Sub.skip rfl (Sub.skip rfl (Sub.skip rfl (Sub.skip rfl (Sub.skip rfl (Sub.skip rfl (Sub.skip rfl (Sub.skip rfl (Sub.skip rfl (Sub.skip rfl (Ab5 _))))))))))))))))))))))))))))))))))))))))) (.cons (.there .here) rfl (.cons .here rfl (.cons .here rfl (.cons .here rfl (.cons .here rfl (.cons .here rfl .nil))))))
   ·refine Ac8 rfl (New.alloc Ac7) rfl rfl rfl (fun b9 => (Aa0 (.cons .here rfl (.cons .here rfl (.cons .here rfl (.cons .here rfl (.cons .here rfl .nil))))) (.cons (.there .here) rfl (.cons (.there .here) rfl (.cons (.there .here) rfl (.cons (.there .here) rfl .nil)))) rfl ?_))
    refine Ae8 (rs := [8, 19]) (by kernel_rfl) (by simp) (by kernel_rfl) (fun m hm => ?_)
    simp only [List.mem_cons, List.not_mem_nil, or_false] at hm
    rcases hm with rfl | rfl
    ·refine Ab4 rfl (zF rfl Ak8) rfl rfl rfl (fun w hm => Ae1 t hth.1 w) (Aa0 (.cons .here rfl (.cons .here rfl (.cons .here rfl (.cons .here rfl (.cons .here rfl .nil))))) (.cons .here rfl (.cons .here rfl (.cons .here rfl (.cons .here rfl (.cons .here rfl .nil))))) rfl ?_)
     refine Ae8 (rs := [17, 19]) (by kernel_rfl) (by simp) (by kernel_rfl) (fun m hm => ?_)
     simp only [List.mem_cons, List.not_mem_nil, or_false] at hm
     rcases hm with rfl | rfl
     ·refine Ab4 rfl (zF rfl Ak8) rfl rfl rfl (fun w hm => Ae1 u huh.1 w) (Aa0 (.cons .here rfl (.cons .here rfl (.cons .here rfl (.cons .here rfl (.cons .here rfl .nil))))) (.cons .here rfl (.cons .here rfl (.cons .here rfl (.cons .here rfl (.cons .here rfl .nil))))) rfl ?_)
      refine zA 19 ?_
      refine Ac8 rfl (New.alloc Ac7) rfl rfl rfl (fun b10 => (Aa0 (.cons .here rfl (.cons .here rfl (.cons .here rfl (.cons .here rfl (.cons .here rfl (.cons .here rfl .nil)))))) (.cons (.there .here) rfl (.cons (.there .here) rfl (.cons (.there .here) rfl (.cons (.there .here) rfl (.cons (.there .here) rfl .nil))))) rfl ?_))
      refine zt ?_
      refine zB 20 ?_
      refine Ab9 rfl (Sto.store rfl rfl (.there .here) Ad7 rfl rfl) rfl rfl (Ab1 ?_)
      refine zB 21 ?_
      refine Ab9 rfl (Sto.store rfl rfl .here Ad7 rfl rfl) rfl rfl (Ab1 ?_)
      refine zd ?_
      refine Ae2 ?_
      exact Ae7 b9 b10 (zS 10 rfl (zS 9 rfl (zS 33 rfl (zS 24 rfl (zS 32 rfl (zS 31 rfl (zS 30 rfl (zS 29 rfl (zS 28 rfl (zS 27 rfl (zS 26 rfl (zS 25 rfl (zS 23 rfl (zS 22 rfl (zS 21 rfl (zS 20 rfl (zS 19 rfl (zS 18 rfl (zS 17 rfl (zS 16 rfl (Sub.skip rfl (Sub.skip rfl (Sub.skip rfl (Sub.skip rfl (Sub.skip rfl (Sub.skip rfl (Sub.skip rfl (Sub.skip rfl (Sub.skip rfl (Sub.skip rfl (Sub.skip rfl (Sub.skip rfl (Sub.skip rfl (Sub.skip rfl (Sub.skip rfl (Sub.skip rfl (Sub.skip rfl (Sub.skip rfl (Sub.skip rfl (Sub.skip rfl (Ab5 _))))))))))))))))))))))))))))))))))))))))) (.cons .here rfl (.cons .here rfl (.cons .here rfl (.cons .here rfl (.cons .here rfl (.cons .here rfl .nil))))))
     refine Ac8 rfl (New.alloc Ac7) rfl rfl rfl (fun b10 => (Aa0 (.cons .here rfl (.cons .here rfl (.cons .here rfl (.cons .here rfl (.cons .here rfl (.cons .here rfl .nil)))))) (.cons (.there .here) rfl (.cons (.there .here) rfl (.cons (.there .here) rfl (.cons (.there .here) rfl (.cons (.there .here) rfl .nil))))) rfl ?_))
     refine zA 17 ?_
     refine Ab4 rfl (zF rfl Ak8) rfl rfl rfl (fun w hm => Ae1 u huh.1 w) (Aa0 (.cons .here rfl (.cons .here rfl (.cons .here rfl (.cons .here rfl (.cons .here rfl (.cons .here rfl .nil)))))) (.cons .here rfl (.cons .here rfl (.cons .here rfl (.cons .here rfl (.cons .here rfl (.cons .here rfl .nil)))))) rfl ?_)
     refine zt ?_
     refine zB 20 ?_
     refine Ab9 rfl (Sto.store rfl rfl (.there .here) Ad7 rfl rfl) rfl rfl (Ab1 ?_)
     refine zB 21 ?_
     refine Ab9 rfl (Sto.store rfl rfl .here Ad7 rfl rfl) rfl rfl (Ab1 ?_)
     refine zd ?_
     refine Ae2 ?_
     exact Ae7 b9 b10 (zS 10 rfl (zS 9 rfl (zS 33 rfl (zS 24 rfl (zS 32 rfl (zS 31 rfl (zS 30 rfl (zS 29 rfl (zS 28 rfl (zS 27 rfl (zS 26 rfl (zS 25 rfl (zS 23 rfl (zS 22 rfl (zS 21 rfl (zS 20 rfl (zS 19 rfl (zS 18 rfl (zS 17 rfl (zS 16 rfl (Sub.skip rfl (Sub.skip rfl (Sub.skip rfl (Sub.skip rfl (Sub.skip rfl (Sub.skip rfl (Sub.skip rfl (Sub.skip rfl (Sub.skip rfl (Sub.skip rfl (Sub.skip rfl (Sub.skip rfl (Sub.skip rfl (Sub.skip rfl (Sub.skip rfl (Sub.skip rfl (Sub.skip rfl (Sub.skip rfl (Sub.skip rfl (Sub.skip rfl (Ab5 _))))))))))))))))))))))))))))))))))))))))) (.cons .here rfl (.cons .here rfl (.cons .here rfl (.cons .here rfl (.cons .here rfl (.cons .here rfl .nil))))))
    refine Ac8 rfl (New.alloc Ac7) rfl rfl rfl (fun b10 => (Aa0 (.cons .here rfl (.cons .here rfl (.cons .here rfl (.cons .here rfl (.cons .here rfl (.cons .here rfl .nil)))))) (.cons (.there .here) rfl (.cons (.there .here) rfl (.cons (.there .here) rfl (.cons (.there .here) rfl (.cons (.there .here) rfl .nil))))) rfl ?_))
    refine zA 8 ?_
    refine Ab4 rfl (zF rfl Ak8) rfl rfl rfl (fun w hm => Ae1 t hth.1 w) (Aa0 (.cons .here rfl (.cons .here rfl (.cons .here rfl (.cons .here rfl (.cons .here rfl (.cons .here rfl .nil)))))) (.cons .here rfl (.cons .here rfl (.cons .here rfl (.cons .here rfl (.cons .here rfl (.cons .here rfl .nil)))))) rfl ?_)
    refine zA 17 ?_
    refine Ab4 rfl (zF rfl Ak8) rfl rfl rfl (fun w hm => Ae1 u huh.1 w) (Aa0 (.cons .here rfl (.cons .here rfl (.cons .here rfl (.cons .here rfl (.cons .here rfl (.cons .here rfl .nil)))))) (.cons .here rfl (.cons .here rfl (.cons .here rfl (.cons .here rfl (.cons .here rfl (.cons .here rfl .nil)))))) rfl ?_)
    refine zt ?_
    refine zB 20 ?_
    refine Ab9 rfl (Sto.store rfl rfl (.there .here) Ad7 rfl rfl) rfl rfl (Ab1 ?_)
    refine zB 21 ?_
    refine Ab9 rfl (Sto.store rfl rfl .here Ad7 rfl rfl) rfl rfl (Ab1 ?_)
    refine zd ?_
    refine Ae2 ?_
    exact Ae7 b9 b10 (zS 10 rfl (zS 9 rfl (zS 33 rfl (zS 24 rfl (zS 32 rfl (zS 31 rfl (zS 30 rfl (zS 29 rfl (zS 28 rfl (zS 27 rfl (zS 26 rfl (zS 25 rfl (zS 23 rfl (zS 22 rfl (zS 21 rfl (zS 20 rfl (zS 19 rfl (zS 18 rfl (zS 17 rfl (zS 16 rfl (Sub.skip rfl (Sub.skip rfl (Sub.skip rfl (Sub.skip rfl (Sub.skip rfl (Sub.skip rfl (Sub.skip rfl (Sub.skip rfl (Sub.skip rfl (Sub.skip rfl (Sub.skip rfl (Sub.skip rfl (Sub.skip rfl (Sub.skip rfl (Sub.skip rfl (Sub.skip rfl (Sub.skip rfl (Sub.skip rfl (Sub.skip rfl (Sub.skip rfl (Ab5 _))))))))))))))))))))))))))))))))))))))))) (.cons .here rfl (.cons .here rfl (.cons .here rfl (.cons .here rfl (.cons .here rfl (.cons .here rfl .nil))))))
   refine Ac8 rfl (New.alloc Ac7) rfl rfl rfl (fun b10 => (Aa0 (.cons .here rfl (.cons .here rfl (.cons .here rfl (.cons .here rfl (.cons .here rfl .nil))))) (.cons (.there .here) rfl (.cons (.there .here) rfl (.cons (.there .here) rfl (.cons (.there .here) rfl .nil)))) rfl ?_))
   refine Ae8 (rs := [8, 18]) (by kernel_rfl) (by simp) (by kernel_rfl) (fun m hm => ?_)
   simp only [List.mem_cons, List.not_mem_nil, or_false] at hm
   rcases hm with rfl | rfl
   ·refine Ab4 rfl (zF rfl Ak8) rfl rfl rfl (fun w hm => Ae1 t hth.1 w) (Aa0 (.cons .here rfl (.cons .here rfl (.cons .here rfl (.cons .here rfl (.cons .here rfl .nil))))) (.cons .here rfl (.cons .here rfl (.cons .here rfl (.cons .here rfl (.cons .here rfl .nil))))) rfl ?_)
    refine Ae8 (rs := [17, 18]) (by kernel_rfl) (by simp) (by kernel_rfl) (fun m hm => ?_)
    simp only [List.mem_cons, List.not_mem_nil, or_false] at hm
    rcases hm with rfl | rfl
    ·refine Ab4 rfl (zF rfl Ak8) rfl rfl rfl (fun w hm => Ae1 u huh.1 w) (Aa0 (.cons .here rfl (.cons .here rfl (.cons .here rfl (.cons .here rfl (.cons .here rfl .nil))))) (.cons .here rfl (.cons .here rfl (.cons .here rfl (.cons .here rfl (.cons .here rfl .nil))))) rfl ?_)
     refine zA 18 ?_
     refine Ac8 rfl (New.alloc Ac7) rfl rfl rfl (fun b9 => (Aa0 (.cons .here rfl (.cons .here rfl (.cons .here rfl (.cons .here rfl (.cons .here rfl (.cons .here rfl .nil)))))) (.cons (.there .here) rfl (.cons (.there .here) rfl (.cons (.there .here) rfl (.cons (.there .here) rfl (.cons (.there .here) rfl .nil))))) rfl ?_))
     refine zt ?_
     refine zB 20 ?_
     refine Ab9 rfl (Sto.store rfl rfl .here Ad7 rfl rfl) rfl rfl (Ab1 ?_)
     refine zB 21 ?_
     refine Ab9 rfl (Sto.store rfl rfl (.there .here) Ad7 rfl rfl) rfl rfl (Ab1 ?_)
     refine zd ?_
     refine Ae2 ?_
     exact Ae7 b9 b10 (zS 10 rfl (zS 9 rfl (zS 33 rfl (zS 24 rfl (zS 32 rfl (zS 31 rfl (zS 30 rfl (zS 29 rfl (zS 28 rfl (zS 27 rfl (zS 26 rfl (zS 25 rfl (zS 23 rfl (zS 22 rfl (zS 21 rfl (zS 20 rfl (zS 19 rfl (zS 18 rfl (zS 17 rfl (zS 16 rfl (Sub.skip rfl (Sub.skip rfl (Sub.skip rfl (Sub.skip rfl (Sub.skip rfl (Sub.skip rfl (Sub.skip rfl (Sub.skip rfl (Sub.skip rfl (Sub.skip rfl (Sub.skip rfl (Sub.skip rfl (Sub.skip rfl (Sub.skip rfl (Sub.skip rfl (Sub.skip rfl (Sub.skip rfl (Sub.skip rfl (Sub.skip rfl (Sub.skip rfl (Ab5 _))))))))))))))))))))))))))))))))))))))))) (.cons (.there .here) rfl (.cons .here rfl (.cons .here rfl (.cons .here rfl (.cons .here rfl (.cons .here rfl .nil))))))
    refine Ac8 rfl (New.alloc Ac7) rfl rfl rfl (fun b9 => (Aa0 (.cons .here rfl (.cons .here rfl (.cons .here rfl (.cons .here rfl (.cons .here rfl (.cons .here rfl .nil)))))) (.cons (.there .here) rfl (.cons (.there .here) rfl (.cons (.there .here) rfl (.cons (.there .here) rfl (.cons (.there .here) rfl .nil))))) rfl ?_))
    refine zA 17 ?_
    refine Ab4 rfl (zF rfl Ak8) rfl rfl rfl (fun w hm => Ae1 u huh.1 w) (Aa0 (.cons .here rfl (.cons .here rfl (.cons .here rfl (.cons .here rfl (.cons .here rfl (.cons .here rfl .nil)))))) (.cons .here rfl (.cons .here rfl (.cons .here rfl (.cons .here rfl (.cons .here rfl (.cons .here rfl .nil)))))) rfl ?_)
    refine zt ?_
    refine zB 20 ?_
    refine Ab9 rfl (Sto.store rfl rfl .here Ad7 rfl rfl) rfl rfl (Ab1 ?_)
    refine zB 21 ?_
    refine Ab9 rfl (Sto.store rfl rfl (.there .here) Ad7 rfl rfl) rfl rfl (Ab1 ?_)
    refine zd ?_
    refine Ae2 ?_
    exact Ae7 b9 b10 (zS 10 rfl (zS 9 rfl (zS 33 rfl (zS 24 rfl (zS 32 rfl (zS 31 rfl (zS 30 rfl (zS 29 rfl (zS 28 rfl (zS 27 rfl (zS 26 rfl (zS 25 rfl (zS 23 rfl (zS 22 rfl (zS 21 rfl (zS 20 rfl (zS 19 rfl (zS 18 rfl (zS 17 rfl (zS 16 rfl (Sub.skip rfl (Sub.skip rfl (Sub.skip rfl (Sub.skip rfl (Sub.skip rfl (Sub.skip rfl (Sub.skip rfl (Sub.skip rfl (Sub.skip rfl (Sub.skip rfl (Sub.skip rfl (Sub.skip rfl (Sub.skip rfl (Sub.skip rfl (Sub.skip rfl (Sub.skip rfl (Sub.skip rfl (Sub.skip rfl (Sub.skip rfl (Sub.skip rfl (Ab5 _))))))))))))))))))))))))))))))))))))))))) (.cons (.there .here) rfl (.cons .here rfl (.cons .here rfl (.cons .here rfl (.cons .here rfl (.cons .here rfl .nil))))))
   refine Ac8 rfl (New.alloc Ac7) rfl rfl rfl (fun b9 => (Aa0 (.cons .here rfl (.cons .here rfl (.cons .here rfl (.cons .here rfl (.cons .here rfl (.cons .here rfl .nil)))))) (.cons (.there .here) rfl (.cons (.there .here) rfl (.cons (.there .here) rfl (.cons (.there .here) rfl (.cons (.there .here) rfl .nil))))) rfl ?_))
   refine zA 8 ?_
   refine Ab4 rfl (zF rfl Ak8) rfl rfl rfl (fun w hm => Ae1 t hth.1 w) (Aa0 (.cons .here rfl (.cons .here rfl (.cons .here rfl (.cons .here rfl (.cons .here rfl (.cons .here rfl .nil)))))) (.cons .here rfl (.cons .here rfl (.cons .here rfl (.cons .here rfl (.cons .here rfl (.cons .here rfl .nil)))))) rfl ?_)
   refine zA 17 ?_
   refine Ab4 rfl (zF rfl Ak8) rfl rfl rfl (fun w hm => Ae1 u huh.1 w) (Aa0 (.cons .here rfl (.cons .here rfl (.cons .here rfl (.cons .here rfl (.cons .here rfl (.cons .here rfl .nil)))))) (.cons .here rfl (.cons .here rfl (.cons .here rfl (.cons .here rfl (.cons .here rfl (.cons .here rfl .nil)))))) rfl ?_)
   refine zt ?_
   refine zB 20 ?_
   refine Ab9 rfl (Sto.store rfl rfl .here Ad7 rfl rfl) rfl rfl (Ab1 ?_)
   refine zB 21 ?_
   refine Ab9 rfl (Sto.store rfl rfl (.there .here) Ad7 rfl rfl) rfl rfl (Ab1 ?_)
   refine zd ?_
   refine Ae2 ?_
   exact Ae7 b9 b10 (zS 10 rfl (zS 9 rfl (zS 33 rfl (zS 24 rfl (zS 32 rfl (zS 31 rfl (zS 30 rfl (zS 29 rfl (zS 28 rfl (zS 27 rfl (zS 26 rfl (zS 25 rfl (zS 23 rfl (zS 22 rfl (zS 21 rfl (zS 20 rfl (zS 19 rfl (zS 18 rfl (zS 17 rfl (zS 16 rfl (Sub.skip rfl (Sub.skip rfl (Sub.skip rfl (Sub.skip rfl (Sub.skip rfl (Sub.skip rfl (Sub.skip rfl (Sub.skip rfl (Sub.skip rfl (Sub.skip rfl (Sub.skip rfl (Sub.skip rfl (Sub.skip rfl (Sub.skip rfl (Sub.skip rfl (Sub.skip rfl (Sub.skip rfl (Sub.skip rfl (Sub.skip rfl (Sub.skip rfl (Ab5 _))))))))))))))))))))))))))))))))))))))))) (.cons (.there .here) rfl (.cons .here rfl (.cons .here rfl (.cons .here rfl (.cons .here rfl (.cons .here rfl .nil))))))
  refine J2.out (fun b9 b10 => ?_)
  refine su ?_
  refine cn rfl ?_ ?_
  ·intro c0'
   refine st ?_
   refine Aa9 (Sto.store rfl rfl (.there (.there (.there (.there .here)))) Ah4 rfl rfl) rfl rfl ?_
   refine su ?_
   exact Ah3 Ah8 Ak9 (.r2 rfl (.tmp rfl) (.one rfl (.tail _ (.tail _ (.tail _ (.tail _ (.head _))))) Ah4 rfl)) (by simp [nearerX, ha15, Ae6 hk ht, Ae6 hk2 hu, nearerS, c0'])
  intro c0'
  refine su ?_
  refine cn rfl ?_ ?_
  ·intro c1'
   refine st ?_
   refine Aa9 (Sto.store rfl rfl (.there (.there (.there (.there .here)))) Ah4 rfl rfl) rfl rfl ?_
   refine su ?_
   exact Ah3 Ah8 Ak9 (.r2 rfl (.tmp rfl) (.one rfl (.tail _ (.tail _ (.tail _ (.tail _ (.head _))))) Ah4 rfl)) (by simp [nearerX, ha15, Ae6 hk ht, Ae6 hk2 hu, nearerS, c1', Int.not_lt.2 c0'])
  intro c1'
  refine st ?_
  refine Aa9 (Sto.store rfl rfl (.there (.there (.there (.there .here)))) Ah4 rfl rfl) rfl rfl ?_
  refine su ?_
  exact Ah3 Ah8 Ak9 (.r2 rfl (.tmp rfl) (.one rfl (.tail _ (.tail _ (.tail _ (.tail _ (.head _))))) Ah4 rfl)) (by simp [nearerX, ha15, Ae6 hk ht, Ae6 hk2 hu, nearerS, Int.not_lt.2 c0', Int.not_lt.2 c1'])
theorem Bh9 (p : Pr) (q : Option Addr) (b o cap : Nat) (W : World) (hS : Sl W q b o 9 (p.things.map Th.cells)) (hl : p.things.length ≤ 100000000000) :
    Calls Tryz.prog 117 #[p.v q cap] W (Pure (.tuple #[b2v (powerX p).1, .int .i64 (powerX p).2]) W) := by
  refine Af0 Tryz.func117 rfl rfl ?_
  refine st ?_
  refine zn (New.box rfl) (fun b1 => ?_)
  refine zn (New.alloc Ac7) (fun b2 => ?_)
  refine zn (New.alloc Ar5) (fun b3 => ?_)
  refine RunL.defer rfl ?_
  refine su ?_
  refine Ak5 (zF rfl BC2) rfl rfl rfl (fun w hm => Aw3 p q b o cap [] _ 0 0 _ w (hS.mono (by decide) hm (by simp)) hl Sl.emp (by simp)) (fun e5 he5 => ?_) (fun a5 ha5 b5 => ?_)
  ·refine Ab6 ?_
   exact Al7 Ah8 Ak9 .here (.r2 rfl (.agg rfl (.tail _ (.head _)) Ad7 rfl) (.one rfl (.head _) Ah4 rfl)) (by simp [b2v, powerX, he5])
  refine su ?_
  refine zc (zF rfl BC0) (fun w hm => Aw6 a5 w) ?_
  refine Aa9 (Sto.store rfl rfl (.there (.there .here)) Ad7 rfl rfl) rfl rfl ?_
  refine Aa9 (Sto.store rfl rfl (.there .here) Ah4 rfl rfl) rfl rfl ?_
  refine su ?_
  exact Ah3 Ah8 Ak9 (.r2 rfl (.agg rfl (.tail _ (.tail _ (.head _))) Ad7 rfl) (.one rfl (.tail _ (.head _)) Ah4 rfl)) (by simp [b2v, powerX, ha5])
theorem Bc4 (p : Pr) (far : Int) (q : Option Addr) (b o cap : Nat) (W : World) (hS : Sl W q b o 9 (p.things.map Th.cells)) (hl : p.things.length ≤ 100000000000) :
    Calls Tryz.prog 66 #[p.v q cap, .int .i64 far] W (Pure (.tuple #[b2v (standsX p far).1, .int .i64 (standsX p far).2]) W) := by
  refine Af0 Tryz.func66 rfl rfl ?_
  refine st ?_
  refine zn (New.box rfl) (fun b2 => ?_)
  refine zn (New.alloc Ac7) (fun b4 => ?_)
  refine zn (New.alloc Ar5) (fun b5 => ?_)
  refine RunL.defer rfl ?_
  refine su ?_
  refine Ak5 (zF rfl Bl3) rfl rfl rfl (fun w hm => Ay2 p q b o cap [] _ 0 0 _ w (hS.mono (by decide) hm (by simp)) hl Sl.emp (by simp)) (fun e8 he8 => ?_) (fun a8 ha8 b8 => ?_)
  ·refine Ab6 ?_
   exact Al7 Ah8 Ak9 .here (.r2 rfl (.agg rfl (.tail _ (.head _)) Ad7 rfl) (.one rfl (.head _) Ah4 rfl)) (by simp [b2v, standsX, he8])
  have hp := Ag8 (Ay3 ha8).1
  refine st ?_
  refine Az5 11 Al3 (.cons .here rfl (.cons .here rfl (.cons .here rfl (.cons .here rfl .nil)))) ?_
  refine Ac9 (i := 0) rfl (by kernel_rfl) (by kernel_rfl) (Aa5 rfl) rfl rfl rfl (PanQ.back rfl) (.cons .here rfl (.cons .here rfl (.cons .here rfl (.cons .here rfl .nil)))) rfl ?_
  refine Ac9 (i := 1) rfl (by kernel_rfl) (by kernel_rfl) (Aa5 rfl) rfl rfl rfl (PanQ.back rfl) (.cons .here rfl (.cons .here rfl (.cons .here rfl (.cons .here rfl .nil)))) rfl ?_
  refine Ac9 (i := 2) rfl (by kernel_rfl) (by kernel_rfl) (Aa5 rfl) rfl rfl rfl (PanQ.back rfl) (.cons .here rfl (.cons .here rfl (.cons .here rfl (.cons .here rfl .nil)))) rfl ?_
  refine Ac9 (i := 3) rfl (by kernel_rfl) (by kernel_rfl) (Val.fieldAddr rfl Au7) rfl rfl rfl (PanQ.back rfl) (.cons .here rfl (.cons .here rfl (.cons .here rfl (.cons .here rfl .nil)))) rfl ?_
  refine Ac9 (i := 4) rfl (by kernel_rfl) (by kernel_rfl) (Val.fieldAddr rfl Bk6) rfl rfl rfl (PanQ.back rfl) (.cons .here rfl (.cons .here rfl (.cons .here rfl (.cons .here rfl .nil)))) rfl ?_
  refine Ac9 (i := 5) rfl (by kernel_rfl) (by kernel_rfl) (Aa3 rfl (.head _) Ag0 rfl) rfl rfl rfl (PanQ.back rfl) (.cons .here rfl (.cons .here rfl (.cons .here rfl (.cons .here rfl .nil)))) rfl ?_
  refine Ac9 (i := 6) rfl (by kernel_rfl) (by kernel_rfl) (Aa5 rfl) rfl rfl rfl (PanQ.back rfl) (.cons .here rfl (.cons .here rfl (.cons .here rfl (.cons .here rfl .nil)))) rfl ?_
  refine Ac9 (i := 7) rfl (by kernel_rfl) (by kernel_rfl) (Aa5 rfl) rfl rfl rfl (PanQ.back rfl) (.cons .here rfl (.cons .here rfl (.cons .here rfl (.cons .here rfl .nil)))) rfl ?_
  refine Ac9 (i := 8) rfl (by kernel_rfl) (by kernel_rfl) (Val.fieldAddr rfl Au7) rfl rfl rfl (PanQ.back rfl) (.cons .here rfl (.cons .here rfl (.cons .here rfl (.cons .here rfl .nil)))) rfl ?_
  refine Ac9 (i := 9) rfl (by kernel_rfl) (by kernel_rfl) (Val.fieldAddr rfl Bk5) rfl rfl rfl (PanQ.back rfl) (.cons .here rfl (.cons .here rfl (.cons .here rfl (.cons .here rfl .nil)))) rfl ?_
  refine Ac9 (i := 10) rfl (by kernel_rfl) (by kernel_rfl) (Aa3 rfl (.head _) Ag0 rfl) rfl rfl rfl (PanQ.back rfl) (.cons .here rfl (.cons .here rfl (.cons .here rfl (.cons .here rfl .nil)))) rfl ?_
  refine zt ?_
  refine zq 11 rfl (zF rfl AQ3) (fun w hm => Ak6 _ _ _ w) ?_
  refine zB 12 ?_
  refine Bs2 rfl (zF rfl Ba7) rfl rfl rfl (fun w hm => As4 _ _ w) (fun e21 he21 => ?_) (fun v21 hv21 => (Ab1 ?_))
  ·obtain ⟨er21, rfl⟩ := Ah0 he21
   refine AN8 (Sub.skip rfl (Sub.skip rfl (Sub.skip rfl (Sub.skip rfl (Sub.skip rfl (Sub.skip rfl (Sub.skip rfl (Sub.skip rfl (Sub.skip rfl (Sub.skip rfl (Sub.skip rfl (Sub.skip rfl (Ab5 _))))))))))))) (.cons .here rfl (.cons .here rfl (.cons .here rfl (.cons .here rfl .nil)))) ?_
   refine Ab6 ?_
   exact Al7 Ah8 Ak9 (.there .here) (.r2 rfl (.agg rfl (.tail _ (.tail _ (.head _))) Ad7 rfl) (.one rfl (.tail _ (.head _)) Ah4 rfl)) (by simp [b2v, standsX, ha8, er21])
  obtain ⟨ok21, rfl⟩ := Ai5 hv21
  refine zd ?_
  refine Ag3 ?_
  refine st ?_
  refine AN5 (zF rfl BP6) rfl rfl rfl (fun _ => .here) (fun w hm => AP9 p hp q b o cap (0, 0) _ w (hm.at (.head _)) (hS.mono (by decide) hm (by simp)) (hS.ne (by decide) hm (.head _))) (fun e23 he23 o23 => ?_) (fun a23 ha23 => ?_)
  ·refine Ab6 ?_
   exact Al7 Ah8 Ak9 (.there .here) (.r2 rfl (.agg rfl (.tail _ (.tail _ (.head _))) Ad7 rfl) (.one rfl (.tail _ (.head _)) Ah4 rfl)) (by simp [b2v, standsX, ha8, ok21, he23])
  have pb := Bx5 hp ha23
  have n1 := hp.n1
  have hw := ok21
  simp only [within, Bool.and_eq_true, decide_eq_true_eq] at hw
  refine st ?_
  refine At1 17 Al3 (.cons .here rfl (.cons .here rfl (.cons (.there .here) rfl .nil))) ?_
  refine zw 0 ?_
  refine zw 1 ?_
  refine zw 2 ?_
  refine zv 3 rfl (Aa8 rfl rfl Aj5 (by decide) (by decide)) ?_
  refine zw 4 ?_
  refine zw 5 ?_
  refine zv 6 rfl (Val.quo rfl rfl (by omega) (by omega) (IntWalk.i64_in _ (AM7 (by omega) (by omega) (by omega)))) ?_
  refine zw 7 ?_
  refine zw 8 ?_
  refine zw 9 ?_
  refine zv 10 rfl (Aa8 rfl rfl Aj5 (by decide) (by decide)) ?_
  refine zw 11 ?_
  refine zw 12 ?_
  refine zv 13 rfl (Val.quo rfl rfl (by omega) (by omega) (IntWalk.i64_in _ (AM7 (by omega) (by omega) (by omega)))) ?_
  refine zA 14 ?_
  refine Ab9 rfl (Sto.store rfl rfl (.there (.there .here)) Ad7 rfl rfl) rfl rfl (Aa0 (.cons .here rfl (.cons .here rfl (.cons (.there .here) rfl .nil))) (.cons .here rfl (.cons .here rfl (.cons .here rfl .nil))) rfl ?_)
  refine zw 15 ?_
  refine zA 16 ?_
  refine Ab9 rfl (Sto.store rfl rfl (.there (.there .here)) Ag0 rfl rfl) rfl rfl (Aa0 (.cons .here rfl (.cons .here rfl (.cons (.there .here) rfl .nil))) (.cons .here rfl (.cons .here rfl (.cons .here rfl .nil))) rfl ?_)
  refine zt ?_
  refine zp 17 ?_
  refine zB 18 ?_
  refine Ab9 rfl (Sto.store rfl rfl (.there (.there .here)) Ag0 rfl rfl) rfl rfl (Ab1 ?_)
  refine zB 19 ?_
  refine Ab9 rfl (Sto.store rfl rfl (.there .here) Ah4 rfl rfl) rfl rfl (Ab1 ?_)
  refine zd ?_
  refine Ae2 ?_
  refine su ?_
  exact Ah3 Ah8 Ak9 (.r2 rfl (.agg rfl (.tail _ (.tail _ (.head _))) Ad7 rfl) (.one rfl (.tail _ (.head _)) Ah4 rfl)) (by simp [b2v, standsX, ha8, ok21, ha23])
end Go.Proofs.YthbiaipagceokaaGreat
namespace Go.Proofs.YthbiaipagceokaaGreat
open Go Go.Eng Go.Pw1

theorem Bo1 (p : Pr) (hp : p.Ok) (q : Option Addr) (cap : Nat) (pw : Int × Int) (t : Th) (ht : t.Ok) (bv : Nat) (W : World) (hV : W.heap[bv]? = some (.cells (vwCells p q cap pw).toArray 71 (0, 0))) :
    Calls Tryz.prog 120 #[.pointer (some ⟨bv, 0, none⟩), t.v] W (Pure (.bool (!levelS p t)) W) := by
  refine Aa2 Tryz.func120 rfl rfl ?_
  refine st ?_
  refine zn (New.box rfl) (fun b3 => ?_)
  refine zc (zF rfl BB6) (fun w hm => AB3 p hp q cap pw t ht bv w (hm.old_at hV (by simp))) ?_
  exact Aa7 (.r1 rfl (.tmp rfl)) (by first | rfl | simp)
theorem Bb7 (t : Th) (ht : t.Ok) (v : Value) (W : World) :
    Calls Tryz.prog 121 #[v, t.v] W (Pure (.bool (decide ((shift t).2 < 0))) W) := by
  refine Aa2 Tryz.func121 rfl rfl ?_
  refine st ?_
  refine zn (New.box rfl) (fun b3 => ?_)
  refine zc (zF rfl Ak8) (fun w hm => Ae1 t ht w) ?_
  refine lu (Val.field rfl AB5 rfl) ?_
  exact Aa7 (.r1 rfl (.tmp rfl)) (by first | rfl | simp)
theorem Bg6 (p : Pr) (hp : p.Ok) (q : Option Addr) (cap : Nat) (pw : Int × Int) (t : Th) (ht : t.Ok) (bv : Nat) (W : World) (hV : W.heap[bv]? = some (.cells (vwCells p q cap pw).toArray 71 (0, 0))) :
    Calls Tryz.prog 122 #[.pointer (some ⟨bv, 0, none⟩), t.v] W (Pure (.bool (decide (2000 < (shift t).1 ∨ pw.2 < (shift t).1 * p.near))) W) := by
  have n1 := hp.n1
  have n2 := hp.n2
  have n3 := hp.n3
  obtain ⟨hsl, hsu⟩ := Bj0 ht
  have mm := Bw9 hsl (show 0 ≤ p.near by omega) (show p.near ≤ 1073741824 by omega)
  refine Aa2 Tryz.func122 rfl rfl ?_
  refine st ?_
  refine zn (New.box rfl) (fun b3 => ?_)
  refine zc (zF rfl Ak8) (fun w hm => Ae1 t ht w) ?_
  refine lv (Val.field rfl Av0 rfl) ?_
  refine Ae5 15 Al3 (.cons .here rfl .nil) ?_
  refine zw 0 ?_
  refine zw 1 ?_
  refine zw 2 ?_
  refine Ax4 (dj := 11) rfl ?_ ?_
  ·intro g11
   have g11' := g11; clear g11
   try simp only [nH] at g11'
   refine zN 3 ?_
   refine zN 4 ?_
   refine zN 5 ?_
   refine zN 6 ?_
   refine zN 7 ?_
   refine zN 8 ?_
   refine zN 9 ?_
   refine zN 10 ?_
   refine zN 11 ?_
   refine zN 12 ?_
   refine zN 13 ?_
   refine zN 14 ?_
   refine zt ?_
   refine zB 15 ?_
   refine Ag4 rfl rfl rfl rfl (Ab1 ?_)
   refine zp 16 ?_
   refine zp 17 ?_
   refine zd ?_
   refine su ?_
   exact Aa7 (.r1 rfl (.tmp rfl)) (by simp [g11'])
  intro g11
  have g11' := g11; clear g11
  try simp only [nH] at g11'
  refine zw 3 ?_
  refine zw 4 ?_
  refine zw 5 ?_
  refine zw 6 ?_
  refine zw 7 ?_
  refine zv 8 rfl (Aa4 rfl hV (by simp) Ag0 rfl) ?_
  refine zv 9 rfl (Val.mul rfl rfl (IntWalk.i64_in _ ⟨by omega, by omega⟩)) ?_
  refine zw 10 ?_
  refine zw 11 ?_
  refine zw 12 ?_
  refine zv 13 rfl (Aa8 rfl rfl Aj5 (by decide) (by decide)) ?_
  refine zv 14 rfl (Aa4 rfl hV (by simp) Ag0 rfl) ?_
  refine zt ?_
  refine zp 15 ?_
  refine zp 16 ?_
  refine zp 17 ?_
  refine zd ?_
  refine su ?_
  exact Aa7 (.r1 rfl (.tmp rfl)) (by simp [Int.not_lt.2 g11'])
theorem Br8 (t : Th) (v : Value) (W : World) : Calls Tryz.prog 123 #[v, t.v] W (Pure (.bool true) W) := by
  refine Aa2 Tryz.func123 rfl rfl ?_
  refine st ?_
  refine zn (New.box rfl) (fun b3 => ?_)
  exact Aa7 (.r1 rfl (.tmp rfl)) (by first | rfl | simp)
theorem Ax7 (f : FuncId) (x : Value) (t : Th) (v : Value) (b6 b7 : Nat) (W : World) (h6 : W.heap[b6]? = some (.cells [x].toArray 67 (0, 0))) (h7 : W.heap[b7]? = some (.cells t.cells.toArray 36 (0, 0))) (he : Enters Tryz.prog f)
    (hf : ∀ w, Mem W [] [] w → Calls Tryz.prog f #[x, t.v] w (Pure v w)) :
    Calls Tryz.prog 125 #[.func (.func f) #[] #[], .pointer (some ⟨b6, 0, none⟩), .pointer (some ⟨b7, 0, none⟩)] W (Pure v W) := by
  refine Aa2 Tryz.func125 rfl rfl ?_
  refine st ?_
  refine lv (Aa4 rfl h6 (by simp) BR8 rfl) ?_
  refine lv (Ap0 rfl h7 (by simp) Av7 rfl) ?_
  refine Ab3 (Ad1 rfl rfl he) rfl rfl rfl (fun w hm => hf w hm.drop) ?_
  refine su ?_
  exact Aa7 (.r1 rfl (.tmp rfl)) (by first | rfl | simp)
theorem AH8 (l : List (Value × Bool)) (q : Option Addr) (b o cap : Nat) (fn : FuncId) (cp : List Value) (W : World) (hS : Sl W q b o 1 (l.map fun e => [e.1])) (hl : l.length ≤ 100000000000) (he : Enters Tryz.prog fn)
    (hf : ∀ e ∈ l, ∀ w, Mem W [] [] w → Calls Tryz.prog fn ([e.1] ++ cp).toArray w (Pure (.bool e.2) w)) :
    Calls Tryz.prog 124 #[.slice q l.length cap, .func (.func fn) #[] cp.toArray] W (Pure (.int .i64 (idxF (·.2) l)) W) := by
  refine Aa2 Tryz.func124 rfl rfl ?_
  refine su ?_
  refine Af5 (l.length) (fun k q => (8, .int .i64 (k : Int)) :: q) (fun _ => _) (fun _ => []) (fun k => (l.take k).any (·.2) = false) (by simp) rfl (zE 8 rfl rfl (zS 0 rfl (zS 1 rfl (zS 7 rfl (Sub.nil _))))) .nil ?_
  intro k kN kI
  refine st ?_
  refine cn rfl ?_ ?_
  ·intro c0'
   have hk : k < l.length := by omega
   refine st ?_
   refine lv (Ab0 rfl rfl Bu8 (by omega) (by omega) (hS.ptrM hk)) ?_
   refine lv (Ab8 rfl (fun w hm => hS.loadM1 (by decide) hm (by simp) BM7 hk (v := l[k].1) rfl)) ?_
   refine Ab3 (Ad1 rfl rfl he) rfl rfl rfl (fun w hm => hf _ (List.getElem_mem hk) w hm.drop) ?_
   refine st ?_
   refine cn rfl ?_ ?_
   ·intro c1'
    refine su ?_
    exact Aa7 (.r1 rfl (.tmp rfl)) (by rw [Ai1 (fun e : Value × Bool => e.2) l k hk kI c1'])
   intro c1'
   refine st ?_
   refine lv (Val.add rfl rfl (IntWalk.i64_in _ ⟨by omega, by omega⟩)) ?_
   exact Ae4 (by omega) (Ah2 (f := fun e : Value × Bool => e.2) hk kI c1') rfl (zE 8 rfl rfl (zS 0 rfl (zS 1 rfl (zS 7 rfl (Sub.nil _))))) .nil
  intro c0'
  obtain rfl : k = l.length := by omega
  rw [List.take_length] at kI
  refine RunC.exit ?_
  refine su ?_
  refine Ab2 ?_
  refine su ?_
  exact Aa7 (.r1 rfl (.tmp rfl)) (by rw [Ag9 (fun e : Value × Bool => e.2) l kI])
end Go.Proofs.YthbiaipagceokaaGreat
