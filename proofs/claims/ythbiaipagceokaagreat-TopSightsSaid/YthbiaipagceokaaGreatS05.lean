/- Walks of the top laws: TopSights. Printed by mk_cq.py. -/
import Derived.Test.YthbiaipagceokaaGreatS04
set_option linter.unusedSimpArgs false
set_option linter.unusedVariables false
set_option linter.unusedSectionVars false
namespace Go.Ct
open Go Go.Eng Go.Pw1
theorem BH5 {sz n : Nat} {x : Eng.Own} {xs ys : List Value} (h : OwnOk sz x n xs) (hl : ys.length = xs.length) : OwnOk sz x n ys :=
  ⟨by rw [hl]; exact h.len, h.nil, fun b c r e => by
    have := h.cap b c r e
    rw [List.length_append] at this ⊢
    rw [hl]; exact this⟩
theorem Ah9 {sz n : Nat} {x : Eng.Own} {xs : List Value} (h : OwnOk sz x n xs) (hn : 0 < n) : ownQ x = some ⟨ownK x, 0, none⟩ := by
  match x, h with
  | none, h => have := h.nil rfl; omega
  | some _, _ => rfl
theorem BY7 {x : Pr} {k i : Nat} (h : i ≠ k) : addX x (addN x k i) i = addN x k (i + 1) := by rw [addN, if_neg h]
theorem BY8 {x : Pr} {k i : Nat} (h : i = k) : addN x k (i + 1) = addN x k i := by rw [addN, if_pos h]
theorem Bu0 (t : Th) : t.cells.length = 9 := rfl
theorem BS2 (t : Th) : t.cells.all (·.oneCell') = true := rfl
end Go.Ct
namespace Go.Proofs.YthbiaipagceokaaGreat
open Go Go.Eng Go.Ct Go.RowKit
open Go.Pw1 (Th Pr Sp distX b2v isB allS)
open Go.Pw1 (isPair Ag8 Ae6 markP nearerX nearerS thingAt)
set_option maxHeartbeats 2000000 in
theorem AW9 (p : Pr) (wh : Nat) (hwh : wh ≤ 255) (by_ : Int) (hby : 0 ≤ by_ ∧ by_ ≤ 4294967295) (q : Option Addr) (b o cap : Nat) (W : World) (hS : Sl W q b o 9 (p.things.map Th.cells)) :
    Calls Tryz.prog 3 #[p.v q cap, .int .u8 (wh : Int), .int .u32 by_] W (Pure (.bool true) W) := by
  refine Aa2 Tryz.func3 rfl rfl ?_
  refine csr ?_
  refine Ad9 (New.box rfl) rfl rfl rfl (fun b3 => ?_)
  refine vp rfl rfl rfl rfl ?_
  refine nsr ?_
  refine Aa1 (Val.fieldAddr rfl Ar0) rfl rfl rfl ?_
  refine Aa1 (Aa3 rfl (.head _) AJ8 rfl) rfl rfl rfl ?_
  refine Aa1 (Ag7 rfl Aw7) rfl rfl rfl ?_
  refine vp rfl rfl rfl rfl ?_
  refine nnx ?_
  refine RunC.seq ?_
  refine csr ?_
  iterate 3 refine vp rfl rfl rfl rfl ?_
  refine Ad3 (dj := 40) (dp := 43) 3 rfl (fun g40 => by
    have g40' := g40
    try simp only [nH] at g40'
    iterate 3 refine vp rfl rfl rfl rfl ?_
    exact Ac2 (Sub.cons rfl (Sub.skip rfl (Sub.skip rfl (Sub.skip rfl (Ad8 rfl (by rw [g40]) (Ab5 _)))))) (List.Sublist.refl _)
  ) (fun g40 => by
    have g40' := g40
    try simp only [nH] at g40'
    refine Ac6 rfl rfl rfl ?_
    refine Ac6 rfl rfl rfl ?_
    refine vp rfl rfl rfl rfl ?_
    exact Ac2 (Sub.cons rfl (Sub.skip rfl (Sub.skip rfl (Sub.skip rfl (Ad8 rfl (by rw [g40]) (Ab5 _)))))) (List.Sublist.refl _)
  ) ?_
  refine vp rfl rfl rfl rfl ?_
  refine Ad3 (dj := 44) (dp := 48) 4 rfl (fun g44 => by
    have g44' := g44
    try simp only [nH] at g44'
    refine Aa1 (Ac4 rfl (.head _) AJ7 rfl) rfl rfl rfl ?_
    refine Ab3 (Ab7 rfl Cf4) rfl rfl rfl (fun w hm => Be3 p q b o cap w (hS.mono (by decide) hm (by simp)) (by omega)) ?_
    refine vp rfl rfl rfl rfl ?_
    refine vp rfl rfl rfl rfl ?_
    exact Ac2 (Sub.cons rfl (Sub.skip rfl (Sub.skip rfl (Sub.skip rfl (Sub.skip rfl (Ad8 rfl (by rw [g44]) (Ab5 _))))))) (List.Sublist.refl _)
  ) (fun g44 => by
    have g44' := g44
    try simp only [nH] at g44'
    iterate 3 refine Ac6 rfl rfl rfl ?_
    refine vp rfl rfl rfl rfl ?_
    exact Ac2 (Sub.cons rfl (Sub.skip rfl (Sub.skip rfl (Sub.skip rfl (Sub.skip rfl (Ad8 rfl (by rw [g44]) (Ab5 _))))))) (List.Sublist.refl _)
  ) ?_
  refine nnx ?_
  refine RunC.cond rfl ?_ ?_
  ·intro c0
   have c0' := c0; clear c0
   try simp only [nH] at c0'
   refine csr ?_
   refine Ab3 (Ab7 rfl BT9) rfl rfl rfl (fun w hm => Av5 w) ?_
   refine vp rfl rfl rfl rfl ?_
   refine nnx ?_
   refine RunC.ret ?_
   refine Ad6 ?_
   exact Aa7 (.r1 rfl (.tmp rfl)) (by first | rfl | simp)
  intro c0
  have c0' := c0; clear c0
  try simp only [nH] at c0'
  obtain ⟨⟨hl0, hl1⟩, hip⟩ := c0'
  have hp := Ag8 hip
  have hpos : 0 < p.things.length := by omega
  have hl2 : p.things.length ≤ 100000000000 := by omega
  obtain ⟨k, hk0⟩ : ∃ j, wh % p.things.length = j := ⟨_, rfl⟩
  have hk : k < p.things.length := hk0 ▸ Nat.mod_lt _ hpos
  have tk := Aq6 hk
  obtain ⟨t, ht⟩ : ∃ t, p.things[k] = t := ⟨_, rfl⟩
  have hta := Ae6 hk ht
  obtain ⟨⟨⟨d1, d2⟩, e⟩, hdx⟩ : ∃ d, distX p (k : Int) = d := ⟨_, rfl⟩
  refine RunC.skip ?_
  refine RunE.next ?_
  refine csr ?_
  refine vp rfl rfl rfl rfl ?_
  refine Aa1 (Ak4 rfl BR6 Bn7 (IntWalk.i64_in _ ⟨by omega, by omega⟩)) rfl rfl rfl ?_
  refine vp rfl rfl rfl rfl ?_
  refine Aa1 (BM1 (a := wh) (b := p.things.length) rfl rfl hpos) rfl rfl rfl ?_
  refine vp rfl rfl rfl rfl ?_
  refine nsr ?_
  simp only [hk0]
  refine Aa1 (Ac4 rfl (.head _) AJ7 rfl) rfl rfl rfl ?_
  refine vp rfl rfl rfl rfl ?_
  refine Ab3 (Ab7 rfl BL0) rfl rfl rfl (fun w hm => (show Calls Tryz.prog 6 #[p.v q cap, .int .i64 (k : Int)] w (Pure (.tuple #[.agg #[.int .i64 d1, .int .i64 d2], .int .i64 e]) w) from (by have h9 := Am3 p (k : Int) q b o cap w (hS.mono (by decide) hm (by simp)) hl2; rw [hdx] at h9; exact h9))) ?_
  iterate 3 refine vp rfl rfl rfl rfl ?_
  refine Ad9 (New.alloc Ac7) rfl rfl rfl (fun b9 => ?_)
  refine Aa9 (Sto.store rfl rfl .here Ad7 rfl rfl) rfl rfl ?_
  refine vp rfl rfl rfl rfl ?_
  refine nnx ?_
  refine RunC.seq ?_
  refine csr ?_
  refine vp rfl rfl rfl rfl ?_
  refine vp rfl rfl rfl rfl ?_
  refine nnx ?_
  refine RunC.cond rfl ?_ ?_
  ·intro c1
   have c1' := c1; clear c1
   try simp only [nH] at c1'
   obtain ⟨z1, z2⟩ := BX0 hp tk (by rw [hdx]; exact c1')
   rw [hdx] at z1 z2
   dsimp only at z1 z2
   cases z1
   refine csr ?_
   refine Aa1 (Ac4 rfl (.head _) Ad7 rfl) rfl rfl rfl ?_
   refine Aa1 (Val.build (parts := []) rfl Ac7 Ah7 rfl) rfl rfl rfl ?_
   refine Aa1 (An7 rfl rfl Ap4) rfl rfl rfl ?_
   refine vp rfl rfl rfl rfl ?_
   refine Ac3 (dj := 65) (dp := 72) 7 rfl (fun g65 => by
     have g65' := g65
     try simp only [nH] at g65'
     iterate 3 refine vp rfl rfl rfl rfl ?_
     refine Ad3 (dj := 68) (dp := 71) 3 rfl (fun g68 => by
       have g68' := g68
       try simp only [nH] at g68'
       iterate 3 refine vp rfl rfl rfl rfl ?_
       exact Ac2 (Sub.cons rfl (Sub.skip rfl (Sub.skip rfl (Sub.skip rfl (Ad8 rfl (by rw [g68]) (Ab5 _)))))) (List.Sublist.refl _)
     ) (fun g68 => by
       have g68' := g68
       try simp only [nH] at g68'
       refine Ac6 rfl rfl rfl ?_
       refine Ac6 rfl rfl rfl ?_
       refine vp rfl rfl rfl rfl ?_
       exact Ac2 (Sub.cons rfl (Sub.skip rfl (Sub.skip rfl (Sub.skip rfl (Ad8 rfl (by rw [g68]) (Ab5 _)))))) (List.Sublist.refl _)
     ) ?_
     refine vp rfl rfl rfl rfl ?_
     exact Ac2 (Sub.cons rfl (Sub.skip rfl (Sub.skip rfl (Sub.skip rfl (Sub.skip rfl (Sub.skip rfl (Ad8 rfl (by rw [g65]) (Ab5 _)))))))) (List.Sublist.refl _)
   ) (fun g65 => by
     have g65' := g65
     try simp only [nH] at g65'
     iterate 6 refine Ac6 rfl rfl rfl ?_
     refine vp rfl rfl rfl rfl ?_
     exact Ac2 (Sub.cons rfl (Sub.skip rfl (Sub.skip rfl (Sub.skip rfl (Sub.skip rfl (Sub.skip rfl (Sub.skip rfl (Sub.skip rfl (Ad8 rfl (by rw [g65]) (Ab5 _)))))))))) (List.Sublist.refl _)
   ) ?_
   refine vp rfl rfl rfl rfl ?_
   refine Ac3 (dj := 73) (dp := 75) 2 rfl (fun g73 => by
     have g73' := g73
     try simp only [nH] at g73'
     refine Ab3 (Ab7 rfl BT9) rfl rfl rfl (fun w hm => Av5 w) ?_
     refine vp rfl rfl rfl rfl ?_
     exact Ac2 (Sub.cons rfl (Sub.skip rfl (Sub.skip rfl (Ad8 rfl (by rw [g73]) (Ab5 _))))) (List.Sublist.refl _)
   ) (fun g73 => by
     have g73' := g73
     try simp only [nH] at g73'
     refine Ac6 rfl rfl rfl ?_
     refine vp rfl rfl rfl rfl ?_
     exact Ac2 (Sub.cons rfl (Sub.skip rfl (Sub.skip rfl (Ad8 rfl (by rw [g73]) (Ab5 _))))) (List.Sublist.refl _)
   ) ?_
   refine vp rfl rfl rfl rfl ?_
   refine nnx ?_
   refine RunC.ret ?_
   refine Ad6 ?_
   exact Aa7 (.r1 rfl (.tmp rfl)) (by rcases z2 with rfl | rfl <;> simp)
  intro c1
  have c1' := c1; clear c1
  try simp only [nH] at c1'
  have he0 : e = 0 := c1'
  subst he0
  have hr := AU4 (p := p) (n := (k : Int)) (by rw [hdx])
  rw [hdx] at hr
  dsimp only at hr
  have n1 := hp.n1
  have n3 := hp.n3
  have hr1 := Int.emod_nonneg by_ (show d2 - d1 + 1 ≠ 0 by omega)
  have hr2 := Int.emod_lt_of_pos by_ (show 0 < d2 - d1 + 1 by omega)
  refine RunC.skip ?_
  refine RunE.next ?_
  refine RunC.seq ?_
  refine csr ?_
  refine Aa1 (Val.fieldAddr rfl Aj3) rfl rfl rfl ?_
  refine Aa1 (Aa3 rfl (.head _) Ag0 rfl) rfl rfl rfl ?_
  refine vp rfl rfl rfl rfl ?_
  refine vp rfl rfl rfl rfl ?_
  refine Ad3 (dj := 79) (dp := 85) 6 rfl (fun g79 => by
    have g79' := g79
    try simp only [nH] at g79'
    refine Aa1 (Val.fieldAddr rfl Aj3) rfl rfl rfl ?_
    refine Aa1 (Aa3 rfl (.head _) Ag0 rfl) rfl rfl rfl ?_
    refine Aa1 (Val.fieldAddr rfl Ah5) rfl rfl rfl ?_
    refine Aa1 (Aa3 rfl (.head _) Ag0 rfl) rfl rfl rfl ?_
    refine vp rfl rfl rfl rfl ?_
    refine vp rfl rfl rfl rfl ?_
    exact Ac2 (Sub.cons rfl (Sub.skip rfl (Sub.skip rfl (Sub.skip rfl (Sub.skip rfl (Sub.skip rfl (Sub.skip rfl (Ad8 rfl (by rw [g79]) (Ab5 _))))))))) (List.Sublist.refl _)
  ) (fun g79 => by
    have g79' := g79
    try simp only [nH] at g79'
    iterate 5 refine Ac6 rfl rfl rfl ?_
    refine vp rfl rfl rfl rfl ?_
    exact Ac2 (Sub.cons rfl (Sub.skip rfl (Sub.skip rfl (Sub.skip rfl (Sub.skip rfl (Sub.skip rfl (Sub.skip rfl (Ad8 rfl (by rw [g79]) (Ab5 _))))))))) (List.Sublist.refl _)
  ) ?_
  refine nnx ?_
  refine RunC.cond rfl (fun h => absurd h (by simp; omega)) ?_
  intro c2
  clear c2
  refine RunC.skip ?_
  refine RunE.next ?_
  refine csr ?_
  refine Aa1 (Ac4 rfl (.tail _ (.head _)) AJ7 rfl) rfl rfl rfl ?_
  refine Ad9 (New.alloc Bd2) rfl rfl rfl (fun b11 => ?_)
  refine Aa9 (Sto.store rfl rfl .here AJ7 rfl rfl) rfl rfl ?_
  refine nsr ?_
  refine Ad9 (Ax5 Aw7) rfl rfl rfl (fun b87 => ?_)
  refine Aa1 (Val.fieldAddr rfl Ar0) rfl rfl rfl ?_
  refine Aa1 (Aa3 rfl (.tail _ (.tail _ (.tail _ (.head _)))) AJ8 rfl) rfl rfl rfl ?_
  refine As9 (Ab5 _) (.cons (.there .here) rfl (.cons (.there .here) rfl (.cons (.there .here) rfl (.cons .here rfl .nil)))) ?_
  refine RunL.append (A := [(b11, _), (b9, _), (b3, _)]) (B := _) (x := (some (b87, 0, []))) (ys := (p.things.map Th.cells).flatten) Cf9 rfl rfl rfl OwnOk.empty (Ay8 Bu0 _) (fun h => by have h2 := hS.ptrM hk; rw [h] at h2; cases h2) (fun w hm => (hS.mono (by decide) hm (by simp)).flat (by decide)) (Bj8 BS2 _) (by simp only [maxLen]; omega) (by omega) rfl (fun z90 hz90 => ?_)
  obtain ⟨bz90, cz90, rz90, rfl, lz901, lz902, lz903⟩ := hz90.has (by omega)
  refine Aa1 (Val.fieldAddr rfl Ar0) rfl rfl rfl ?_
  refine Aa9 (Sto.store rfl rfl .here AJ8 rfl rfl) rfl rfl ?_
  refine nnx ?_
  refine RunC.seq ?_
  refine Ae5 15 Al3 (.cons .here rfl (.cons .here rfl (.cons .here rfl (.cons .here rfl .nil)))) ?_
  refine va 0 rfl (Val.fieldAddr rfl Ar0) rfl rfl rfl (.cons .here rfl (.cons .here rfl (.cons .here rfl (.cons .here rfl .nil)))) rfl ?_
  refine va 1 rfl (Aa3 rfl (.head _) AJ8 rfl) rfl rfl rfl (.cons .here rfl (.cons .here rfl (.cons .here rfl (.cons .here rfl .nil)))) rfl ?_
  refine va 2 rfl (Aa5 rfl) rfl rfl rfl (.cons .here rfl (.cons .here rfl (.cons .here rfl (.cons .here rfl .nil)))) rfl ?_
  refine va 3 rfl (Val.fieldAddr rfl Aj3) rfl rfl rfl (.cons .here rfl (.cons .here rfl (.cons .here rfl (.cons .here rfl .nil)))) rfl ?_
  refine va 4 rfl (Aa3 rfl (.tail _ (.head _)) Ag0 rfl) rfl rfl rfl (.cons .here rfl (.cons .here rfl (.cons .here rfl (.cons .here rfl .nil)))) rfl ?_
  refine va 5 rfl (Aa5 rfl) rfl rfl rfl (.cons .here rfl (.cons .here rfl (.cons .here rfl (.cons .here rfl .nil)))) rfl ?_
  refine va 6 rfl (Ak4 rfl BZ2 Bn7 (IntWalk.i64_in _ ⟨by omega, by omega⟩)) rfl rfl rfl (.cons .here rfl (.cons .here rfl (.cons .here rfl (.cons .here rfl .nil)))) rfl ?_
  refine va 7 rfl (Val.fieldAddr rfl Ah5) rfl rfl rfl (.cons .here rfl (.cons .here rfl (.cons .here rfl (.cons .here rfl .nil)))) rfl ?_
  refine va 8 rfl (Aa3 rfl (.tail _ (.head _)) Ag0 rfl) rfl rfl rfl (.cons .here rfl (.cons .here rfl (.cons .here rfl (.cons .here rfl .nil)))) rfl ?_
  refine va 9 rfl (Val.fieldAddr rfl Aj3) rfl rfl rfl (.cons .here rfl (.cons .here rfl (.cons .here rfl (.cons .here rfl .nil)))) rfl ?_
  refine va 10 rfl (Aa3 rfl (.tail _ (.head _)) Ag0 rfl) rfl rfl rfl (.cons .here rfl (.cons .here rfl (.cons .here rfl (.cons .here rfl .nil)))) rfl ?_
  refine va 11 rfl (Af3 rfl rfl (IntWalk.i64_in _ ⟨by omega, by omega⟩)) rfl rfl rfl (.cons .here rfl (.cons .here rfl (.cons .here rfl (.cons .here rfl .nil)))) rfl ?_
  refine va 12 rfl (Val.add rfl rfl (IntWalk.i64_in _ ⟨by omega, by omega⟩)) rfl rfl rfl (.cons .here rfl (.cons .here rfl (.cons .here rfl (.cons .here rfl .nil)))) rfl ?_
  refine va 13 rfl (Val.rem rfl rfl (by omega) (by omega)) rfl rfl rfl (.cons .here rfl (.cons .here rfl (.cons .here rfl (.cons .here rfl .nil)))) rfl ?_
  refine va 14 rfl (Val.add rfl rfl (IntWalk.i64_in _ ⟨by omega, by omega⟩)) rfl rfl rfl (.cons .here rfl (.cons .here rfl (.cons .here rfl (.cons .here rfl .nil)))) rfl ?_
  refine Af4 (by kernel_rfl) ?_
  refine RunB.one (i := 15) (by kernel_rfl) ?_
  refine Ac5 rfl (Ak0 rfl rfl Aw7 (by omega) (by omega)) rfl rfl rfl (Ab1 ?_)
  refine RunB.one (i := 16) (by kernel_rfl) ?_
  refine Ac5 rfl (Val.fieldAddr rfl AI5) rfl rfl rfl (Ab1 ?_)
  refine RunB.one (i := 17) (by kernel_rfl) ?_
  refine Ab9 rfl (Sto.store (cs := (p.things.map Th.cells).flatten ++ rz90) (cs' := ((p.things.set k { t with far := d1 + by_ % (d2 - d1 + 1) }).map Th.cells).flatten ++ rz90) rfl rfl (.there (.there (.there .here))) Ag0 rfl (Bp8 Bu0 hk ht (j := 8) (by simp) rfl)) rfl rfl (Ab1 ?_)
  refine RunB.done (by kernel_rfl) ?_
  refine RunE.next ?_
  refine csr ?_
  refine Aa1 (Val.build (parts := [(0, .const (.int .i64 1))]) rfl AS2 AY2 rfl) rfl rfl rfl ?_
  refine Ad9 (New.alloc AS2) rfl rfl rfl (fun b12 => ?_)
  refine Aa9 (Sto.store rfl rfl .here AC4 rfl rfl) rfl rfl ?_
  refine nsr ?_
  refine Ad9 (New.alloc BR4) rfl rfl rfl (fun b13 => ?_)
  refine nsr ?_
  refine Ad9 (New.alloc BR3) rfl rfl rfl (fun b14 => ?_)
  refine nsr ?_
  obtain ⟨F, hF⟩ : ∃ F, d1 + by_ % (d2 - d1 + 1) = F := ⟨_, rfl⟩
  rw [hF]
  obtain ⟨hxo, hw, hF0⟩ := Av8 hk (by rw [hdx]) (F := F) (by rw [hdx]; show d1 ≤ F; omega) (by rw [hdx]; show F ≤ d2; omega)
  have hxf := Bq2 hk F
  have hxl := BI6 p k F
  have hxt := BT2 hk ht F
  rw [← hxt]
  have hxc : xO (markP p k F) (some (bz90, cz90, rz90)) = .cells [.int .i64 p.focal.lo, .int .i64 p.focal.hi, .int .i64 p.base.lo, .int .i64 p.base.hi, .int .i64 p.tilt, .int .i64 p.near, .int .i64 p.far, ownV (some (bz90, cz90, rz90)) (0 + p.things.length)].toArray 26 (0, 0) := by
    simp only [xO, Pr.cells, hxl, Nat.zero_add]; rfl
  have hzx : OwnOk 9 (some (bz90, cz90, rz90)) (markP p k F).things.length ((markP p k F).things.map Th.cells).flatten := by
    rw [hxl]; rw [Nat.zero_add, List.nil_append] at hz90; exact BH5 hz90 (by rw [Ay8 (f := Th.cells) (sz := 9) (fun _ => rfl), Ay8 (f := Th.cells) (sz := 9) (fun _ => rfl), hxl])
  have hzB : [(bz90, Obj.cells (((markP p k F).things.map Th.cells).flatten ++ rz90).toArray 36 (0, 0))] = ownB 36 (some (bz90, cz90, rz90)) ((markP p k F).things.map Th.cells).flatten := rfl
  obtain ⟨x, hxd⟩ : ∃ x, markP p k F = x := ⟨_, rfl⟩
  rw [hxd] at hxo hw hxf hxl hxt hxc hzx hzB ⊢
  refine As9 (Ab5 _) (news' := (b11, xO x (some (bz90, cz90, rz90))) :: (b12, .cells [Value.int .i64 1, .slice none 0 0].toArray 39 (0, 0)) :: (b13, .cells [Value.slice none 0 0].toArray 40 (0, 0)) :: (b14, .cells [Value.slice none 0 0].toArray 41 (0, 0)) :: (ownB 36 (some (bz90, cz90, rz90)) (x.things.map Th.cells).flatten ++ [])) (by rw [hxc, ← hzB]; exact Pick.cnt fun v => by simp only [nC, azM]; omega) ?_
  obtain ⟨zx, hzd⟩ : ∃ z : Eng.Own, (some (bz90, cz90, rz90)) = z := ⟨_, rfl⟩
  rw [hzd] at hzx ⊢
  have hxs : ∀ w, (∀ b o, (b, o) ∈ ownB 36 zx (x.things.map Th.cells).flatten → w.heap[b]? = some o) → Sl w (ownQ zx) (ownK zx) 0 9 (x.things.map Th.cells) := fun w h => Ai6 (f := Th.cells) (fun _ => rfl) (by decide) hzx h
  have hkx : k < x.things.length := by omega
  have hdk := BC4 hxo hw hkx (by rw [hxf]; exact hF0)
  rw [hxf] at hdk
  have hxlen := hxo.len
  have hs0 : addX x ⟨[], []⟩ k = ⟨[k], [⟨F, F⟩]⟩ := by rw [AI9 (by rw [hdk]) (by decide)]; unfold spD; rw [hdk]; rfl
  have hz0 : AzOk x ⟨⟨[], []⟩, none, none, none⟩ := ⟨AsOk.nil x, OwnOk.start, OwnOk.start, OwnOk.start⟩
  have hxk : x.things[k] = { t with far := F } := by simp only [hxt, List.getElem_set_self]
  refine vp rfl rfl rfl rfl ?_
  refine vp rfl rfl rfl rfl ?_
  refine nnx ?_
  refine RunC.seq ?_
  refine RunC.seq ?_
  refine Ap2 (X := AZ) 26 (n0 := [(b11, _)]) (fun y q => (138, .bool false) :: q) (fun y => []) (fun y => [(b12, .cells [Value.int .i64 ((y.s.sp.length + 1 : Nat) : Int), ownV y.oc y.s.sp.length].toArray 39 (0, 0)), (b13, .cells [ownV y.ot y.s.th.length].toArray 40 (0, 0)), (b14, .cells [ownV y.os y.s.sp.length].toArray 41 (0, 0))]) (fun y => ownB 36 zx (x.things.map Th.cells).flatten ++ (ownB 3 y.ot ((y.s.th).map thC).flatten ++ (ownB 23 y.os ((y.s.sp).map spC).flatten ++ (ownB 43 y.oc ((stS y.s.sp).map Sg.cells).flatten ++ [])))) (fun y => AzOk x y ∧ y.s = addN x k 0) Al3 (.cons .here rfl (Pick.skip (Pick.skip (Pick.skip (Pick.refl _))))) (Sub.cons (t := 7) rfl (Sub.cons (t := 8) rfl (Sub.cons (t := 11) rfl (Sub.cons (t := 12) rfl (Sub.cons (t := 13) rfl (Sub.cons (t := 14) rfl (Sub.cons (t := 15) rfl (Sub.nil _)))))))) (.cons .here rfl .nil) ?_ ?_
  ·refine va 0 rfl (Aa5 rfl) rfl rfl rfl (.cons .here rfl (Pick.skip (Pick.skip (Pick.skip (Pick.refl _))))) rfl ?_
   refine va 1 rfl (Aa5 rfl) rfl rfl rfl (.cons .here rfl (Pick.skip (Pick.skip (Pick.skip (Pick.refl _))))) rfl ?_
   refine RunA.one (i := 2) (by kernel_rfl) (by kernel_rfl) ?_
   refine Bs3 rfl (Ad1 rfl rfl Cb5) rfl rfl rfl (fun w hm => (Bb5 (nw' := fun y : AZ => (b11, xO x zx) :: (b12, .cells [Value.int .i64 ((y.s.sp.length + 1 : Nat) : Int), ownV y.oc y.s.sp.length].toArray 39 (0, 0)) :: (b13, .cells [ownV y.ot y.s.th.length].toArray 40 (0, 0)) :: (b14, .cells [ownV y.os y.s.sp.length].toArray 41 (0, 0)) :: (ownB 36 zx (x.things.map Th.cells).flatten ++ (ownB 3 y.ot ((y.s.th).map thC).flatten ++ (ownB 23 y.os ((y.s.sp).map spC).flatten ++ (ownB 43 y.oc ((stS y.s.sp).map Sg.cells).flatten ++ []))))) (Bb8 x hxo hw b11 b12 b13 b14 zx hzx ⟨⟨[], []⟩, none, none, none⟩ hz0 k hkx W [] w (show Mem W [] (azM x zx b11 b12 b13 b14 ⟨⟨[], []⟩, none, none, none⟩ []) w from (hm.pick (news' := (b11, xO x zx) :: (b12, .cells [Value.int .i64 1, .slice none 0 0].toArray 39 (0, 0)) :: (b13, .cells [Value.slice none 0 0].toArray 40 (0, 0)) :: (b14, .cells [Value.slice none 0 0].toArray 41 (0, 0)) :: (ownB 36 zx (x.things.map Th.cells).flatten ++ [])) (Pick.cnt fun x => by simp only [nC, azM]; omega)))) (fun _ => (Pick.cnt fun x => by simp only [nC, azM]; omega)))) (fun z113 hz113 => (Aa0 (.cons .here rfl (Pick.cnt fun x => by simp only [nC, azM]; omega)) (.cons .here rfl (Pick.refl _)) rfl ?_))
   have hl1t : z113.s.th.length = 1 := by rw [hz113.2, hs0]; rfl
   have hl1s : z113.s.sp.length = 1 := by rw [hz113.2, hs0]; rfl
   have hl1 : z113.s.sp[0] = ⟨F, F⟩ := by simp only [hz113.2, hs0]; rfl
   refine va 3 rfl (Aa5 rfl) rfl rfl rfl (.cons .here rfl (Pick.cnt fun x => by simp only [nC, azM]; omega)) rfl ?_
   refine va 4 rfl (Aa5 rfl) rfl rfl rfl (.cons .here rfl (Pick.cnt fun x => by simp only [nC, azM]; omega)) rfl ?_
   refine Aj7 (dj := 115) false rfl (by simp) ?_
   refine RunA.one (i := 5) (by kernel_rfl) (by kernel_rfl) ?_
   refine Ac5 rfl (Aa3 rfl (.tail _ (.tail _ (.head _))) AC3 rfl) rfl rfl rfl (Aa0 (.cons .here rfl (Pick.cnt fun x => by simp only [nC, azM]; omega)) (.cons .here rfl (Pick.refl _)) rfl ?_)
   refine va 6 rfl (AB8 rfl Am6 hz113.1.ot) rfl rfl rfl (.cons .here rfl (Pick.cnt fun x => by simp only [nC, azM]; omega)) rfl ?_
   refine va 7 rfl (Aa5 rfl) rfl rfl rfl (.cons .here rfl (Pick.cnt fun x => by simp only [nC, azM]; omega)) rfl ?_
   refine va 8 rfl (Aa5 rfl) rfl rfl rfl (.cons .here rfl (Pick.cnt fun x => by simp only [nC, azM]; omega)) rfl ?_
   refine va 9 rfl (Aa5 rfl) rfl rfl rfl (.cons .here rfl (Pick.cnt fun x => by simp only [nC, azM]; omega)) rfl ?_
   refine Aj7 (dj := 120) false rfl (by simp [hl1t]) ?_
   refine va 13 rfl (Val.fieldAddr rfl Ar0) rfl rfl rfl (.cons .here rfl (Pick.cnt fun x => by simp only [nC, azM]; omega)) rfl ?_
   refine va 14 rfl (Aa3 rfl (.head _) AJ8 rfl) rfl rfl rfl (.cons .here rfl (Pick.cnt fun x => by simp only [nC, azM]; omega)) rfl ?_
   refine va 15 rfl (Aa5 rfl) rfl rfl rfl (.cons .here rfl (Pick.cnt fun x => by simp only [nC, azM]; omega)) rfl ?_
   refine va 16 rfl (Ab0 rfl rfl Aw7 (by omega) (by omega) (Ah9 hzx (by omega))) rfl rfl rfl (.cons .here rfl (Pick.cnt fun x => by simp only [nC, azM]; omega)) rfl ?_
   refine va 17 rfl (Val.fieldAddr rfl AI5) rfl rfl rfl (.cons .here rfl (Pick.cnt fun x => by simp only [nC, azM]; omega)) rfl ?_
   refine va 18 rfl (Ab8 rfl (fun w hm => (hxs w (fun _ _ h => hm.at (.tail _ ((by first | exact List.mem_append_left _ h | exact List.mem_append_right _ (List.mem_append_left _ h)))))).cellX (Mem.refl w) (by simp) Ag0 hkx hxk (j := 8) (by decide) rfl)) rfl rfl rfl (.cons .here rfl (Pick.cnt fun x => by simp only [nC, azM]; omega)) rfl ?_
   refine va 19 rfl (Val.fieldAddr rfl Ar0) rfl rfl rfl (.cons .here rfl (Pick.cnt fun x => by simp only [nC, azM]; omega)) rfl ?_
   refine va 20 rfl (Aa3 rfl (.head _) AJ8 rfl) rfl rfl rfl (.cons .here rfl (Pick.cnt fun x => by simp only [nC, azM]; omega)) rfl ?_
   refine va 21 rfl (Aa5 rfl) rfl rfl rfl (.cons .here rfl (Pick.cnt fun x => by simp only [nC, azM]; omega)) rfl ?_
   refine va 22 rfl (Ab0 rfl rfl Aw7 (by omega) (by omega) (Ah9 hzx (by omega))) rfl rfl rfl (.cons .here rfl (Pick.cnt fun x => by simp only [nC, azM]; omega)) rfl ?_
   refine va 23 rfl (Val.fieldAddr rfl AI5) rfl rfl rfl (.cons .here rfl (Pick.cnt fun x => by simp only [nC, azM]; omega)) rfl ?_
   refine va 24 rfl (Ab8 rfl (fun w hm => (hxs w (fun _ _ h => hm.at (.tail _ ((by first | exact List.mem_append_left _ h | exact List.mem_append_right _ (List.mem_append_left _ h)))))).cellX (Mem.refl w) (by simp) Ag0 hkx hxk (j := 8) (by decide) rfl)) rfl rfl rfl (.cons .here rfl (Pick.cnt fun x => by simp only [nC, azM]; omega)) rfl ?_
   refine Ae8 (rs := [10, 25]) (by kernel_rfl) (by simp) (by kernel_rfl) (fun m hm => ?_)
   simp only [List.mem_cons, List.not_mem_nil, or_false] at hm
   rcases hm with rfl | rfl
   ·refine Ac5 rfl (Aa3 rfl (.tail _ (.tail _ (.tail _ (.head _)))) AW3 rfl) rfl rfl rfl (Aa0 (.cons .here rfl (Pick.cnt fun x => by simp only [nC, azM]; omega)) (.cons .here rfl (Pick.refl _)) rfl ?_)
    refine Ae8 (rs := [11, 25]) (by kernel_rfl) (by simp) (by kernel_rfl) (fun m hm => ?_)
    simp only [List.mem_cons, List.not_mem_nil, or_false] at hm
    rcases hm with rfl | rfl
    ·refine Ac5 rfl (Ab0 (by show some (ownV z113.os z113.s.sp.length) = _; rw [Af8 hz113.1.os]) rfl AH7 (by omega) (by omega) (Ah9 hz113.1.os (by omega))) rfl rfl rfl (Aa0 (.cons .here rfl (Pick.cnt fun x => by simp only [nC, azM]; omega)) (.cons .here rfl (Pick.refl _)) rfl ?_)
     refine Ae8 (rs := [12, 25]) (by kernel_rfl) (by simp) (by kernel_rfl) (fun m hm => ?_)
     simp only [List.mem_cons, List.not_mem_nil, or_false] at hm
     rcases hm with rfl | rfl
     ·refine Ac5 rfl (Ab8 rfl (fun w hm => (Ai6 (f := spC) (fun _ => rfl) (by decide) hz113.1.os (fun _ _ h => hm.at (.tail _ (.tail _ (.tail _ (.tail _ ((by first | exact List.mem_append_right _ (List.mem_append_right _ (List.mem_append_left _ h)) | exact List.mem_append_right _ (List.mem_append_right _ (List.mem_append_right _ (List.mem_append_left _ h))))))))))).loadX (by decide) (Mem.refl w) (by simp) Ad7 (show 0 < z113.s.sp.length by omega) hl1)) rfl rfl rfl (Aa0 (.cons .here rfl (Pick.cnt fun x => by simp only [nC, azM]; omega)) (.cons .here rfl (Pick.refl _)) rfl ?_)
      refine RunA.one (i := 25) (by kernel_rfl) (by kernel_rfl) ?_
      refine Ab4 rfl (Ab7 rfl Ax0) rfl rfl rfl (fun w hm => Af2 _ _ w) (Aa0 (.cons .here rfl (Pick.cnt fun x => by simp only [nC, azM]; omega)) (.cons .here rfl (Pick.refl _)) rfl ?_)
      refine Af4 (by kernel_rfl) ?_
      refine RunB.one (i := 26) (by kernel_rfl) ?_
      refine Ac5 rfl (Aj0 rfl rfl Ap4) rfl rfl rfl (Ab1 ?_)
      refine RunB.one (i := 27) (by kernel_rfl) ?_
      refine Ac5 rfl (Aa5 rfl) rfl rfl rfl (Ab1 ?_)
      refine RunB.done (by kernel_rfl) ?_
      exact Ag1 z113 hz113 rfl (Ad4 (t := 138) rfl (by simp) (Sub.cons (t := 7) rfl (Sub.cons (t := 8) rfl (Sub.cons (t := 11) rfl (Sub.cons (t := 12) rfl (Sub.cons (t := 13) rfl (Sub.cons (t := 14) rfl (Sub.cons (t := 15) rfl (Sub.nil _))))))))) (.cons (.there .here) rfl (.cons (.there .here) rfl (.cons (.there .here) rfl (.cons .here rfl (Pick.cnt fun v => by simp only [nC, azM]; omega)))))
     refine Ab4 rfl (Ab7 rfl Ax0) rfl rfl rfl (fun w hm => Af2 _ _ w) (Aa0 (.cons .here rfl (Pick.cnt fun x => by simp only [nC, azM]; omega)) (.cons .here rfl (Pick.refl _)) rfl ?_)
     refine RunA.one (i := 12) (by kernel_rfl) (by kernel_rfl) ?_
     refine Ac5 rfl (Ab8 rfl (fun w hm => (Ai6 (f := spC) (fun _ => rfl) (by decide) hz113.1.os (fun _ _ h => hm.at (.tail _ (.tail _ (.tail _ (.tail _ ((by first | exact List.mem_append_right _ (List.mem_append_right _ (List.mem_append_left _ h)) | exact List.mem_append_right _ (List.mem_append_right _ (List.mem_append_right _ (List.mem_append_left _ h))))))))))).loadX (by decide) (Mem.refl w) (by simp) Ad7 (show 0 < z113.s.sp.length by omega) hl1)) rfl rfl rfl (Aa0 (.cons .here rfl (Pick.cnt fun x => by simp only [nC, azM]; omega)) (.cons .here rfl (Pick.refl _)) rfl ?_)
     refine Af4 (by kernel_rfl) ?_
     refine RunB.one (i := 26) (by kernel_rfl) ?_
     refine Ac5 rfl (Aj0 rfl rfl Ap4) rfl rfl rfl (Ab1 ?_)
     refine RunB.one (i := 27) (by kernel_rfl) ?_
     refine Ac5 rfl (Aa5 rfl) rfl rfl rfl (Ab1 ?_)
     refine RunB.done (by kernel_rfl) ?_
     exact Ag1 z113 hz113 rfl (Ad4 (t := 138) rfl (by simp) (Sub.cons (t := 7) rfl (Sub.cons (t := 8) rfl (Sub.cons (t := 11) rfl (Sub.cons (t := 12) rfl (Sub.cons (t := 13) rfl (Sub.cons (t := 14) rfl (Sub.cons (t := 15) rfl (Sub.nil _))))))))) (.cons (.there .here) rfl (.cons (.there .here) rfl (.cons (.there .here) rfl (.cons .here rfl (Pick.cnt fun v => by simp only [nC, azM]; omega)))))
    refine Ab4 rfl (Ab7 rfl Ax0) rfl rfl rfl (fun w hm => Af2 _ _ w) (Aa0 (.cons .here rfl (Pick.cnt fun x => by simp only [nC, azM]; omega)) (.cons .here rfl (Pick.refl _)) rfl ?_)
    refine RunA.one (i := 11) (by kernel_rfl) (by kernel_rfl) ?_
    refine Ac5 rfl (Ab0 (by show some (ownV z113.os z113.s.sp.length) = _; rw [Af8 hz113.1.os]) rfl AH7 (by omega) (by omega) (Ah9 hz113.1.os (by omega))) rfl rfl rfl (Aa0 (.cons .here rfl (Pick.cnt fun x => by simp only [nC, azM]; omega)) (.cons .here rfl (Pick.refl _)) rfl ?_)
    refine RunA.one (i := 12) (by kernel_rfl) (by kernel_rfl) ?_
    refine Ac5 rfl (Ab8 rfl (fun w hm => (Ai6 (f := spC) (fun _ => rfl) (by decide) hz113.1.os (fun _ _ h => hm.at (.tail _ (.tail _ (.tail _ (.tail _ ((by first | exact List.mem_append_right _ (List.mem_append_right _ (List.mem_append_left _ h)) | exact List.mem_append_right _ (List.mem_append_right _ (List.mem_append_right _ (List.mem_append_left _ h))))))))))).loadX (by decide) (Mem.refl w) (by simp) Ad7 (show 0 < z113.s.sp.length by omega) hl1)) rfl rfl rfl (Aa0 (.cons .here rfl (Pick.cnt fun x => by simp only [nC, azM]; omega)) (.cons .here rfl (Pick.refl _)) rfl ?_)
    refine Af4 (by kernel_rfl) ?_
    refine RunB.one (i := 26) (by kernel_rfl) ?_
    refine Ac5 rfl (Aj0 rfl rfl Ap4) rfl rfl rfl (Ab1 ?_)
    refine RunB.one (i := 27) (by kernel_rfl) ?_
    refine Ac5 rfl (Aa5 rfl) rfl rfl rfl (Ab1 ?_)
    refine RunB.done (by kernel_rfl) ?_
    exact Ag1 z113 hz113 rfl (Ad4 (t := 138) rfl (by simp) (Sub.cons (t := 7) rfl (Sub.cons (t := 8) rfl (Sub.cons (t := 11) rfl (Sub.cons (t := 12) rfl (Sub.cons (t := 13) rfl (Sub.cons (t := 14) rfl (Sub.cons (t := 15) rfl (Sub.nil _))))))))) (.cons (.there .here) rfl (.cons (.there .here) rfl (.cons (.there .here) rfl (.cons .here rfl (Pick.cnt fun v => by simp only [nC, azM]; omega)))))
   refine Ab4 rfl (Ab7 rfl Ax0) rfl rfl rfl (fun w hm => Af2 _ _ w) (Aa0 (.cons .here rfl (Pick.cnt fun x => by simp only [nC, azM]; omega)) (.cons .here rfl (Pick.refl _)) rfl ?_)
   refine RunA.one (i := 10) (by kernel_rfl) (by kernel_rfl) ?_
   refine Ac5 rfl (Aa3 rfl (.tail _ (.tail _ (.tail _ (.head _)))) AW3 rfl) rfl rfl rfl (Aa0 (.cons .here rfl (Pick.cnt fun x => by simp only [nC, azM]; omega)) (.cons .here rfl (Pick.refl _)) rfl ?_)
   refine RunA.one (i := 11) (by kernel_rfl) (by kernel_rfl) ?_
   refine Ac5 rfl (Ab0 (by show some (ownV z113.os z113.s.sp.length) = _; rw [Af8 hz113.1.os]) rfl AH7 (by omega) (by omega) (Ah9 hz113.1.os (by omega))) rfl rfl rfl (Aa0 (.cons .here rfl (Pick.cnt fun x => by simp only [nC, azM]; omega)) (.cons .here rfl (Pick.refl _)) rfl ?_)
   refine RunA.one (i := 12) (by kernel_rfl) (by kernel_rfl) ?_
   refine Ac5 rfl (Ab8 rfl (fun w hm => (Ai6 (f := spC) (fun _ => rfl) (by decide) hz113.1.os (fun _ _ h => hm.at (.tail _ (.tail _ (.tail _ (.tail _ ((by first | exact List.mem_append_right _ (List.mem_append_right _ (List.mem_append_left _ h)) | exact List.mem_append_right _ (List.mem_append_right _ (List.mem_append_right _ (List.mem_append_left _ h))))))))))).loadX (by decide) (Mem.refl w) (by simp) Ad7 (show 0 < z113.s.sp.length by omega) hl1)) rfl rfl rfl (Aa0 (.cons .here rfl (Pick.cnt fun x => by simp only [nC, azM]; omega)) (.cons .here rfl (Pick.refl _)) rfl ?_)
   refine Af4 (by kernel_rfl) ?_
   refine RunB.one (i := 26) (by kernel_rfl) ?_
   refine Ac5 rfl (Aj0 rfl rfl Ap4) rfl rfl rfl (Ab1 ?_)
   refine RunB.one (i := 27) (by kernel_rfl) ?_
   refine Ac5 rfl (Aa5 rfl) rfl rfl rfl (Ab1 ?_)
   refine RunB.done (by kernel_rfl) ?_
   exact Ag1 z113 hz113 rfl (Ad4 (t := 138) rfl (by simp) (Sub.cons (t := 7) rfl (Sub.cons (t := 8) rfl (Sub.cons (t := 11) rfl (Sub.cons (t := 12) rfl (Sub.cons (t := 13) rfl (Sub.cons (t := 14) rfl (Sub.cons (t := 15) rfl (Sub.nil _))))))))) (.cons (.there .here) rfl (.cons (.there .here) rfl (.cons (.there .here) rfl (.cons .here rfl (Pick.cnt fun v => by simp only [nC, azM]; omega)))))
  intro y yI
  refine RunE.next ?_
  refine Al8 rfl ?_
  refine RunC.skip ?_
  refine RunE.next ?_
  refine RunC.seq ?_
  refine csr ?_
  refine vp rfl rfl rfl rfl ?_
  refine vp rfl rfl rfl rfl ?_
  refine nnx ?_
  refine RunC.block ?_
  refine Al2 (X := AZ) (n0 := [(b11, _)]) (p.things.length) (fun i y q => (140, .int .i64 (i : Int)) :: q) (fun _ _ => _) (fun i y => [(b12, .cells [Value.int .i64 ((y.s.sp.length + 1 : Nat) : Int), ownV y.oc y.s.sp.length].toArray 39 (0, 0)), (b13, .cells [ownV y.ot y.s.th.length].toArray 40 (0, 0)), (b14, .cells [ownV y.os y.s.sp.length].toArray 41 (0, 0))]) (fun i y => ownB 36 zx (x.things.map Th.cells).flatten ++ (ownB 3 y.ot ((y.s.th).map thC).flatten ++ (ownB 23 y.os ((y.s.sp).map spC).flatten ++ (ownB 43 y.oc ((stS y.s.sp).map Sg.cells).flatten ++ [])))) (fun i y => AzOk x y ∧ y.s = addN x k i) y yI rfl (Ad4 (t := 140) rfl rfl (Sub.cons (t := 7) rfl (Sub.cons (t := 8) rfl (Sub.cons (t := 11) rfl (Sub.cons (t := 12) rfl (Sub.cons (t := 13) rfl (Sub.cons (t := 14) rfl (Sub.cons (t := 15) rfl (Sub.cons (t := 139) rfl (Sub.nil _)))))))))) (.cons .here rfl (.cons .here rfl (.cons .here rfl (.cons .here rfl (Pick.same rfl))))) ?_
  intro i y iN iI
  refine csr ?_
  refine vp rfl rfl rfl rfl ?_
  refine nnx ?_
  refine RunC.seq ?_
  refine RunC.cond rfl ?_ ?_
  ·intro c4
   have c4' := c4; clear c4
   try simp only [nH] at c4'
   have hi : i < p.things.length := by omega
   have hix : i < x.things.length := by omega
   refine RunC.skip ?_
   refine RunE.next ?_
   refine RunC.seq ?_
   refine RunC.block ?_
   refine csr ?_
   refine vp rfl rfl rfl rfl ?_
   refine vp rfl rfl rfl rfl ?_
   refine nsr ?_
   iterate 4 refine vp rfl rfl rfl rfl ?_
   refine BD6 (dj := 146) rfl ?_ ?_
   ·intro g146
    have g146' := g146; clear g146
    try simp only [nH] at g146'
    refine vp rfl rfl rfl rfl ?_
    refine vp rfl rfl rfl rfl ?_
    refine Bs1 (Ad1 rfl rfl Cb5) rfl rfl rfl (fun w hm => (Bb5 (nw' := fun y : AZ => (b11, xO x zx) :: (b12, .cells [Value.int .i64 ((y.s.sp.length + 1 : Nat) : Int), ownV y.oc y.s.sp.length].toArray 39 (0, 0)) :: (b13, .cells [ownV y.ot y.s.th.length].toArray 40 (0, 0)) :: (b14, .cells [ownV y.os y.s.sp.length].toArray 41 (0, 0)) :: (ownB 36 zx (x.things.map Th.cells).flatten ++ (ownB 3 y.ot ((y.s.th).map thC).flatten ++ (ownB 23 y.os ((y.s.sp).map spC).flatten ++ (ownB 43 y.oc ((stS y.s.sp).map Sg.cells).flatten ++ []))))) (Bb8 x hxo hw b11 b12 b13 b14 zx hzx y iI.1 i hix W [] w (hm.pick (Pick.cnt fun x => by simp only [nC, azM]; omega))) (fun _ => (Pick.cnt fun x => by simp only [nC, azM]; omega)))) (fun z149 hz149 => ?_)
    
    refine vp rfl rfl rfl rfl ?_
    refine vp rfl rfl rfl rfl ?_
    refine nnx ?_
    refine RunC.cond rfl (fun h => absurd h (by simp)) ?_
    intro c5
    clear c5
    refine RunC.skip ?_
    refine Ad0 ?_
    refine RunE.next ?_
    refine RunC.region ?_
    refine Aa1 (Val.add rfl rfl (IntWalk.i64_in _ ⟨by omega, by omega⟩)) rfl rfl rfl ?_
    refine vp rfl rfl rfl rfl ?_
    refine RunL.nil ?_
    exact Ag2 z149 (by omega) ⟨hz149.1, by rw [hz149.2, iI.2]; exact BY7 (by omega)⟩ rfl (Ad4 (t := 140) rfl rfl (Sub.cons (t := 7) rfl (Sub.cons (t := 8) rfl (Sub.cons (t := 11) rfl (Sub.cons (t := 12) rfl (Sub.cons (t := 13) rfl (Sub.cons (t := 14) rfl (Sub.cons (t := 15) rfl (Sub.cons (t := 139) rfl (Sub.nil _)))))))))) (Pick.cnt fun x => by simp only [nC, azM]; omega)
   intro g146
   have g146' := g146; clear g146
   try simp only [nH] at g146'
   iterate 4 refine Ac6 rfl rfl rfl ?_
   refine vp rfl rfl rfl rfl ?_
   refine nnx ?_
   refine Al8 rfl ?_
   refine RunC.skip ?_
   refine Ad0 ?_
   refine RunE.next ?_
   refine RunC.region ?_
   refine Aa1 (Val.add rfl rfl (IntWalk.i64_in _ ⟨by omega, by omega⟩)) rfl rfl rfl ?_
   refine vp rfl rfl rfl rfl ?_
   refine RunL.nil ?_
   exact Ag2 y (by omega) ⟨iI.1, by rw [iI.2]; exact (BY8 (by omega)).symm⟩ rfl (Ad4 (t := 140) rfl rfl (Sub.cons (t := 7) rfl (Sub.cons (t := 8) rfl (Sub.cons (t := 11) rfl (Sub.cons (t := 12) rfl (Sub.cons (t := 13) rfl (Sub.cons (t := 14) rfl (Sub.cons (t := 15) rfl (Sub.cons (t := 139) rfl (Sub.nil _)))))))))) (Pick.cnt fun x => by simp only [nC, azM]; omega)
  intro c4
  have c4' := c4; clear c4
  try simp only [nH] at c4'
  obtain rfl : i = p.things.length := by omega
  obtain ⟨u, hu⟩ : ∃ u, y = u := ⟨_, rfl⟩
  rw [hu] at iI ⊢
  have uI := iI
  have hfew := uI.1.st.few
  have htl := uI.1.st.len
  have hrng := uI.1.st.rng
  obtain ⟨th9, sp9, hsf⟩ := AR2 (k := k) (x := x) (by rw [hdk]) p.things.length
  rw [← uI.2] at hsf
  have hspk : spD x k = ⟨F, F⟩ := by unfold spD; rw [hdk]
  rw [hspk] at hsf
  have hlen1 : 0 < u.s.sp.length := by rw [hsf]; exact Nat.succ_pos _
  have hsp0 : u.s.sp.getD 0 zSp = ⟨F, F⟩ := by rw [hsf]; rfl
  have hth0 : u.s.th[0]'(by omega) = k := by simp only [hsf]; rfl
  refine RunC.exit ?_
  refine Ac0 ?_
  refine Ac0 ?_
  refine Ab2 ?_
  refine RunE.next ?_
  refine csr ?_
  refine Aa1 (Ac4 rfl (.head _) AC4 rfl) rfl rfl rfl ?_
  refine Bh5 [(b12, _), (b13, _), (b14, _), (b11, _)] _ rfl (Ab7 rfl Cf3) rfl rfl rfl (fun w hm => (Ce6 u.s.sp u.oc hfew hrng uI.1.oc w (fun _ _ h => hm.at (.tail _ (.tail _ (.tail _ (.tail _ ((by first | exact List.mem_append_right _ (List.mem_append_right _ (List.mem_append_right _ (List.mem_append_left _ h))) | exact List.mem_append_right _ (List.mem_append_right _ (List.mem_append_right _ (List.mem_append_right _ (List.mem_append_left _ h))))))))))))) (fun z155 => ?_)
  obtain ⟨z155, hz155⟩ := z155
  dsimp only
  have hzD := hz155
  rw [AE4] at hzD
  iterate 5 refine vp rfl rfl rfl rfl ?_
  refine nsr ?_
  refine Aa1 (Ac4 rfl (.head _) AC4 rfl) rfl rfl rfl ?_
  refine Ab3 (Ab7 rfl Cd2) rfl rfl rfl (fun w hm => (Cg1 u.s.sp u.oc hfew hrng uI.1.oc w (fun _ _ h => hm.at (.tail _ (.tail _ (.tail _ (.tail _ ((by first | exact List.mem_append_right _ (List.mem_append_right _ (List.mem_append_right _ (List.mem_append_right _ (List.mem_append_left _ h)))) | exact List.mem_append_right _ (List.mem_append_right _ (List.mem_append_right _ (List.mem_append_right _ (List.mem_append_right _ (List.mem_append_left _ h)))))))))))))) ?_
  iterate 5 refine vp rfl rfl rfl rfl ?_
  refine nsr ?_
  refine Aa1 (Ac4 rfl (.head _) AC4 rfl) rfl rfl rfl ?_
  refine Ab3 (Ab7 rfl Cd1) rfl rfl rfl (fun w hm => (Ce5 u.s.sp u.oc hfew hrng uI.1.oc w (fun _ _ h => hm.at (.tail _ (.tail _ (.tail _ (.tail _ ((by first | exact List.mem_append_right _ (List.mem_append_right _ (List.mem_append_right _ (List.mem_append_right _ (List.mem_append_left _ h)))) | exact List.mem_append_right _ (List.mem_append_right _ (List.mem_append_right _ (List.mem_append_right _ (List.mem_append_right _ (List.mem_append_left _ h)))))))))))))) ?_
  iterate 5 refine vp rfl rfl rfl rfl ?_
  refine nnx ?_
  refine RunC.seq ?_
  refine csr ?_
  iterate 3 refine vp rfl rfl rfl rfl ?_
  refine Ad3 (dj := 170) (dp := 176) 6 rfl (fun g170 => by
    have g170' := g170
    try simp only [nH] at g170'
    refine vp rfl rfl rfl rfl ?_
    refine Aa1 (AB8 rfl BG7 hzD) rfl rfl rfl ?_
    refine Aa1 (Val.fieldAddr rfl Aj9) rfl rfl rfl ?_
    refine Aa1 (Aa3 rfl (.head _) Ag0 rfl) rfl rfl rfl ?_
    refine vp rfl rfl rfl rfl ?_
    refine vp rfl rfl rfl rfl ?_
    exact Ac2 (Sub.cons rfl (Sub.skip rfl (Sub.skip rfl (Sub.skip rfl (Sub.skip rfl (Sub.skip rfl (Sub.skip rfl (Ad8 rfl (by rw [g170]) (Ab5 _))))))))) (List.Sublist.refl _)
  ) (fun g170 => by
    have g170' := g170
    try simp only [nH] at g170'
    iterate 5 refine Ac6 rfl rfl rfl ?_
    refine vp rfl rfl rfl rfl ?_
    exact Ac2 (Sub.cons rfl (Sub.skip rfl (Sub.skip rfl (Sub.skip rfl (Sub.skip rfl (Sub.skip rfl (Sub.skip rfl (Ad8 rfl (by rw [g170]) (Ab5 _))))))))) (List.Sublist.refl _)
  ) ?_
  refine vp rfl rfl rfl rfl ?_
  refine Ad3 (dj := 177) (dp := 180) 3 rfl (fun g177 => by
    have g177' := g177
    try simp only [nH] at g177'
    iterate 3 refine vp rfl rfl rfl rfl ?_
    exact Ac2 (Sub.cons rfl (Sub.skip rfl (Sub.skip rfl (Sub.skip rfl (Ad8 rfl (by rw [g177]) (Ab5 _)))))) (List.Sublist.refl _)
  ) (fun g177 => by
    have g177' := g177
    try simp only [nH] at g177'
    refine Ac6 rfl rfl rfl ?_
    refine Ac6 rfl rfl rfl ?_
    refine vp rfl rfl rfl rfl ?_
    exact Ac2 (Sub.cons rfl (Sub.skip rfl (Sub.skip rfl (Sub.skip rfl (Ad8 rfl (by rw [g177]) (Ab5 _)))))) (List.Sublist.refl _)
  ) ?_
  refine vp rfl rfl rfl rfl ?_
  refine Ad3 (dj := 181) (dp := 184) 3 rfl (fun g181 => by
    have g181' := g181
    try simp only [nH] at g181'
    iterate 3 refine vp rfl rfl rfl rfl ?_
    exact Ac2 (Sub.cons rfl (Sub.skip rfl (Sub.skip rfl (Sub.skip rfl (Ad8 rfl (by rw [g181]) (Ab5 _)))))) (List.Sublist.refl _)
  ) (fun g181 => by
    have g181' := g181
    try simp only [nH] at g181'
    refine Ac6 rfl rfl rfl ?_
    refine Ac6 rfl rfl rfl ?_
    refine vp rfl rfl rfl rfl ?_
    exact Ac2 (Sub.cons rfl (Sub.skip rfl (Sub.skip rfl (Sub.skip rfl (Ad8 rfl (by rw [g181]) (Ab5 _)))))) (List.Sublist.refl _)
  ) ?_
  refine vp rfl rfl rfl rfl ?_
  refine Ad3 (dj := 185) (dp := 188) 3 rfl (fun g185 => by
    have g185' := g185
    try simp only [nH] at g185'
    iterate 3 refine vp rfl rfl rfl rfl ?_
    exact Ac2 (Sub.cons rfl (Sub.skip rfl (Sub.skip rfl (Sub.skip rfl (Ad8 rfl (by rw [g185]) (Ab5 _)))))) (List.Sublist.refl _)
  ) (fun g185 => by
    have g185' := g185
    try simp only [nH] at g185'
    refine Ac6 rfl rfl rfl ?_
    refine Ac6 rfl rfl rfl ?_
    refine vp rfl rfl rfl rfl ?_
    exact Ac2 (Sub.cons rfl (Sub.skip rfl (Sub.skip rfl (Sub.skip rfl (Ad8 rfl (by rw [g185]) (Ab5 _)))))) (List.Sublist.refl _)
  ) ?_
  refine vp rfl rfl rfl rfl ?_
  refine Ad3 (dj := 189) (dp := 192) 3 rfl (fun g189 => by
    have g189' := g189
    try simp only [nH] at g189'
    iterate 3 refine vp rfl rfl rfl rfl ?_
    exact Ac2 (Sub.cons rfl (Sub.skip rfl (Sub.skip rfl (Sub.skip rfl (Ad8 rfl (by rw [g189]) (Ab5 _)))))) (List.Sublist.refl _)
  ) (fun g189 => by
    have g189' := g189
    try simp only [nH] at g189'
    refine Ac6 rfl rfl rfl ?_
    refine Ac6 rfl rfl rfl ?_
    refine vp rfl rfl rfl rfl ?_
    exact Ac2 (Sub.cons rfl (Sub.skip rfl (Sub.skip rfl (Sub.skip rfl (Ad8 rfl (by rw [g189]) (Ab5 _)))))) (List.Sublist.refl _)
  ) ?_
  refine nnx ?_
  refine RunC.cond rfl (fun h => absurd h (by simp)) ?_
  intro c6
  clear c6
  refine RunC.skip ?_
  refine RunE.next ?_
  refine RunC.seq ?_
  refine csr ?_
  refine Aa1 (Aa3 rfl (.tail _ (.tail _ (.head _))) AW3 rfl) rfl rfl rfl ?_
  refine Aa1 (AB8 rfl AH7 uI.1.os) rfl rfl rfl ?_
  refine vp rfl rfl rfl rfl ?_
  refine nnx ?_
  refine RunC.block ?_
  refine Al2 (X := Unit) (n0 := [(b11, _), (b12, _), (b13, _), (b14, _)]) (u.s.sp.length) (fun j v q => (195, .int .i64 (j : Int)) :: q) (fun _ _ => _) (fun j v => []) (fun j v => ownB 54 z155 ((drawL (star u.s.sp) (u.s.sp.length + 1)).map Spt.cells).flatten ++ (ownB 36 zx (x.things.map Th.cells).flatten ++ (ownB 3 u.ot ((u.s.th).map thC).flatten ++ (ownB 23 u.os ((u.s.sp).map spC).flatten ++ (ownB 43 u.oc ((stS u.s.sp).map Sg.cells).flatten ++ []))))) (fun j v => True) () trivial rfl (Ad4 (t := 195) rfl rfl (Sub.cons (t := 11) rfl (Sub.cons (t := 12) rfl (Sub.cons (t := 13) rfl (Sub.cons (t := 14) rfl (Sub.cons (t := 17) rfl (Sub.cons (t := 193) rfl (Sub.cons (t := 194) rfl (Sub.nil _))))))))) (.cons (.there (.there (.there .here))) rfl (.cons .here rfl (.cons .here rfl (.cons .here rfl (Pick.same rfl))))) ?_
  intro j v jN jI
  refine csr ?_
  refine vp rfl rfl rfl rfl ?_
  refine nnx ?_
  refine RunC.seq ?_
  refine RunC.cond rfl ?_ ?_
  ·intro c7
   have c7' := c7; clear c7
   try simp only [nH] at c7'
   have hj : j < u.s.sp.length := by omega
   have hjt : j < u.s.th.length := by omega
   obtain ⟨⟨e1, e2⟩, hsj⟩ : ∃ d, u.s.sp[j] = d := ⟨_, rfl⟩
   have hgj : u.s.sp.getD j zSp = ⟨e1, e2⟩ := by rw [List.getD_eq_getElem?_getD, List.getElem?_eq_getElem hj]; exact hsj
   obtain ⟨tj, htj⟩ : ∃ d, u.s.th[j] = d := ⟨_, rfl⟩
   have hgt : u.s.th.getD j 0 = tj := by rw [List.getD_eq_getElem?_getD, List.getElem?_eq_getElem hjt]; exact htj
   obtain ⟨a1, a2, a3⟩ := uI.1.st.at' j hjt
   rw [hgt] at a1 a2 a3
   rw [hgj] at a3
   have hdj := BW7 hrng hj (n := u.s.sp.length + 1) (by omega) (by rw [AE4]; omega)
   rw [show ax u.s.sp false j = ⟨e1, e2⟩ from hgj] at hdj
   have hnk := Bp9 hxo hw hkx a1 hxf hF0 a2
   have hnr1 := AZ0 hxo hkx a1
   have hnr2 := AZ0 hxo a1 hkx
   rw [show (distX x (tj : Int)).1.1 = e1 from congrArg Sp.lo a3.symm, show (distX x (tj : Int)).1.2 = e2 from congrArg Sp.hi a3.symm] at hnk
   refine RunC.skip ?_
   refine RunE.next ?_
   refine RunC.seq ?_
   refine RunC.block ?_
   refine csr ?_
   refine vp rfl rfl rfl rfl ?_
   refine Aa1 (Ab0 (by show some (ownV u.os u.s.sp.length) = _; rw [Af8 uI.1.os]) rfl AH7 (by omega) (by omega) (Ah9 uI.1.os hlen1)) rfl rfl rfl ?_
   refine Aa1 (Ab8 rfl (fun w hm => (Ai6 (f := spC) (fun _ => rfl) (by decide) uI.1.os (fun _ _ h => hm.at (.tail _ (.tail _ (.tail _ (.tail _ ((by first | exact List.mem_append_right _ (List.mem_append_right _ (List.mem_append_right _ (List.mem_append_left _ h))) | exact List.mem_append_right _ (List.mem_append_right _ (List.mem_append_right _ (List.mem_append_right _ (List.mem_append_left _ h)))))))))))).loadX (by decide) (Mem.refl w) (by simp) Ad7 hj hsj)) rfl rfl rfl ?_
   refine Ad9 (New.alloc Ac7) rfl rfl rfl (fun b24 => ?_)
   refine vp rfl rfl rfl rfl ?_
   refine Aa9 (Sto.store rfl rfl .here Ad7 rfl rfl) rfl rfl ?_
   refine nsr ?_
   refine Aa1 (Ac4 rfl (.tail _ (.tail _ (.head _))) AC4 rfl) rfl rfl rfl ?_
   refine vp rfl rfl rfl rfl ?_
   refine Aa1 (Val.add rfl rfl (IntWalk.i64_in _ ⟨by omega, by omega⟩)) rfl rfl rfl ?_
   refine Ab3 (Ab7 rfl BQ1) rfl rfl rfl (fun w hm => (by have h9 := BZ8 u.s.sp u.oc hfew hrng uI.1.oc w (fun _ _ h => hm.at (.tail _ (.tail _ (.tail _ (.tail _ (.tail _ ((by first | exact List.mem_append_right _ (List.mem_append_right _ (List.mem_append_right _ (List.mem_append_right _ (List.mem_append_left _ h)))) | exact List.mem_append_right _ (List.mem_append_right _ (List.mem_append_right _ (List.mem_append_right _ (List.mem_append_right _ (List.mem_append_left _ h))))))))))))) hj; rw [hgj] at h9; exact h9)) ?_
   iterate 4 refine vp rfl rfl rfl rfl ?_
   refine Ad9 (New.alloc Ac7) rfl rfl rfl (fun b25 => ?_)
   refine Ad9 (New.alloc Ac7) rfl rfl rfl (fun b26 => ?_)
   refine Aa9 (Sto.store rfl rfl (.there .here) Ad7 rfl rfl) rfl rfl ?_
   refine Aa9 (Sto.store rfl rfl .here Ad7 rfl rfl) rfl rfl ?_
   refine vp rfl rfl rfl rfl ?_
   refine nnx ?_
   refine RunC.seq ?_
   refine RunC.seq ?_
   refine Ae5 21 Al3 (.cons .here rfl (.cons .here rfl (.cons .here rfl (.cons .here rfl (Pick.skip (Pick.skip (Pick.skip (Pick.refl _)))))))) ?_
   refine va 0 rfl (Aa5 rfl) rfl rfl rfl (.cons .here rfl (.cons .here rfl (.cons .here rfl (.cons .here rfl (Pick.skip (Pick.skip (Pick.skip (Pick.refl _)))))))) rfl ?_
   refine va 1 rfl (Aa5 rfl) rfl rfl rfl (.cons .here rfl (.cons .here rfl (.cons .here rfl (.cons .here rfl (Pick.skip (Pick.skip (Pick.skip (Pick.refl _)))))))) rfl ?_
   refine va 2 rfl (Aa5 rfl) rfl rfl rfl (.cons .here rfl (.cons .here rfl (.cons .here rfl (.cons .here rfl (Pick.skip (Pick.skip (Pick.skip (Pick.refl _)))))))) rfl ?_
   refine Aj7 (dj := 210) false rfl (by simp) ?_
   refine va 3 rfl (Ac4 rfl (.tail _ (.head _)) Ad7 rfl) rfl rfl rfl (.cons .here rfl (.cons .here rfl (.cons .here rfl (.cons .here rfl (Pick.skip (Pick.skip (Pick.skip (Pick.refl _)))))))) rfl ?_
   refine va 4 rfl (Ac4 rfl (.tail _ (.tail _ (.head _))) Ad7 rfl) rfl rfl rfl (.cons .here rfl (.cons .here rfl (.cons .here rfl (.cons .here rfl (Pick.skip (Pick.skip (Pick.skip (Pick.refl _)))))))) rfl ?_
   refine va 5 rfl (Aj0 rfl rfl Ap4) rfl rfl rfl (.cons .here rfl (.cons .here rfl (.cons .here rfl (.cons .here rfl (Pick.skip (Pick.skip (Pick.skip (Pick.refl _)))))))) rfl ?_
   refine va 6 rfl (Aa5 rfl) rfl rfl rfl (.cons .here rfl (.cons .here rfl (.cons .here rfl (.cons .here rfl (Pick.skip (Pick.skip (Pick.skip (Pick.refl _)))))))) rfl ?_
   refine va 7 rfl (Aa5 rfl) rfl rfl rfl (.cons .here rfl (.cons .here rfl (.cons .here rfl (.cons .here rfl (Pick.skip (Pick.skip (Pick.skip (Pick.refl _)))))))) rfl ?_
   refine Aj7 (dj := 215) false rfl (by simp) ?_
   refine va 8 rfl (Ac4 rfl (.head _) Ad7 rfl) rfl rfl rfl (.cons .here rfl (.cons .here rfl (.cons .here rfl (.cons .here rfl (Pick.skip (Pick.skip (Pick.skip (Pick.refl _)))))))) rfl ?_
   refine va 9 rfl (Val.build (parts := []) rfl Ac7 Ah7 rfl) rfl rfl rfl (.cons .here rfl (.cons .here rfl (.cons .here rfl (.cons .here rfl (Pick.skip (Pick.skip (Pick.skip (Pick.refl _)))))))) rfl ?_
   refine va 10 rfl (Aj0 rfl rfl Ap4) rfl rfl rfl (.cons .here rfl (.cons .here rfl (.cons .here rfl (.cons .here rfl (Pick.skip (Pick.skip (Pick.skip (Pick.refl _)))))))) rfl ?_
   refine va 11 rfl (Aa5 rfl) rfl rfl rfl (.cons .here rfl (.cons .here rfl (.cons .here rfl (.cons .here rfl (Pick.skip (Pick.skip (Pick.skip (Pick.refl _)))))))) rfl ?_
   refine va 12 rfl (Aa5 rfl) rfl rfl rfl (.cons .here rfl (.cons .here rfl (.cons .here rfl (.cons .here rfl (Pick.skip (Pick.skip (Pick.skip (Pick.refl _)))))))) rfl ?_
   refine Aj7 (dj := 220) false rfl (by simp) ?_
   refine va 13 rfl (Aa5 rfl) rfl rfl rfl (.cons .here rfl (.cons .here rfl (.cons .here rfl (.cons .here rfl (Pick.skip (Pick.skip (Pick.skip (Pick.refl _)))))))) rfl ?_
   refine va 14 rfl (Aa5 rfl) rfl rfl rfl (.cons .here rfl (.cons .here rfl (.cons .here rfl (.cons .here rfl (Pick.skip (Pick.skip (Pick.skip (Pick.refl _)))))))) rfl ?_
   refine va 15 rfl (Val.add rfl rfl (IntWalk.i64_in _ ⟨by omega, by omega⟩)) rfl rfl rfl (.cons .here rfl (.cons .here rfl (.cons .here rfl (.cons .here rfl (Pick.skip (Pick.skip (Pick.skip (Pick.refl _)))))))) rfl ?_
   refine va 16 rfl (Ab0 (by show some (ownV z155 (u.s.sp.length + 1)) = _; rw [Af8 hzD]) rfl BG7 (by omega) (by omega) (Ah9 hzD (by omega))) rfl rfl rfl (.cons .here rfl (.cons .here rfl (.cons .here rfl (.cons .here rfl (Pick.skip (Pick.skip (Pick.skip (Pick.refl _)))))))) rfl ?_
   refine va 17 rfl (Ab8 rfl (fun w hm => (Ai6 (f := Spt.cells) (fun _ => rfl) (by decide) hz155 (fun _ _ h => hm.at (.tail _ (.tail _ (.tail _ (.tail _ ((by first | exact List.mem_append_left _ h | exact List.mem_append_right _ (List.mem_append_left _ h))))))))).loadX (by decide) (Mem.refl w) (by simp) BZ3 (show j + 1 < (drawL (star u.s.sp) (u.s.sp.length + 1)).length by rw [AE4]; omega) hdj)) rfl rfl rfl (.cons .here rfl (.cons .here rfl (.cons .here rfl (.cons .here rfl (Pick.skip (Pick.skip (Pick.skip (Pick.refl _)))))))) rfl ?_
   refine va 18 rfl (Val.fieldAddr rfl Aj3) rfl rfl rfl (.cons .here rfl (.cons .here rfl (.cons .here rfl (.cons .here rfl (Pick.skip (Pick.skip (Pick.skip (Pick.refl _)))))))) rfl ?_
   refine va 19 rfl (Aa3 rfl (.tail _ (.tail _ (.head _))) Ag0 rfl) rfl rfl rfl (.cons .here rfl (.cons .here rfl (.cons .here rfl (.cons .here rfl (Pick.skip (Pick.skip (Pick.skip (Pick.refl _)))))))) rfl ?_
   refine va 20 rfl (Val.build (parts := [(0, .tmp 227)]) rfl AJ4 AY0 rfl) rfl rfl rfl (.cons .here rfl (.cons .here rfl (.cons .here rfl (.cons .here rfl (Pick.skip (Pick.skip (Pick.skip (Pick.refl _)))))))) rfl ?_
   refine Af4 (by kernel_rfl) ?_
   refine RunB.one (i := 21) (by kernel_rfl) ?_
   refine Ac5 rfl (Aj0 rfl rfl BS7) rfl rfl rfl (Ab1 ?_)
   refine RunB.one (i := 22) (by kernel_rfl) ?_
   refine Ac5 rfl (Aa5 rfl) rfl rfl rfl (Ab1 ?_)
   refine RunB.done (by kernel_rfl) ?_
   refine RunE.next ?_
   refine RunC.cond rfl (fun h => absurd h (by simp [ax, hgj])) ?_
   intro c8
   clear c8
   refine RunC.skip ?_
   refine RunE.next ?_
   refine RunC.seq ?_
   refine csr ?_
   refine vp rfl rfl rfl rfl ?_
   refine vp rfl rfl rfl rfl ?_
   refine nnx ?_
   refine RunC.cond rfl ?_ ?_
   ·intro c9
    have c9' := c9; clear c9
    try simp only [nH] at c9'
    refine RunC.exit ?_
    refine Ac0 ?_
    refine Ab2 ?_
    refine RunE.next ?_
    refine RunC.region ?_
    refine Aa1 (Val.add rfl rfl (IntWalk.i64_in _ ⟨by omega, by omega⟩)) rfl rfl rfl ?_
    refine vp rfl rfl rfl rfl ?_
    refine RunL.nil ?_
    exact Ag2 () (by omega) trivial rfl (Ad4 (t := 195) rfl rfl (Sub.cons (t := 11) rfl (Sub.cons (t := 12) rfl (Sub.cons (t := 13) rfl (Sub.cons (t := 14) rfl (Sub.cons (t := 17) rfl (Sub.cons (t := 193) rfl (Sub.cons (t := 194) rfl (Sub.nil _))))))))) (Pick.cnt fun x => by simp only [nC, azM]; omega)
   intro c9
   have c9' := c9; clear c9
   try simp only [nH] at c9'
   have hj0 : j ≠ 0 := by (have h9 := c9'; omega)
   obtain ⟨n1, n2, hbt⟩ : ∃ n1 n2, ∀ w, (∀ b o, (b, o) ∈ ownB 43 u.oc ((stS u.s.sp).map Sg.cells).flatten → w.heap[b]? = some o) → Calls Tryz.prog 13 #[chV u.s.sp u.oc, .int .i64 1, .int .i64 ((j : Int) + 1)] w (Pure (.tuple #[.agg #[.int .i64 (e1 - F), .int .i64 (e2 - F)], .agg #[.int .i64 n1, .int .i64 n2], .int .i64 0]) w) := by
     obtain ⟨n, hn⟩ := BX8 hrng hj hj0
     refine ⟨n.lo, n.hi, fun w hw2 => ?_⟩
     have h := Ce7 u.s.sp u.oc hfew hrng uI.1.oc w hw2 hj hj0 n hn
     rw [hgj, hsp0] at h
     exact h
   refine RunC.skip ?_
   refine RunE.next ?_
   refine csr ?_
   refine Aa1 (Ac4 rfl (.tail _ (.tail _ (.tail _ (.tail _ (.head _))))) AC4 rfl) rfl rfl rfl ?_
   refine vp rfl rfl rfl rfl ?_
   refine Aa1 (Val.add rfl rfl (IntWalk.i64_in _ ⟨by omega, by omega⟩)) rfl rfl rfl ?_
   refine Ab3 (Ab7 rfl BQ0) rfl rfl rfl (fun w hm => (hbt w (fun _ _ h => hm.at (.tail _ (.tail _ (.tail _ (.tail _ (.tail _ (.tail _ (.tail _ ((by first | exact List.mem_append_right _ (List.mem_append_right _ (List.mem_append_right _ (List.mem_append_right _ (List.mem_append_left _ h)))) | exact List.mem_append_right _ (List.mem_append_right _ (List.mem_append_right _ (List.mem_append_right _ (List.mem_append_right _ (List.mem_append_left _ h))))))))))))))))) ?_
   iterate 4 refine vp rfl rfl rfl rfl ?_
   refine Ad9 (New.alloc Ac7) rfl rfl rfl (fun b28 => ?_)
   refine Ad9 (New.alloc Ac7) rfl rfl rfl (fun b29 => ?_)
   refine Aa9 (Sto.store rfl rfl (.there .here) Ad7 rfl rfl) rfl rfl ?_
   refine Aa9 (Sto.store rfl rfl .here Ad7 rfl rfl) rfl rfl ?_
   refine vp rfl rfl rfl rfl ?_
   refine nnx ?_
   refine RunC.seq ?_
   apply Am2 (J := J0 _ _ _ _ _ _) 13 Al3 (.cons .here rfl (.cons .here rfl (.cons .here rfl (.cons .here rfl (.cons .here rfl (.cons .here rfl (Pick.skip (Pick.skip (Pick.skip (Pick.refl _))))))))))
   ·refine va 0 rfl (Ac4 rfl (.tail _ (.tail _ (.tail _ (.tail _ (.tail _ (.head _)))))) AJ7 rfl) rfl rfl rfl (.cons .here rfl (.cons .here rfl (.cons .here rfl (.cons .here rfl (.cons .here rfl (.cons .here rfl (Pick.skip (Pick.skip (Pick.skip (Pick.refl _)))))))))) rfl ?_
    refine va 5 rfl (Aa5 rfl) rfl rfl rfl (.cons .here rfl (.cons .here rfl (.cons .here rfl (.cons .here rfl (.cons .here rfl (.cons .here rfl (Pick.skip (Pick.skip (Pick.skip (Pick.refl _)))))))))) rfl ?_
    refine Ae8 (rs := [1, 4]) (by kernel_rfl) (by simp) (by kernel_rfl) (fun m hm => ?_)
    simp only [List.mem_cons, List.not_mem_nil, or_false] at hm
    rcases hm with rfl | rfl
    ·refine Ac5 rfl (Aa3 rfl (.tail _ (.tail _ (.tail _ (.tail _ (.tail _ (.tail _ (.tail _ (.head _)))))))) AC3 rfl) rfl rfl rfl (Aa0 (.cons .here rfl (.cons .here rfl (.cons .here rfl (.cons .here rfl (.cons .here rfl (.cons .here rfl (Pick.skip (Pick.skip (Pick.skip (Pick.refl _)))))))))) (.cons .here rfl (.cons .here rfl (.cons .here rfl (.cons .here rfl (.cons .here rfl (.cons .here rfl (Pick.refl _))))))) rfl ?_)
     refine va 2 rfl (Ab0 (by show some (ownV u.ot u.s.th.length) = _; rw [Af8 uI.1.ot]) rfl Am6 (by omega) (by omega) (Ah9 uI.1.ot (by omega))) rfl rfl rfl (.cons .here rfl (.cons .here rfl (.cons .here rfl (.cons .here rfl (.cons .here rfl (.cons .here rfl (Pick.skip (Pick.skip (Pick.skip (Pick.refl _)))))))))) rfl ?_
     refine va 3 rfl (Ab8 rfl (fun w hm => (Ai6 (f := thC) (fun _ => rfl) (by decide) uI.1.ot (fun _ _ h => hm.at (.tail _ (.tail _ (.tail _ (.tail _ (.tail _ (.tail _ ((by first | exact List.mem_append_right _ (List.mem_append_right _ (List.mem_append_left _ h)) | exact List.mem_append_right _ (List.mem_append_right _ (List.mem_append_right _ (List.mem_append_left _ h))))))))))))).cellX (Mem.refl w) (by simp) Ag0 (show 0 < u.s.th.length by omega) hth0 (j := 0) (by decide) rfl)) rfl rfl rfl (.cons .here rfl (.cons .here rfl (.cons .here rfl (.cons .here rfl (.cons .here rfl (.cons .here rfl (Pick.skip (Pick.skip (Pick.skip (Pick.refl _)))))))))) rfl ?_
     refine RunA.one (i := 4) (by kernel_rfl) (by kernel_rfl) ?_
     refine Ac5 rfl (Aa3 rfl (.tail _ (.tail _ (.tail _ (.tail _ (.tail _ (.tail _ (.tail _ (.head _)))))))) AC3 rfl) rfl rfl rfl (Aa0 (.cons .here rfl (.cons .here rfl (.cons .here rfl (.cons .here rfl (.cons .here rfl (.cons .here rfl (Pick.skip (Pick.skip (Pick.skip (Pick.refl _)))))))))) (.cons .here rfl (.cons .here rfl (.cons .here rfl (.cons .here rfl (.cons .here rfl (.cons .here rfl (Pick.refl _))))))) rfl ?_)
     refine va 6 rfl (Ab0 (by show some (ownV u.ot u.s.th.length) = _; rw [Af8 uI.1.ot]) rfl Am6 (by omega) (by omega) (Ah9 uI.1.ot (by omega))) rfl rfl rfl (.cons .here rfl (.cons .here rfl (.cons .here rfl (.cons .here rfl (.cons .here rfl (.cons .here rfl (Pick.skip (Pick.skip (Pick.skip (Pick.refl _)))))))))) rfl ?_
     refine va 7 rfl (Ab8 rfl (fun w hm => (Ai6 (f := thC) (fun _ => rfl) (by decide) uI.1.ot (fun _ _ h => hm.at (.tail _ (.tail _ (.tail _ (.tail _ (.tail _ (.tail _ ((by first | exact List.mem_append_right _ (List.mem_append_right _ (List.mem_append_left _ h)) | exact List.mem_append_right _ (List.mem_append_right _ (List.mem_append_right _ (List.mem_append_left _ h))))))))))))).cellX (Mem.refl w) (by simp) Ag0 hjt htj (j := 0) (by decide) rfl)) rfl rfl rfl (.cons .here rfl (.cons .here rfl (.cons .here rfl (.cons .here rfl (.cons .here rfl (.cons .here rfl (Pick.skip (Pick.skip (Pick.skip (Pick.refl _)))))))))) rfl ?_
     refine RunA.one (i := 8) (by kernel_rfl) (by kernel_rfl) ?_
     refine Ab4 rfl (Ab7 rfl Ba9) rfl rfl rfl (fun w hm => (by have h9 := An8 x (k : Int) (tj : Int) (ownQ zx) (ownK zx) 0 (ownC zx) w (hxs w (fun _ _ h => hm.at (.tail _ (.tail _ (.tail _ (.tail _ (.tail _ (.tail _ (.tail _ (.tail _ (.tail _ ((by first | exact List.mem_append_right _ (List.mem_append_left _ h) | exact List.mem_append_right _ (List.mem_append_right _ (List.mem_append_left _ h))))))))))))))) (by omega); rw [hnr1] at h9; exact h9)) (Aa0 (.cons .here rfl (.cons .here rfl (.cons .here rfl (.cons .here rfl (.cons .here rfl (.cons .here rfl (Pick.skip (Pick.skip (Pick.skip (Pick.refl _)))))))))) (.cons .here rfl (.cons .here rfl (.cons .here rfl (.cons .here rfl (.cons .here rfl (.cons .here rfl (Pick.refl _))))))) rfl ?_)
     refine va 9 rfl (Aa5 rfl) rfl rfl rfl (.cons .here rfl (.cons .here rfl (.cons .here rfl (.cons .here rfl (.cons .here rfl (.cons .here rfl (Pick.skip (Pick.skip (Pick.skip (Pick.refl _)))))))))) rfl ?_
     refine va 10 rfl (Aa5 rfl) rfl rfl rfl (.cons .here rfl (.cons .here rfl (.cons .here rfl (.cons .here rfl (.cons .here rfl (.cons .here rfl (Pick.skip (Pick.skip (Pick.skip (Pick.refl _)))))))))) rfl ?_
     refine va 11 rfl (Aa5 rfl) rfl rfl rfl (.cons .here rfl (.cons .here rfl (.cons .here rfl (.cons .here rfl (.cons .here rfl (.cons .here rfl (Pick.skip (Pick.skip (Pick.skip (Pick.refl _)))))))))) rfl ?_
     refine va 12 rfl (Aa5 rfl) rfl rfl rfl (.cons .here rfl (.cons .here rfl (.cons .here rfl (.cons .here rfl (.cons .here rfl (.cons .here rfl (Pick.skip (Pick.skip (Pick.skip (Pick.refl _)))))))))) rfl ?_
     refine Af4 (by kernel_rfl) ?_
     refine RunB.one (i := 13) (by kernel_rfl) ?_
     refine Ac5 rfl (Aa5 rfl) rfl rfl rfl (Ab1 ?_)
     refine RunB.done (by kernel_rfl) ?_
     exact Al1  (Ab5 _) (Pick.refl _)
    refine Ac5 rfl (Aa3 rfl (.tail _ (.tail _ (.tail _ (.tail _ (.tail _ (.tail _ (.tail _ (.head _)))))))) AC3 rfl) rfl rfl rfl (Aa0 (.cons .here rfl (.cons .here rfl (.cons .here rfl (.cons .here rfl (.cons .here rfl (.cons .here rfl (Pick.skip (Pick.skip (Pick.skip (Pick.refl _)))))))))) (.cons .here rfl (.cons .here rfl (.cons .here rfl (.cons .here rfl (.cons .here rfl (.cons .here rfl (Pick.refl _))))))) rfl ?_)
    refine va 6 rfl (Ab0 (by show some (ownV u.ot u.s.th.length) = _; rw [Af8 uI.1.ot]) rfl Am6 (by omega) (by omega) (Ah9 uI.1.ot (by omega))) rfl rfl rfl (.cons .here rfl (.cons .here rfl (.cons .here rfl (.cons .here rfl (.cons .here rfl (.cons .here rfl (Pick.skip (Pick.skip (Pick.skip (Pick.refl _)))))))))) rfl ?_
    refine va 7 rfl (Ab8 rfl (fun w hm => (Ai6 (f := thC) (fun _ => rfl) (by decide) uI.1.ot (fun _ _ h => hm.at (.tail _ (.tail _ (.tail _ (.tail _ (.tail _ (.tail _ ((by first | exact List.mem_append_right _ (List.mem_append_right _ (List.mem_append_left _ h)) | exact List.mem_append_right _ (List.mem_append_right _ (List.mem_append_right _ (List.mem_append_left _ h))))))))))))).cellX (Mem.refl w) (by simp) Ag0 hjt htj (j := 0) (by decide) rfl)) rfl rfl rfl (.cons .here rfl (.cons .here rfl (.cons .here rfl (.cons .here rfl (.cons .here rfl (.cons .here rfl (Pick.skip (Pick.skip (Pick.skip (Pick.refl _)))))))))) rfl ?_
    refine RunA.one (i := 1) (by kernel_rfl) (by kernel_rfl) ?_
    refine Ac5 rfl (Aa3 rfl (.tail _ (.tail _ (.tail _ (.tail _ (.tail _ (.tail _ (.tail _ (.head _)))))))) AC3 rfl) rfl rfl rfl (Aa0 (.cons .here rfl (.cons .here rfl (.cons .here rfl (.cons .here rfl (.cons .here rfl (.cons .here rfl (Pick.skip (Pick.skip (Pick.skip (Pick.refl _)))))))))) (.cons .here rfl (.cons .here rfl (.cons .here rfl (.cons .here rfl (.cons .here rfl (.cons .here rfl (Pick.refl _))))))) rfl ?_)
    refine va 2 rfl (Ab0 (by show some (ownV u.ot u.s.th.length) = _; rw [Af8 uI.1.ot]) rfl Am6 (by omega) (by omega) (Ah9 uI.1.ot (by omega))) rfl rfl rfl (.cons .here rfl (.cons .here rfl (.cons .here rfl (.cons .here rfl (.cons .here rfl (.cons .here rfl (Pick.skip (Pick.skip (Pick.skip (Pick.refl _)))))))))) rfl ?_
    refine va 3 rfl (Ab8 rfl (fun w hm => (Ai6 (f := thC) (fun _ => rfl) (by decide) uI.1.ot (fun _ _ h => hm.at (.tail _ (.tail _ (.tail _ (.tail _ (.tail _ (.tail _ ((by first | exact List.mem_append_right _ (List.mem_append_right _ (List.mem_append_left _ h)) | exact List.mem_append_right _ (List.mem_append_right _ (List.mem_append_right _ (List.mem_append_left _ h))))))))))))).cellX (Mem.refl w) (by simp) Ag0 (show 0 < u.s.th.length by omega) hth0 (j := 0) (by decide) rfl)) rfl rfl rfl (.cons .here rfl (.cons .here rfl (.cons .here rfl (.cons .here rfl (.cons .here rfl (.cons .here rfl (Pick.skip (Pick.skip (Pick.skip (Pick.refl _)))))))))) rfl ?_
    refine RunA.one (i := 8) (by kernel_rfl) (by kernel_rfl) ?_
    refine Ab4 rfl (Ab7 rfl Ba9) rfl rfl rfl (fun w hm => (by have h9 := An8 x (k : Int) (tj : Int) (ownQ zx) (ownK zx) 0 (ownC zx) w (hxs w (fun _ _ h => hm.at (.tail _ (.tail _ (.tail _ (.tail _ (.tail _ (.tail _ (.tail _ (.tail _ (.tail _ ((by first | exact List.mem_append_right _ (List.mem_append_left _ h) | exact List.mem_append_right _ (List.mem_append_right _ (List.mem_append_left _ h))))))))))))))) (by omega); rw [hnr1] at h9; exact h9)) (Aa0 (.cons .here rfl (.cons .here rfl (.cons .here rfl (.cons .here rfl (.cons .here rfl (.cons .here rfl (Pick.skip (Pick.skip (Pick.skip (Pick.refl _)))))))))) (.cons .here rfl (.cons .here rfl (.cons .here rfl (.cons .here rfl (.cons .here rfl (.cons .here rfl (Pick.refl _))))))) rfl ?_)
    refine va 9 rfl (Aa5 rfl) rfl rfl rfl (.cons .here rfl (.cons .here rfl (.cons .here rfl (.cons .here rfl (.cons .here rfl (.cons .here rfl (Pick.skip (Pick.skip (Pick.skip (Pick.refl _)))))))))) rfl ?_
    refine va 10 rfl (Aa5 rfl) rfl rfl rfl (.cons .here rfl (.cons .here rfl (.cons .here rfl (.cons .here rfl (.cons .here rfl (.cons .here rfl (Pick.skip (Pick.skip (Pick.skip (Pick.refl _)))))))))) rfl ?_
    refine va 11 rfl (Aa5 rfl) rfl rfl rfl (.cons .here rfl (.cons .here rfl (.cons .here rfl (.cons .here rfl (.cons .here rfl (.cons .here rfl (Pick.skip (Pick.skip (Pick.skip (Pick.refl _)))))))))) rfl ?_
    refine va 12 rfl (Aa5 rfl) rfl rfl rfl (.cons .here rfl (.cons .here rfl (.cons .here rfl (.cons .here rfl (.cons .here rfl (.cons .here rfl (Pick.skip (Pick.skip (Pick.skip (Pick.refl _)))))))))) rfl ?_
    refine Af4 (by kernel_rfl) ?_
    refine RunB.one (i := 13) (by kernel_rfl) ?_
    refine Ac5 rfl (Aa5 rfl) rfl rfl rfl (Ab1 ?_)
    refine RunB.done (by kernel_rfl) ?_
    exact Al1  (Sub.cons (t := 32) rfl (Sub.cons (t := 31) rfl (Sub.cons (t := 252) rfl (Sub.cons (t := 251) rfl (Sub.cons (t := 241) rfl (Sub.cons (t := 250) rfl (Sub.cons (t := 249) rfl (Sub.cons (t := 248) rfl (Sub.cons (t := 246) rfl (Sub.cons (t := 245) rfl (Sub.cons (t := 244) rfl (Sub.cons (t := 243) rfl (Sub.cons (t := 247) rfl (Sub.cons (t := 242) rfl (Sub.skip rfl (Sub.skip rfl (Sub.skip rfl (Sub.skip rfl (Sub.skip rfl (Sub.skip rfl (Sub.skip rfl (Sub.skip rfl (Sub.skip rfl (Sub.skip rfl (Sub.skip rfl (Sub.skip rfl (Sub.skip rfl (Sub.skip rfl (Ab5 _))))))))))))))))))))))))))))) (.cons .here rfl (.cons .here rfl (.cons .here rfl (.cons .here rfl (.cons .here rfl (.cons .here rfl (.cons .here rfl (.cons .here rfl (.cons .here rfl (Pick.refl _))))))))))
   refine J0.out ?_
   refine RunE.next ?_
   refine RunC.seq ?_
   apply Am2 (J := J0 _ _ _ _ _ _) 13 Al3 (.cons .here rfl (.cons .here rfl (.cons .here rfl (.cons .here rfl (.cons .here rfl (.cons .here rfl (Pick.skip (Pick.skip (Pick.skip (Pick.refl _))))))))))
   ·refine va 0 rfl (Ac4 rfl (.tail _ (.tail _ (.tail _ (.tail _ (.tail _ (.head _)))))) AJ7 rfl) rfl rfl rfl (.cons .here rfl (.cons .here rfl (.cons .here rfl (.cons .here rfl (.cons .here rfl (.cons .here rfl (Pick.skip (Pick.skip (Pick.skip (Pick.refl _)))))))))) rfl ?_
    refine va 2 rfl (Aa5 rfl) rfl rfl rfl (.cons .here rfl (.cons .here rfl (.cons .here rfl (.cons .here rfl (.cons .here rfl (.cons .here rfl (Pick.skip (Pick.skip (Pick.skip (Pick.refl _)))))))))) rfl ?_
    refine Ae8 (rs := [1, 5]) (by kernel_rfl) (by simp) (by kernel_rfl) (fun m hm => ?_)
    simp only [List.mem_cons, List.not_mem_nil, or_false] at hm
    rcases hm with rfl | rfl
    ·refine Ac5 rfl (Aa3 rfl (.tail _ (.tail _ (.tail _ (.tail _ (.tail _ (.tail _ (.tail _ (.head _)))))))) AC3 rfl) rfl rfl rfl (Aa0 (.cons .here rfl (.cons .here rfl (.cons .here rfl (.cons .here rfl (.cons .here rfl (.cons .here rfl (Pick.skip (Pick.skip (Pick.skip (Pick.refl _)))))))))) (.cons .here rfl (.cons .here rfl (.cons .here rfl (.cons .here rfl (.cons .here rfl (.cons .here rfl (Pick.refl _))))))) rfl ?_)
     refine va 3 rfl (Ab0 (by show some (ownV u.ot u.s.th.length) = _; rw [Af8 uI.1.ot]) rfl Am6 (by omega) (by omega) (Ah9 uI.1.ot (by omega))) rfl rfl rfl (.cons .here rfl (.cons .here rfl (.cons .here rfl (.cons .here rfl (.cons .here rfl (.cons .here rfl (Pick.skip (Pick.skip (Pick.skip (Pick.refl _)))))))))) rfl ?_
     refine va 4 rfl (Ab8 rfl (fun w hm => (Ai6 (f := thC) (fun _ => rfl) (by decide) uI.1.ot (fun _ _ h => hm.at (.tail _ (.tail _ (.tail _ (.tail _ (.tail _ (.tail _ ((by first | exact List.mem_append_right _ (List.mem_append_right _ (List.mem_append_left _ h)) | exact List.mem_append_right _ (List.mem_append_right _ (List.mem_append_right _ (List.mem_append_left _ h))))))))))))).cellX (Mem.refl w) (by simp) Ag0 hjt htj (j := 0) (by decide) rfl)) rfl rfl rfl (.cons .here rfl (.cons .here rfl (.cons .here rfl (.cons .here rfl (.cons .here rfl (.cons .here rfl (Pick.skip (Pick.skip (Pick.skip (Pick.refl _)))))))))) rfl ?_
     refine RunA.one (i := 5) (by kernel_rfl) (by kernel_rfl) ?_
     refine Ac5 rfl (Aa3 rfl (.tail _ (.tail _ (.tail _ (.tail _ (.tail _ (.tail _ (.tail _ (.head _)))))))) AC3 rfl) rfl rfl rfl (Aa0 (.cons .here rfl (.cons .here rfl (.cons .here rfl (.cons .here rfl (.cons .here rfl (.cons .here rfl (Pick.skip (Pick.skip (Pick.skip (Pick.refl _)))))))))) (.cons .here rfl (.cons .here rfl (.cons .here rfl (.cons .here rfl (.cons .here rfl (.cons .here rfl (Pick.refl _))))))) rfl ?_)
     refine va 6 rfl (Ab0 (by show some (ownV u.ot u.s.th.length) = _; rw [Af8 uI.1.ot]) rfl Am6 (by omega) (by omega) (Ah9 uI.1.ot (by omega))) rfl rfl rfl (.cons .here rfl (.cons .here rfl (.cons .here rfl (.cons .here rfl (.cons .here rfl (.cons .here rfl (Pick.skip (Pick.skip (Pick.skip (Pick.refl _)))))))))) rfl ?_
     refine va 7 rfl (Ab8 rfl (fun w hm => (Ai6 (f := thC) (fun _ => rfl) (by decide) uI.1.ot (fun _ _ h => hm.at (.tail _ (.tail _ (.tail _ (.tail _ (.tail _ (.tail _ ((by first | exact List.mem_append_right _ (List.mem_append_right _ (List.mem_append_left _ h)) | exact List.mem_append_right _ (List.mem_append_right _ (List.mem_append_right _ (List.mem_append_left _ h))))))))))))).cellX (Mem.refl w) (by simp) Ag0 (show 0 < u.s.th.length by omega) hth0 (j := 0) (by decide) rfl)) rfl rfl rfl (.cons .here rfl (.cons .here rfl (.cons .here rfl (.cons .here rfl (.cons .here rfl (.cons .here rfl (Pick.skip (Pick.skip (Pick.skip (Pick.refl _)))))))))) rfl ?_
     refine RunA.one (i := 8) (by kernel_rfl) (by kernel_rfl) ?_
     refine Ab4 rfl (Ab7 rfl Ba9) rfl rfl rfl (fun w hm => (by have h9 := An8 x (tj : Int) (k : Int) (ownQ zx) (ownK zx) 0 (ownC zx) w (hxs w (fun _ _ h => hm.at (.tail _ (.tail _ (.tail _ (.tail _ (.tail _ (.tail _ (.tail _ (.tail _ (.tail _ ((by first | exact List.mem_append_right _ (List.mem_append_left _ h) | exact List.mem_append_right _ (List.mem_append_right _ (List.mem_append_left _ h))))))))))))))) (by omega); rw [hnr2] at h9; exact h9)) (Aa0 (.cons .here rfl (.cons .here rfl (.cons .here rfl (.cons .here rfl (.cons .here rfl (.cons .here rfl (Pick.skip (Pick.skip (Pick.skip (Pick.refl _)))))))))) (.cons .here rfl (.cons .here rfl (.cons .here rfl (.cons .here rfl (.cons .here rfl (.cons .here rfl (Pick.refl _))))))) rfl ?_)
     refine va 9 rfl (Aa5 rfl) rfl rfl rfl (.cons .here rfl (.cons .here rfl (.cons .here rfl (.cons .here rfl (.cons .here rfl (.cons .here rfl (Pick.skip (Pick.skip (Pick.skip (Pick.refl _)))))))))) rfl ?_
     refine va 10 rfl (Aa5 rfl) rfl rfl rfl (.cons .here rfl (.cons .here rfl (.cons .here rfl (.cons .here rfl (.cons .here rfl (.cons .here rfl (Pick.skip (Pick.skip (Pick.skip (Pick.refl _)))))))))) rfl ?_
     refine va 11 rfl (Aa5 rfl) rfl rfl rfl (.cons .here rfl (.cons .here rfl (.cons .here rfl (.cons .here rfl (.cons .here rfl (.cons .here rfl (Pick.skip (Pick.skip (Pick.skip (Pick.refl _)))))))))) rfl ?_
     refine va 12 rfl (Aa5 rfl) rfl rfl rfl (.cons .here rfl (.cons .here rfl (.cons .here rfl (.cons .here rfl (.cons .here rfl (.cons .here rfl (Pick.skip (Pick.skip (Pick.skip (Pick.refl _)))))))))) rfl ?_
     refine Af4 (by kernel_rfl) ?_
     refine RunB.one (i := 13) (by kernel_rfl) ?_
     refine Ac5 rfl (Aa5 rfl) rfl rfl rfl (Ab1 ?_)
     refine RunB.done (by kernel_rfl) ?_
     exact Al1  (Ab5 _) (Pick.refl _)
    refine Ac5 rfl (Aa3 rfl (.tail _ (.tail _ (.tail _ (.tail _ (.tail _ (.tail _ (.tail _ (.head _)))))))) AC3 rfl) rfl rfl rfl (Aa0 (.cons .here rfl (.cons .here rfl (.cons .here rfl (.cons .here rfl (.cons .here rfl (.cons .here rfl (Pick.skip (Pick.skip (Pick.skip (Pick.refl _)))))))))) (.cons .here rfl (.cons .here rfl (.cons .here rfl (.cons .here rfl (.cons .here rfl (.cons .here rfl (Pick.refl _))))))) rfl ?_)
    refine va 6 rfl (Ab0 (by show some (ownV u.ot u.s.th.length) = _; rw [Af8 uI.1.ot]) rfl Am6 (by omega) (by omega) (Ah9 uI.1.ot (by omega))) rfl rfl rfl (.cons .here rfl (.cons .here rfl (.cons .here rfl (.cons .here rfl (.cons .here rfl (.cons .here rfl (Pick.skip (Pick.skip (Pick.skip (Pick.refl _)))))))))) rfl ?_
    refine va 7 rfl (Ab8 rfl (fun w hm => (Ai6 (f := thC) (fun _ => rfl) (by decide) uI.1.ot (fun _ _ h => hm.at (.tail _ (.tail _ (.tail _ (.tail _ (.tail _ (.tail _ ((by first | exact List.mem_append_right _ (List.mem_append_right _ (List.mem_append_left _ h)) | exact List.mem_append_right _ (List.mem_append_right _ (List.mem_append_right _ (List.mem_append_left _ h))))))))))))).cellX (Mem.refl w) (by simp) Ag0 (show 0 < u.s.th.length by omega) hth0 (j := 0) (by decide) rfl)) rfl rfl rfl (.cons .here rfl (.cons .here rfl (.cons .here rfl (.cons .here rfl (.cons .here rfl (.cons .here rfl (Pick.skip (Pick.skip (Pick.skip (Pick.refl _)))))))))) rfl ?_
    refine RunA.one (i := 1) (by kernel_rfl) (by kernel_rfl) ?_
    refine Ac5 rfl (Aa3 rfl (.tail _ (.tail _ (.tail _ (.tail _ (.tail _ (.tail _ (.tail _ (.head _)))))))) AC3 rfl) rfl rfl rfl (Aa0 (.cons .here rfl (.cons .here rfl (.cons .here rfl (.cons .here rfl (.cons .here rfl (.cons .here rfl (Pick.skip (Pick.skip (Pick.skip (Pick.refl _)))))))))) (.cons .here rfl (.cons .here rfl (.cons .here rfl (.cons .here rfl (.cons .here rfl (.cons .here rfl (Pick.refl _))))))) rfl ?_)
    refine va 3 rfl (Ab0 (by show some (ownV u.ot u.s.th.length) = _; rw [Af8 uI.1.ot]) rfl Am6 (by omega) (by omega) (Ah9 uI.1.ot (by omega))) rfl rfl rfl (.cons .here rfl (.cons .here rfl (.cons .here rfl (.cons .here rfl (.cons .here rfl (.cons .here rfl (Pick.skip (Pick.skip (Pick.skip (Pick.refl _)))))))))) rfl ?_
    refine va 4 rfl (Ab8 rfl (fun w hm => (Ai6 (f := thC) (fun _ => rfl) (by decide) uI.1.ot (fun _ _ h => hm.at (.tail _ (.tail _ (.tail _ (.tail _ (.tail _ (.tail _ ((by first | exact List.mem_append_right _ (List.mem_append_right _ (List.mem_append_left _ h)) | exact List.mem_append_right _ (List.mem_append_right _ (List.mem_append_right _ (List.mem_append_left _ h))))))))))))).cellX (Mem.refl w) (by simp) Ag0 hjt htj (j := 0) (by decide) rfl)) rfl rfl rfl (.cons .here rfl (.cons .here rfl (.cons .here rfl (.cons .here rfl (.cons .here rfl (.cons .here rfl (Pick.skip (Pick.skip (Pick.skip (Pick.refl _)))))))))) rfl ?_
    refine RunA.one (i := 8) (by kernel_rfl) (by kernel_rfl) ?_
    refine Ab4 rfl (Ab7 rfl Ba9) rfl rfl rfl (fun w hm => (by have h9 := An8 x (tj : Int) (k : Int) (ownQ zx) (ownK zx) 0 (ownC zx) w (hxs w (fun _ _ h => hm.at (.tail _ (.tail _ (.tail _ (.tail _ (.tail _ (.tail _ (.tail _ (.tail _ (.tail _ ((by first | exact List.mem_append_right _ (List.mem_append_left _ h) | exact List.mem_append_right _ (List.mem_append_right _ (List.mem_append_left _ h))))))))))))))) (by omega); rw [hnr2] at h9; exact h9)) (Aa0 (.cons .here rfl (.cons .here rfl (.cons .here rfl (.cons .here rfl (.cons .here rfl (.cons .here rfl (Pick.skip (Pick.skip (Pick.skip (Pick.refl _)))))))))) (.cons .here rfl (.cons .here rfl (.cons .here rfl (.cons .here rfl (.cons .here rfl (.cons .here rfl (Pick.refl _))))))) rfl ?_)
    refine va 9 rfl (Aa5 rfl) rfl rfl rfl (.cons .here rfl (.cons .here rfl (.cons .here rfl (.cons .here rfl (.cons .here rfl (.cons .here rfl (Pick.skip (Pick.skip (Pick.skip (Pick.refl _)))))))))) rfl ?_
    refine va 10 rfl (Aa5 rfl) rfl rfl rfl (.cons .here rfl (.cons .here rfl (.cons .here rfl (.cons .here rfl (.cons .here rfl (.cons .here rfl (Pick.skip (Pick.skip (Pick.skip (Pick.refl _)))))))))) rfl ?_
    refine va 11 rfl (Aa5 rfl) rfl rfl rfl (.cons .here rfl (.cons .here rfl (.cons .here rfl (.cons .here rfl (.cons .here rfl (.cons .here rfl (Pick.skip (Pick.skip (Pick.skip (Pick.refl _)))))))))) rfl ?_
    refine va 12 rfl (Aa5 rfl) rfl rfl rfl (.cons .here rfl (.cons .here rfl (.cons .here rfl (.cons .here rfl (.cons .here rfl (.cons .here rfl (Pick.skip (Pick.skip (Pick.skip (Pick.refl _)))))))))) rfl ?_
    refine Af4 (by kernel_rfl) ?_
    refine RunB.one (i := 13) (by kernel_rfl) ?_
    refine Ac5 rfl (Aa5 rfl) rfl rfl rfl (Ab1 ?_)
    refine RunB.done (by kernel_rfl) ?_
    exact Al1  (Sub.cons (t := 34) rfl (Sub.cons (t := 33) rfl (Sub.cons (t := 264) rfl (Sub.cons (t := 263) rfl (Sub.cons (t := 253) rfl (Sub.cons (t := 262) rfl (Sub.cons (t := 261) rfl (Sub.cons (t := 260) rfl (Sub.cons (t := 259) rfl (Sub.cons (t := 258) rfl (Sub.cons (t := 257) rfl (Sub.cons (t := 255) rfl (Sub.cons (t := 256) rfl (Sub.cons (t := 254) rfl (Sub.skip rfl (Sub.skip rfl (Sub.skip rfl (Sub.skip rfl (Sub.skip rfl (Sub.skip rfl (Sub.skip rfl (Sub.skip rfl (Sub.skip rfl (Sub.skip rfl (Sub.skip rfl (Sub.skip rfl (Sub.skip rfl (Sub.skip rfl (Ab5 _))))))))))))))))))))))))))))) (.cons .here rfl (.cons .here rfl (.cons .here rfl (.cons .here rfl (.cons .here rfl (.cons .here rfl (.cons .here rfl (.cons .here rfl (.cons .here rfl (Pick.refl _))))))))))
   refine J0.out ?_
   refine RunE.next ?_
   refine csr ?_
   iterate 3 refine vp rfl rfl rfl rfl ?_
   refine Ad3 (dj := 267) (dp := 270) 3 rfl (fun g267 => by
     have g267' := g267
     try simp only [nH] at g267'
     iterate 3 refine vp rfl rfl rfl rfl ?_
     exact Ac2 (Sub.cons rfl (Sub.skip rfl (Sub.skip rfl (Sub.skip rfl (Ad8 rfl (by rw [g267]) (Ab5 _)))))) (List.Sublist.refl _)
   ) (fun g267 => by
     have g267' := g267
     try simp only [nH] at g267'
     refine Ac6 rfl rfl rfl ?_
     refine Ac6 rfl rfl rfl ?_
     refine vp rfl rfl rfl rfl ?_
     exact Ac2 (Sub.cons rfl (Sub.skip rfl (Sub.skip rfl (Sub.skip rfl (Ad8 rfl (by rw [g267]) (Ab5 _)))))) (List.Sublist.refl _)
   ) ?_
   refine vp rfl rfl rfl rfl ?_
   refine Ad3 (dj := 271) (dp := 274) 3 rfl (fun g271 => by
     have g271' := g271
     try simp only [nH] at g271'
     iterate 3 refine vp rfl rfl rfl rfl ?_
     exact Ac2 (Sub.cons rfl (Sub.skip rfl (Sub.skip rfl (Sub.skip rfl (Ad8 rfl (by rw [g271]) (Ab5 _)))))) (List.Sublist.refl _)
   ) (fun g271 => by
     have g271' := g271
     try simp only [nH] at g271'
     refine Ac6 rfl rfl rfl ?_
     refine Ac6 rfl rfl rfl ?_
     refine vp rfl rfl rfl rfl ?_
     exact Ac2 (Sub.cons rfl (Sub.skip rfl (Sub.skip rfl (Sub.skip rfl (Ad8 rfl (by rw [g271]) (Ab5 _)))))) (List.Sublist.refl _)
   ) ?_
   refine vp rfl rfl rfl rfl ?_
   refine Ad3 (dj := 275) (dp := 283) 8 rfl (fun g275 => by
     have g275' := g275
     try simp only [nH] at g275'
     iterate 3 refine vp rfl rfl rfl rfl ?_
     refine Ac3 (dj := 278) (dp := 282) 4 rfl (fun g278 => by
       have g278' := g278
       try simp only [nH] at g278'
       refine Aa1 (Val.fieldAddr rfl Aj3) rfl rfl rfl ?_
       refine Aa1 (Aa3 rfl (.tail _ (.head _)) Ag0 rfl) rfl rfl rfl ?_
       refine vp rfl rfl rfl rfl ?_
       refine vp rfl rfl rfl rfl ?_
       exact Ac2 (Sub.cons rfl (Sub.skip rfl (Sub.skip rfl (Sub.skip rfl (Sub.skip rfl (Ad8 rfl (by rw [g278]) (Ab5 _))))))) (List.Sublist.refl _)
     ) (fun g278 => by
       have g278' := g278
       try simp only [nH] at g278'
       iterate 3 refine Ac6 rfl rfl rfl ?_
       refine vp rfl rfl rfl rfl ?_
       exact Ac2 (Sub.cons rfl (Sub.skip rfl (Sub.skip rfl (Sub.skip rfl (Sub.skip rfl (Ad8 rfl (by rw [g278]) (Ab5 _))))))) (List.Sublist.refl _)
     ) ?_
     refine vp rfl rfl rfl rfl ?_
     exact Ac2 (Sub.cons rfl (Sub.skip rfl (Sub.skip rfl (Sub.skip rfl (Sub.skip rfl (Sub.skip rfl (Ad8 rfl (by rw [g275]) (Ab5 _)))))))) (List.Sublist.refl _)
   ) (fun g275 => by
     have g275' := g275
     try simp only [nH] at g275'
     iterate 7 refine Ac6 rfl rfl rfl ?_
     refine vp rfl rfl rfl rfl ?_
     exact Ac2 (Sub.cons rfl (Sub.skip rfl (Sub.skip rfl (Sub.skip rfl (Sub.skip rfl (Sub.skip rfl (Sub.skip rfl (Sub.skip rfl (Sub.skip rfl (Ad8 rfl (by rw [g275]) (Ab5 _))))))))))) (List.Sublist.refl _)
   ) ?_
   refine vp rfl rfl rfl rfl ?_
   refine Ad3 (dj := 284) (dp := 292) 8 rfl (fun g284 => by
     have g284' := g284
     try simp only [nH] at g284'
     iterate 3 refine vp rfl rfl rfl rfl ?_
     refine Ac3 (dj := 287) (dp := 291) 4 rfl (fun g287 => by
       have g287' := g287
       try simp only [nH] at g287'
       refine Aa1 (Val.fieldAddr rfl Ah5) rfl rfl rfl ?_
       refine Aa1 (Aa3 rfl (.tail _ (.head _)) Ag0 rfl) rfl rfl rfl ?_
       refine vp rfl rfl rfl rfl ?_
       refine vp rfl rfl rfl rfl ?_
       exact Ac2 (Sub.cons rfl (Sub.skip rfl (Sub.skip rfl (Sub.skip rfl (Sub.skip rfl (Ad8 rfl (by rw [g287]) (Ab5 _))))))) (List.Sublist.refl _)
     ) (fun g287 => by
       have g287' := g287
       try simp only [nH] at g287'
       iterate 3 refine Ac6 rfl rfl rfl ?_
       refine vp rfl rfl rfl rfl ?_
       exact Ac2 (Sub.cons rfl (Sub.skip rfl (Sub.skip rfl (Sub.skip rfl (Sub.skip rfl (Ad8 rfl (by rw [g287]) (Ab5 _))))))) (List.Sublist.refl _)
     ) ?_
     refine vp rfl rfl rfl rfl ?_
     exact Ac2 (Sub.cons rfl (Sub.skip rfl (Sub.skip rfl (Sub.skip rfl (Sub.skip rfl (Sub.skip rfl (Ad8 rfl (by rw [g284]) (Ab5 _)))))))) (List.Sublist.refl _)
   ) (fun g284 => by
     have g284' := g284
     try simp only [nH] at g284'
     iterate 7 refine Ac6 rfl rfl rfl ?_
     refine vp rfl rfl rfl rfl ?_
     exact Ac2 (Sub.cons rfl (Sub.skip rfl (Sub.skip rfl (Sub.skip rfl (Sub.skip rfl (Sub.skip rfl (Sub.skip rfl (Sub.skip rfl (Sub.skip rfl (Ad8 rfl (by rw [g284]) (Ab5 _))))))))))) (List.Sublist.refl _)
   ) ?_
   refine nnx ?_
   refine RunC.cond rfl (fun h => absurd h (by simp; omega)) ?_
   intro c10
   clear c10
   refine RunC.skip ?_
   refine Ad0 ?_
   refine RunE.next ?_
   refine RunC.region ?_
   refine Aa1 (Val.add rfl rfl (IntWalk.i64_in _ ⟨by omega, by omega⟩)) rfl rfl rfl ?_
   refine vp rfl rfl rfl rfl ?_
   refine RunL.nil ?_
   exact Ag2 () (by omega) trivial rfl (Ad4 (t := 195) rfl rfl (Sub.cons (t := 11) rfl (Sub.cons (t := 12) rfl (Sub.cons (t := 13) rfl (Sub.cons (t := 14) rfl (Sub.cons (t := 17) rfl (Sub.cons (t := 193) rfl (Sub.cons (t := 194) rfl (Sub.nil _))))))))) (Pick.cnt fun x => by simp only [nC, azM]; omega)
  intro c7
  have c7' := c7; clear c7
  try simp only [nH] at c7'
  refine RunC.exit ?_
  refine Ac0 ?_
  refine Ac0 ?_
  refine Ab2 ?_
  refine RunE.next ?_
  refine csr ?_
  refine Ab3 (Ab7 rfl BT9) rfl rfl rfl (fun w hm => Av5 w) ?_
  refine vp rfl rfl rfl rfl ?_
  refine nnx ?_
  refine RunC.ret ?_
  exact Aa7 (.r1 rfl (.tmp rfl)) (by first | rfl | simp)
end Go.Proofs.YthbiaipagceokaaGreat
namespace Go.Proofs.YthbiaipagceokaaGreat
open Go Go.Eng Go.Pw1

abbrev spSh : Sh := .st [.int .i64, .int .i64]
abbrev plSh : Sh := .st [spSh, spSh]
abbrev thSh : Sh := .st [plSh, plSh, .int .i64]
abbrev prSh : Sh := .st [spSh, spSh, .int .i64, .int .i64, .int .i64, .sl thSh]
theorem BH4 {w : World} {cs : List Value} (h : Rd w spSh cs) : ∃ s : Sp, cs = [.int .i64 s.lo, .int .i64 s.hi] := by
  cases h with
  | recS h1 h2 =>
    cases h1
    cases h2 with
    | recS h3 h4 =>
      cases h3
      cases h4
      exact ⟨⟨_, _⟩, rfl⟩
theorem BZ9 {w : World} {cs : List Value} (h : Rd w plSh cs) : ∃ s t : Sp, cs = [.int .i64 s.lo, .int .i64 s.hi, .int .i64 t.lo, .int .i64 t.hi] := by
  cases h with
  | recS h1 h2 =>
    obtain ⟨s, rfl⟩ := BH4 h1
    cases h2 with
    | recS h3 h4 =>
      obtain ⟨t, rfl⟩ := BH4 h3
      cases h4
      exact ⟨s, t, rfl⟩
theorem Ce8 {w : World} {cs : List Value} (h : Rd w thSh cs) : ∃ t : Th, cs = t.cells := by
  cases h with
  | recS h1 h2 =>
    obtain ⟨a, b, rfl⟩ := BZ9 h1
    cases h2 with
    | recS h3 h4 =>
      obtain ⟨c, d, rfl⟩ := BZ9 h3
      cases h4 with
      | recS h5 h6 =>
        cases h5
        cases h6
        exact ⟨⟨a, b, c, d, _⟩, rfl⟩
theorem Bv3 {α : Type} {f : α → List Value} : ∀ {xs : List (List Value)}, (∀ x ∈ xs, ∃ a, x = f a) → ∃ l : List α, xs = l.map f
  | [], _ => ⟨[], rfl⟩
  | x :: xs, h => by
    obtain ⟨a, rfl⟩ := h x (by simp)
    obtain ⟨l, rfl⟩ := Bv3 (xs := xs) (fun y hy => h y (List.mem_cons_of_mem _ hy))
    exact ⟨a :: l, rfl⟩
/-- A pair that came in. -/
structure In (w : World) (p : Pr) (q : Option Addr) (b o cap : Nat) : Prop where
  s : Sl w q b o 9 (p.things.map Th.cells)
theorem Ce9 {w : World} {cs : List Value} (h : Rd w prSh cs) : ∃ (p : Pr) (q : Option Addr) (b o cap : Nat), cs = p.cells q cap ∧ In w p q b o cap := by
  cases h with
  | recS h1 h2 =>
  obtain ⟨f, rfl⟩ := BH4 h1
  cases h2 with
  | recS h1 h2 =>
  obtain ⟨g, rfl⟩ := BH4 h1
  cases h2 with
  | recS h1 h2 =>
  cases h1
  cases h2 with
  | recS h1 h2 =>
  cases h1
  cases h2 with
  | recS h1 h2 =>
  cases h1
  cases h2 with
  | recS h1 h2 =>
  cases h2
  cases h1 with
  | slNil => exact ⟨⟨f, g, _, _, _, []⟩, none, 0, 0, 0, rfl, ⟨Sl.emp⟩⟩
  | sl hs hl hc hx =>
    obtain ⟨ts, rfl⟩ := Bv3 (f := Th.cells) (fun x hx' => Ce8 (hx x hx'))
    exact ⟨⟨f, g, _, _, _, ts⟩, some _, _, _, _, by rw [List.length_map]; rfl, ⟨hs⟩⟩

end Go.Proofs.YthbiaipagceokaaGreat
