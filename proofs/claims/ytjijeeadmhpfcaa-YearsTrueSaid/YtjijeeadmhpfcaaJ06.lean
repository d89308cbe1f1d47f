/- Walks of the laws of layer 5: YearsMore. -/
import Derived.Test.YtjijeeadmhpfcaaJ05
set_option linter.unusedSimpArgs false
set_option linter.unusedVariables false
namespace Go.Proofs.Ytjijeeadmhpfcaa
open Go Go.Eng Go.Pw1

def nwA (a : Ga) (b c : Nat) : Ga := ⟨some ⟨b, 0, none⟩, b, 0, c, a.q2, a.b2, a.o2, a.c2⟩
theorem nw_in {W w : World} {g : Gl} {a : Ga} {news : Blks} (h : GIn W g a) (hm : Mem W [] news w) {j : Nat} {t : Th} {x y z b c : Nat} {r : List Value} (hb : w.heap[b]? = some (.cells (((g.f.things.set j (nwT t x y)).map Th.cells).flatten ++ r).toArray 54 (0, 0))) : GIn w (nwG g j t x y z) (nwA a b c) :=
  ⟨Sl.rowsR (xs := (g.f.things.set j (nwT t x y)).map Th.cells) hb th_rows, (h.mono hm).s2, by show (nwP g.f j t x y z).things.length ≤ _; rw [nwP_len]; exact h.l1, h.l2⟩
theorem andN_sub {a b : Nat} (h : ∀ i, a.testBit i = true → b.testBit i = true) : andN a b = 0 := Nat.eq_of_testBit_eq (fun i => by
  rw [andN_bit]
  cases ha : a.testBit i with
  | false => simp
  | true => rw [h i ha]; simp)
theorem setL_ltG {g : Gl} (p : Nat → Bool) (hlen : g.f.things.length ≤ 12) : setL p (seenL g) < 4096 := setL_lt (m := 12) (fun i hi => by
  have := (seenL_mem.1 hi).1
  omega)
set_option maxHeartbeats 1000000 in
theorem moreY_calls (g : Gl) (a : Ga) (wh by_ : Nat) (hwh : wh ≤ 255) (hby : by_ ≤ 255) (W : World) (hS : GSl W g a) : Calls Try.prog 7 #[g.v a, .int .u8 (wh : Int), .int .u8 (by_ : Int)] W (Pure (.bool true) W) := by
  have b4 : by_ % 4 < 4 := Nat.mod_lt _ (by decide)
  have b3' : by_ % 3 < 3 := Nat.mod_lt _ (by decide)
  have b5 : by_ % 5 < 5 := Nat.mod_lt _ (by decide)
  refine calls_start Try.func7 rfl rfl ?_
  refine RunC.seq ?_
  refine RunC.region ?_
  refine RunL.new (New.box rfl) rfl rfl rfl (fun b3 => ?_)
  refine RunL.val (Val.pure rfl) rfl rfl rfl ?_
  refine RunL.nil ?_
  refine RunE.next ?_
  refine RunC.seq ?_
  refine RunC.seq ?_
  refine RunC.region ?_
  refine RunL.val (Val.load_agg rfl (.head _) ty_28 rfl) rfl rfl rfl ?_
  refine RunL.callP (isCall_func rfl ent_9) rfl rfl rfl (fun w hm => great_calls g a 12 w (hS.mono hm)) ?_
  refine RunL.val (Val.pure rfl) rfl rfl rfl ?_
  refine RunL.orPart (dj := 26) (dp := 30) 4 rfl (fun g26 => by
    have g26' := g26
    try simp only [decide_eq_true_eq, decide_eq_false_iff_not, Bool.not_eq_true', Bool.not_eq_false', Bool.and_eq_true, Bool.or_eq_true, Bool.and_eq_false_iff, Bool.or_eq_false_iff, Int.not_le, Int.not_lt] at g26'
    refine RunL.val (Val.load_agg rfl (.head _) ty_28 rfl) rfl rfl rfl ?_
    refine RunL.callP (isCall_func rfl ent_23) rfl rfl rfl (fun w hm => rGlacier_calls g a w (great_no g26' (hS.mono hm)).1) ?_
    refine RunL.val (Val.pure rfl) rfl rfl rfl ?_
    refine RunL.val (Val.pure rfl) rfl rfl rfl ?_
    exact RunL.segEnd (Sub.cons rfl (Sub.skip rfl (Sub.skip rfl (Sub.skip rfl (Sub.skip rfl (Sub.same rfl (by rw [g26]) (Sub.refl _))))))) (List.Sublist.refl _)
  ) (fun g26 => by
    have g26' := g26
    try simp only [decide_eq_true_eq, decide_eq_false_iff_not, Bool.not_eq_true', Bool.not_eq_false', Bool.and_eq_true, Bool.or_eq_true, Bool.and_eq_false_iff, Bool.or_eq_false_iff, Int.not_le, Int.not_lt] at g26'
    iterate 3 refine RunL.no rfl rfl rfl ?_
    refine RunL.val (Val.pure rfl) rfl rfl rfl ?_
    exact RunL.segEnd (Sub.cons rfl (Sub.skip rfl (Sub.skip rfl (Sub.skip rfl (Sub.skip rfl (Sub.same rfl (by rw [g26]) (Sub.refl _))))))) (List.Sublist.refl _)
  ) ?_
  refine RunL.val (Val.pure rfl) rfl rfl rfl ?_
  refine RunL.orPart (dj := 31) (dp := 37) 6 rfl (fun g31 => by
    have g31' := g31
    try simp only [decide_eq_true_eq, decide_eq_false_iff_not, Bool.not_eq_true', Bool.not_eq_false', Bool.and_eq_true, Bool.or_eq_true, Bool.and_eq_false_iff, Bool.or_eq_false_iff, Int.not_le, Int.not_lt] at g31'
    refine RunL.val (Val.fieldAddr rfl fld_28_0) rfl rfl rfl ?_
    refine RunL.val (Val.fieldAddr rfl fld_26_5) rfl rfl rfl ?_
    refine RunL.val (Val.load_one rfl (.head _) ty_24 rfl) rfl rfl rfl ?_
    refine RunL.val (Val.len_sl rfl sl_24) rfl rfl rfl ?_
    refine RunL.val (Val.pure rfl) rfl rfl rfl ?_
    refine RunL.val (Val.pure rfl) rfl rfl rfl ?_
    exact RunL.segEnd (Sub.cons rfl (Sub.skip rfl (Sub.skip rfl (Sub.skip rfl (Sub.skip rfl (Sub.skip rfl (Sub.skip rfl (Sub.same rfl (by rw [g31]) (Sub.refl _))))))))) (List.Sublist.refl _)
  ) (fun g31 => by
    have g31' := g31
    try simp only [decide_eq_true_eq, decide_eq_false_iff_not, Bool.not_eq_true', Bool.not_eq_false', Bool.and_eq_true, Bool.or_eq_true, Bool.and_eq_false_iff, Bool.or_eq_false_iff, Int.not_le, Int.not_lt] at g31'
    iterate 5 refine RunL.no rfl rfl rfl ?_
    refine RunL.val (Val.pure rfl) rfl rfl rfl ?_
    exact RunL.segEnd (Sub.cons rfl (Sub.skip rfl (Sub.skip rfl (Sub.skip rfl (Sub.skip rfl (Sub.skip rfl (Sub.skip rfl (Sub.same rfl (by rw [g31]) (Sub.refl _))))))))) (List.Sublist.refl _)
  ) ?_
  refine RunL.nil ?_
  refine RunE.next ?_
  refine RunC.cond rfl ?_ ?_
  · intro c0
    have c0' := c0; clear c0
    try simp only [decide_eq_true_eq, decide_eq_false_iff_not, Bool.not_eq_true', Bool.not_eq_false', Bool.and_eq_true, Bool.or_eq_true, Bool.and_eq_false_iff, Bool.or_eq_false_iff, Int.not_le, Int.not_lt] at c0'
    refine RunC.seq ?_
    refine RunC.region ?_
    refine RunL.callP (isCall_func rfl ent_10) rfl rfl rfl (fun w hm => alive_calls w) ?_
    refine RunL.val (Val.pure rfl) rfl rfl rfl ?_
    refine RunL.nil ?_
    refine RunE.next ?_
    refine RunC.ret ?_
    refine RunE.pass_ret ?_
    exact RunE.retP (.r1 rfl (.tmp rfl)) (by first | rfl | simp)
  · intro c0
    have c0' := c0; clear c0
    try simp only [decide_eq_true_eq, decide_eq_false_iff_not, Bool.not_eq_true', Bool.not_eq_false', Bool.and_eq_true, Bool.or_eq_true, Bool.and_eq_false_iff, Bool.or_eq_false_iff, Int.not_le, Int.not_lt] at c0'
    obtain ⟨⟨hgr, hgl⟩, hne⟩ := c0'
    obtain ⟨hG, hl1, hl2⟩ := great_no hgr hS
    have hpos : 0 < g.f.things.length := by omega
    obtain ⟨hp, hps, hll, hd⟩ := glacier_fit hgl
    have hlen := hp.len
    obtain ⟨j, hj0⟩ : ∃ j, wh % g.f.things.length = j := ⟨_, rfl⟩
    have hj : j < g.f.things.length := by rw [← hj0]; exact Nat.mod_lt _ hpos
    obtain ⟨t, ht⟩ : ∃ t, g.f.things[j] = t := ⟨_, rfl⟩
    obtain ⟨⟨⟨g1, g2, g3⟩, ⟨g4, g5, g6⟩, g7⟩, _⟩ := hp.ths t (ht ▸ List.getElem_mem hj)
    have f1 := hp.f1
    have f2 := hp.f2
    have f3 := hp.f3
    obtain ⟨nw1, nw2⟩ := nw_open hgl hj ht (by_ % 4) (by_ % 3) (by_ % 5) true
    refine RunC.skip ?_
    refine RunE.next ?_
    refine RunC.seq ?_
    refine RunC.region ?_
    refine RunL.val (Val.load_agg rfl (.head _) ty_28 rfl) rfl rfl rfl ?_
    refine RunL.new (New.alloc zero_28) rfl rfl rfl (fun b7 => ?_)
    refine RunL.sto (Sto.store rfl rfl .here ty_28 rfl rfl) rfl rfl ?_
    refine RunL.nil ?_
    refine RunE.next ?_
    refine RunC.seq ?_
    refine RunC.region ?_
    refine RunL.new (New.buildSlice0 sl_24) rfl rfl rfl (fun b40 => ?_)
    refine RunL.val (Val.fieldAddr rfl fld_28_0) rfl rfl rfl ?_
    refine RunL.val (Val.fieldAddr rfl fld_26_5) rfl rfl rfl ?_
    refine RunL.val (Val.load_one rfl (.tail _ (.tail _ (.head _))) ty_24 rfl) rfl rfl rfl ?_
    refine RunL.keep (Sub.refl _) (.cons (.there .here) rfl (.cons (.there .here) rfl (.cons .here rfl .nil))) ?_
    refine RunL.append (A := [(b7, _), (b3, _)]) (B := _) (x := (some (b40, 0, []))) (ys := (g.f.things.map Th.cells).flatten) ap_24 rfl rfl rfl OwnOk.empty (flat_len th_len _) hS.n1 (fun w hm => ((hS.mono hm).s1).flat (by decide)) (one_flat th_one _) (by simp only [maxLen]; omega) (by omega) rfl (fun z44 hz44 => ?_)
    obtain ⟨bz44, cz44, rz44, rfl, lz441, lz442, lz443⟩ := hz44.has (by omega)
    refine RunL.val (Val.fieldAddr rfl fld_28_0) rfl rfl rfl ?_
    refine RunL.val (Val.fieldAddr rfl fld_26_5) rfl rfl rfl ?_
    refine RunL.sto (Sto.store rfl rfl .here ty_24 rfl rfl) rfl rfl ?_
    refine RunL.nil ?_
    refine RunE.next ?_
    refine RunC.seq ?_
    refine RunC.draw 10 fol_ (.cons .here rfl (.cons .here rfl (.cons .here rfl .nil))) ?_
    refine RunA.val (i := 0) rfl (by kernel_rfl) (by kernel_rfl) (Val.fieldAddr rfl fld_28_0) rfl rfl rfl (fun _ _ _ h => h) (.cons .here rfl (.cons .here rfl (.cons .here rfl .nil))) rfl ?_
    refine RunA.val (i := 1) rfl (by kernel_rfl) (by kernel_rfl) (Val.fieldAddr rfl fld_26_5) rfl rfl rfl (fun _ _ _ h => h) (.cons .here rfl (.cons .here rfl (.cons .here rfl .nil))) rfl ?_
    refine RunA.val (i := 2) rfl (by kernel_rfl) (by kernel_rfl) (Val.load_one rfl (.head _) ty_24 rfl) rfl rfl rfl (fun _ _ _ h => h) (.cons .here rfl (.cons .here rfl (.cons .here rfl .nil))) rfl ?_
    refine RunA.val (i := 3) rfl (by kernel_rfl) (by kernel_rfl) (Val.pure rfl) rfl rfl rfl (fun _ _ _ h => h) (.cons .here rfl (.cons .here rfl (.cons .here rfl .nil))) rfl ?_
    refine RunA.val (i := 4) rfl (by kernel_rfl) (by kernel_rfl) (Val.convInt rfl und_5 und_3 (IntWalk.i64_in _ ⟨by omega, by omega⟩)) rfl rfl rfl (fun _ _ _ h => h) (.cons .here rfl (.cons .here rfl (.cons .here rfl .nil))) rfl ?_
    refine RunA.val (i := 5) rfl (by kernel_rfl) (by kernel_rfl) (Val.fieldAddr rfl fld_28_0) rfl rfl rfl (fun _ _ _ h => h) (.cons .here rfl (.cons .here rfl (.cons .here rfl .nil))) rfl ?_
    refine RunA.val (i := 6) rfl (by kernel_rfl) (by kernel_rfl) (Val.fieldAddr rfl fld_26_5) rfl rfl rfl (fun _ _ _ h => h) (.cons .here rfl (.cons .here rfl (.cons .here rfl .nil))) rfl ?_
    refine RunA.val (i := 7) rfl (by kernel_rfl) (by kernel_rfl) (Val.load_one rfl (.tail _ (.head _)) ty_24 rfl) rfl rfl rfl (fun _ _ _ h => h) (.cons .here rfl (.cons .here rfl (.cons .here rfl .nil))) rfl ?_
    refine RunA.val (i := 8) rfl (by kernel_rfl) (by kernel_rfl) (Val.len_sl rfl sl_24) rfl rfl rfl (fun _ _ _ h => h) (.cons .here rfl (.cons .here rfl (.cons .here rfl .nil))) rfl ?_
    refine RunA.val (i := 9) rfl (by kernel_rfl) (by kernel_rfl) (Val.remN (a := wh) (b := g.f.things.length) rfl rfl hpos) rfl rfl rfl (fun _ _ _ h => h) (.cons .here rfl (.cons .here rfl (.cons .here rfl .nil))) rfl ?_
    refine RunA.toB (by kernel_rfl) ?_
    refine RunB.one (i := 10) (by kernel_rfl) ?_
    simp only [hj0]
    refine RunI.val rfl (Val.indexAddr_sl rfl rfl sl_24 (by omega) (by omega)) rfl rfl rfl (RunK.toB ?_)
    refine RunB.one (i := 11) (by kernel_rfl) ?_
    refine RunI.val rfl (Val.pure rfl) rfl rfl rfl (RunK.toB ?_)
    refine RunB.done (by kernel_rfl) ?_
    refine RunE.next ?_
    refine RunC.seq ?_
    refine RunC.draw 18 fol_ (.cons .here rfl (.cons .here rfl (.cons .here rfl .nil))) ?_
    refine RunA.val (i := 0) rfl (by kernel_rfl) (by kernel_rfl) (Val.pure rfl) rfl rfl rfl (fun _ _ _ h => h) (.cons .here rfl (.cons .here rfl (.cons .here rfl .nil))) rfl ?_
    refine RunA.val (i := 1) rfl (by kernel_rfl) (by kernel_rfl) (Val.pure rfl) rfl rfl rfl (fun _ _ _ h => h) (.cons .here rfl (.cons .here rfl (.cons .here rfl .nil))) rfl ?_
    refine RunA.val (i := 2) rfl (by kernel_rfl) (by kernel_rfl) (Val.pure rfl) rfl rfl rfl (fun _ _ _ h => h) (.cons .here rfl (.cons .here rfl (.cons .here rfl .nil))) rfl ?_
    refine RunA.val (i := 3) rfl (by kernel_rfl) (by kernel_rfl) (Val.fieldAddr rfl fld_54_0) rfl rfl rfl (fun _ _ _ h => h) (.cons .here rfl (.cons .here rfl (.cons .here rfl .nil))) rfl ?_
    refine RunA.val (i := 4) rfl (by kernel_rfl) (by kernel_rfl) (Val.fieldAddr rfl fld_52_0) rfl rfl rfl (fun _ _ _ h => h) (.cons .here rfl (.cons .here rfl (.cons .here rfl .nil))) rfl ?_
    refine RunA.val (i := 5) rfl (by kernel_rfl) (by kernel_rfl) (Val.fieldAddr rfl fld_23_1) rfl rfl rfl (fun _ _ _ h => h) (.cons .here rfl (.cons .here rfl (.cons .here rfl .nil))) rfl ?_
    refine RunA.val (i := 6) rfl (by kernel_rfl) (by kernel_rfl) (Val.load_gen rfl (fun w hm => (Sl.rowsR (xs := g.f.things.map Th.cells) (t := rz44) (hm.at (.tail _ (.tail _ (.head _)))) th_rows).cellX (Mem.refl w) (by simp) ty_3 hj ht (j := 1) (by decide) rfl)) rfl rfl rfl (fun _ _ _ h => h) (.cons .here rfl (.cons .here rfl (.cons .here rfl .nil))) rfl ?_
    refine RunA.val (i := 7) rfl (by kernel_rfl) (by kernel_rfl) (Val.pure rfl) rfl rfl rfl (fun _ _ _ h => h) (.cons .here rfl (.cons .here rfl (.cons .here rfl .nil))) rfl ?_
    refine RunA.val (i := 8) rfl (by kernel_rfl) (by kernel_rfl) (Val.pure rfl) rfl rfl rfl (fun _ _ _ h => h) (.cons .here rfl (.cons .here rfl (.cons .here rfl .nil))) rfl ?_
    refine RunA.val (i := 9) rfl (by kernel_rfl) (by kernel_rfl) (Val.fieldAddr rfl fld_54_0) rfl rfl rfl (fun _ _ _ h => h) (.cons .here rfl (.cons .here rfl (.cons .here rfl .nil))) rfl ?_
    refine RunA.val (i := 10) rfl (by kernel_rfl) (by kernel_rfl) (Val.fieldAddr rfl fld_52_0) rfl rfl rfl (fun _ _ _ h => h) (.cons .here rfl (.cons .here rfl (.cons .here rfl .nil))) rfl ?_
    refine RunA.val (i := 11) rfl (by kernel_rfl) (by kernel_rfl) (Val.fieldAddr rfl fld_23_0) rfl rfl rfl (fun _ _ _ h => h) (.cons .here rfl (.cons .here rfl (.cons .here rfl .nil))) rfl ?_
    refine RunA.val (i := 12) rfl (by kernel_rfl) (by kernel_rfl) (Val.load_gen rfl (fun w hm => (Sl.rowsR (xs := g.f.things.map Th.cells) (t := rz44) (hm.at (.tail _ (.tail _ (.head _)))) th_rows).cellX (Mem.refl w) (by simp) ty_3 hj ht (j := 0) (by decide) rfl)) rfl rfl rfl (fun _ _ _ h => h) (.cons .here rfl (.cons .here rfl (.cons .here rfl .nil))) rfl ?_
    refine RunA.val (i := 13) rfl (by kernel_rfl) (by kernel_rfl) (Val.pure rfl) rfl rfl rfl (fun _ _ _ h => h) (.cons .here rfl (.cons .here rfl (.cons .here rfl .nil))) rfl ?_
    refine RunA.val (i := 14) rfl (by kernel_rfl) (by kernel_rfl) (Val.convInt rfl und_5 und_3 (IntWalk.i64_in _ ⟨by omega, by omega⟩)) rfl rfl rfl (fun _ _ _ h => h) (.cons .here rfl (.cons .here rfl (.cons .here rfl .nil))) rfl ?_
    refine RunA.val (i := 15) rfl (by kernel_rfl) (by kernel_rfl) (Val.remN (a := by_) (b := 4) rfl rfl (by omega)) rfl rfl rfl (fun _ _ _ h => h) (.cons .here rfl (.cons .here rfl (.cons .here rfl .nil))) rfl ?_
    refine RunA.val (i := 16) rfl (by kernel_rfl) (by kernel_rfl) (Val.add rfl rfl (IntWalk.i64_in _ ⟨by omega, by omega⟩)) rfl rfl rfl (fun _ _ _ h => h) (.cons .here rfl (.cons .here rfl (.cons .here rfl .nil))) rfl ?_
    refine RunA.val (i := 17) rfl (by kernel_rfl) (by kernel_rfl) (Val.min rfl rfl) rfl rfl rfl (fun _ _ _ h => h) (.cons .here rfl (.cons .here rfl (.cons .here rfl .nil))) rfl ?_
    refine RunA.toB (by kernel_rfl) ?_
    refine RunB.one (i := 18) (by kernel_rfl) ?_
    refine RunI.val rfl (Val.pure rfl) rfl rfl rfl (RunK.toB ?_)
    refine RunB.one (i := 19) (by kernel_rfl) ?_
    refine RunI.val rfl (Val.fieldAddr rfl fld_54_0) rfl rfl rfl (RunK.toB ?_)
    refine RunB.one (i := 20) (by kernel_rfl) ?_
    refine RunI.val rfl (Val.fieldAddr rfl fld_52_0) rfl rfl rfl (RunK.toB ?_)
    refine RunB.one (i := 21) (by kernel_rfl) ?_
    refine RunI.val rfl (Val.fieldAddr rfl fld_23_0) rfl rfl rfl (RunK.toB ?_)
    refine RunB.one (i := 22) (by kernel_rfl) ?_
    refine RunI.sto rfl (Sto.store (cs := (g.f.things.map Th.cells).flatten ++ rz44) (cs' := ((g.f.things.set j { t with lx := ⟨min t.lx.hi (t.lx.lo + (by_ % 4 : Nat)), t.lx.hi⟩ }).map Th.cells).flatten ++ rz44) rfl rfl (.there (.there .here)) ty_3 rfl (paste_rowE th_len hj ht (j := 0) (by simp) rfl)) rfl rfl (RunK.toB ?_)
    refine RunB.done (by kernel_rfl) ?_
    refine RunE.next ?_
    refine RunC.seq ?_
    refine RunC.draw 18 fol_ (.cons .here rfl (.cons .here rfl (.cons .here rfl .nil))) ?_
    refine RunA.val (i := 0) rfl (by kernel_rfl) (by kernel_rfl) (Val.pure rfl) rfl rfl rfl (fun _ _ _ h => h) (.cons .here rfl (.cons .here rfl (.cons .here rfl .nil))) rfl ?_
    refine RunA.val (i := 1) rfl (by kernel_rfl) (by kernel_rfl) (Val.pure rfl) rfl rfl rfl (fun _ _ _ h => h) (.cons .here rfl (.cons .here rfl (.cons .here rfl .nil))) rfl ?_
    refine RunA.val (i := 2) rfl (by kernel_rfl) (by kernel_rfl) (Val.pure rfl) rfl rfl rfl (fun _ _ _ h => h) (.cons .here rfl (.cons .here rfl (.cons .here rfl .nil))) rfl ?_
    refine RunA.val (i := 3) rfl (by kernel_rfl) (by kernel_rfl) (Val.fieldAddr rfl fld_54_0) rfl rfl rfl (fun _ _ _ h => h) (.cons .here rfl (.cons .here rfl (.cons .here rfl .nil))) rfl ?_
    refine RunA.val (i := 4) rfl (by kernel_rfl) (by kernel_rfl) (Val.fieldAddr rfl fld_52_1) rfl rfl rfl (fun _ _ _ h => h) (.cons .here rfl (.cons .here rfl (.cons .here rfl .nil))) rfl ?_
    refine RunA.val (i := 5) rfl (by kernel_rfl) (by kernel_rfl) (Val.fieldAddr rfl fld_23_0) rfl rfl rfl (fun _ _ _ h => h) (.cons .here rfl (.cons .here rfl (.cons .here rfl .nil))) rfl ?_
    refine RunA.val (i := 6) rfl (by kernel_rfl) (by kernel_rfl) (Val.load_gen rfl (fun w hm => (Sl.rowsR (xs := (g.f.things.set j { t with lx := ⟨min t.lx.hi (t.lx.lo + (by_ % 4 : Nat)), t.lx.hi⟩ }).map Th.cells) (t := rz44) (hm.at (.tail _ (.tail _ (.head _)))) th_rows).cellX (x := { t with lx := ⟨min t.lx.hi (t.lx.lo + (by_ % 4 : Nat)), t.lx.hi⟩ }) (Mem.refl w) (by simp) ty_3 (by simpa using hj) (by simp) (j := 2) (by decide) rfl)) rfl rfl rfl (fun _ _ _ h => h) (.cons .here rfl (.cons .here rfl (.cons .here rfl .nil))) rfl ?_
    refine RunA.val (i := 7) rfl (by kernel_rfl) (by kernel_rfl) (Val.pure rfl) rfl rfl rfl (fun _ _ _ h => h) (.cons .here rfl (.cons .here rfl (.cons .here rfl .nil))) rfl ?_
    refine RunA.val (i := 8) rfl (by kernel_rfl) (by kernel_rfl) (Val.pure rfl) rfl rfl rfl (fun _ _ _ h => h) (.cons .here rfl (.cons .here rfl (.cons .here rfl .nil))) rfl ?_
    refine RunA.val (i := 9) rfl (by kernel_rfl) (by kernel_rfl) (Val.fieldAddr rfl fld_54_0) rfl rfl rfl (fun _ _ _ h => h) (.cons .here rfl (.cons .here rfl (.cons .here rfl .nil))) rfl ?_
    refine RunA.val (i := 10) rfl (by kernel_rfl) (by kernel_rfl) (Val.fieldAddr rfl fld_52_1) rfl rfl rfl (fun _ _ _ h => h) (.cons .here rfl (.cons .here rfl (.cons .here rfl .nil))) rfl ?_
    refine RunA.val (i := 11) rfl (by kernel_rfl) (by kernel_rfl) (Val.fieldAddr rfl fld_23_1) rfl rfl rfl (fun _ _ _ h => h) (.cons .here rfl (.cons .here rfl (.cons .here rfl .nil))) rfl ?_
    refine RunA.val (i := 12) rfl (by kernel_rfl) (by kernel_rfl) (Val.load_gen rfl (fun w hm => (Sl.rowsR (xs := (g.f.things.set j { t with lx := ⟨min t.lx.hi (t.lx.lo + (by_ % 4 : Nat)), t.lx.hi⟩ }).map Th.cells) (t := rz44) (hm.at (.tail _ (.tail _ (.head _)))) th_rows).cellX (x := { t with lx := ⟨min t.lx.hi (t.lx.lo + (by_ % 4 : Nat)), t.lx.hi⟩ }) (Mem.refl w) (by simp) ty_3 (by simpa using hj) (by simp) (j := 3) (by decide) rfl)) rfl rfl rfl (fun _ _ _ h => h) (.cons .here rfl (.cons .here rfl (.cons .here rfl .nil))) rfl ?_
    refine RunA.val (i := 13) rfl (by kernel_rfl) (by kernel_rfl) (Val.pure rfl) rfl rfl rfl (fun _ _ _ h => h) (.cons .here rfl (.cons .here rfl (.cons .here rfl .nil))) rfl ?_
    refine RunA.val (i := 14) rfl (by kernel_rfl) (by kernel_rfl) (Val.convInt rfl und_5 und_3 (IntWalk.i64_in _ ⟨by omega, by omega⟩)) rfl rfl rfl (fun _ _ _ h => h) (.cons .here rfl (.cons .here rfl (.cons .here rfl .nil))) rfl ?_
    refine RunA.val (i := 15) rfl (by kernel_rfl) (by kernel_rfl) (Val.remN (a := by_) (b := 3) rfl rfl (by omega)) rfl rfl rfl (fun _ _ _ h => h) (.cons .here rfl (.cons .here rfl (.cons .here rfl .nil))) rfl ?_
    refine RunA.val (i := 16) rfl (by kernel_rfl) (by kernel_rfl) (Val.sub' rfl rfl (IntWalk.i64_in _ (by dsimp only; omega))) rfl rfl rfl (fun _ _ _ h => h) (.cons .here rfl (.cons .here rfl (.cons .here rfl .nil))) rfl ?_
    refine RunA.val (i := 17) rfl (by kernel_rfl) (by kernel_rfl) (Val.max rfl rfl) rfl rfl rfl (fun _ _ _ h => h) (.cons .here rfl (.cons .here rfl (.cons .here rfl .nil))) rfl ?_
    refine RunA.toB (by kernel_rfl) ?_
    refine RunB.one (i := 18) (by kernel_rfl) ?_
    refine RunI.val rfl (Val.pure rfl) rfl rfl rfl (RunK.toB ?_)
    refine RunB.one (i := 19) (by kernel_rfl) ?_
    refine RunI.val rfl (Val.fieldAddr rfl fld_54_0) rfl rfl rfl (RunK.toB ?_)
    refine RunB.one (i := 20) (by kernel_rfl) ?_
    refine RunI.val rfl (Val.fieldAddr rfl fld_52_1) rfl rfl rfl (RunK.toB ?_)
    refine RunB.one (i := 21) (by kernel_rfl) ?_
    refine RunI.val rfl (Val.fieldAddr rfl fld_23_1) rfl rfl rfl (RunK.toB ?_)
    refine RunB.one (i := 22) (by kernel_rfl) ?_
    refine RunI.sto rfl (Sto.store (cs := ((g.f.things.set j { t with lx := ⟨min t.lx.hi (t.lx.lo + (by_ % 4 : Nat)), t.lx.hi⟩ }).map Th.cells).flatten ++ rz44) (cs' := (((g.f.things.set j { t with lx := ⟨min t.lx.hi (t.lx.lo + (by_ % 4 : Nat)), t.lx.hi⟩ }).set j (nwT t (by_ % 4) (by_ % 3))).map Th.cells).flatten ++ rz44) rfl rfl (.there (.there .here)) ty_3 rfl (paste_rowE th_len (by simpa using hj) (a := { t with lx := ⟨min t.lx.hi (t.lx.lo + (by_ % 4 : Nat)), t.lx.hi⟩ }) (by simp) (j := 3) (by simp) rfl)) rfl rfl (RunK.toB ?_)
    refine RunB.done (by kernel_rfl) ?_
    refine RunE.next ?_
    refine RunC.seq ?_
    simp only [List.set_set]
    refine RunC.region ?_
    refine RunL.val (Val.fieldAddr rfl fld_28_0) rfl rfl rfl ?_
    refine RunL.val (Val.fieldAddr rfl fld_26_0) rfl rfl rfl ?_
    refine RunL.val (Val.fieldAddr rfl fld_23_1) rfl rfl rfl ?_
    refine RunL.val (Val.load_one rfl (.head _) ty_3 rfl) rfl rfl rfl ?_
    refine RunL.val (Val.fieldAddr rfl fld_28_0) rfl rfl rfl ?_
    refine RunL.val (Val.fieldAddr rfl fld_26_0) rfl rfl rfl ?_
    refine RunL.val (Val.fieldAddr rfl fld_23_0) rfl rfl rfl ?_
    refine RunL.val (Val.load_one rfl (.head _) ty_3 rfl) rfl rfl rfl ?_
    refine RunL.val (Val.pure rfl) rfl rfl rfl ?_
    refine RunL.val (Val.convInt rfl und_5 und_3 (IntWalk.i64_in _ ⟨by omega, by omega⟩)) rfl rfl rfl ?_
    refine RunL.val (Val.remN (a := by_) (b := 5) rfl rfl (by omega)) rfl rfl rfl ?_
    refine RunL.val (Val.add rfl rfl (IntWalk.i64_in _ ⟨by omega, by omega⟩)) rfl rfl rfl ?_
    refine RunL.val (Val.min rfl rfl) rfl rfl rfl ?_
    refine RunL.val (Val.fieldAddr rfl fld_28_0) rfl rfl rfl ?_
    refine RunL.val (Val.fieldAddr rfl fld_26_0) rfl rfl rfl ?_
    refine RunL.val (Val.fieldAddr rfl fld_23_0) rfl rfl rfl ?_
    refine RunL.sto (Sto.store rfl rfl .here ty_3 rfl rfl) rfl rfl ?_
    refine RunL.nil ?_
    refine RunE.next ?_
    refine RunC.seq ?_
    rw [show 0 + g.f.things.length = (nwP g.f j t (by_ % 4) (by_ % 3) (by_ % 5)).things.length by rw [nwP_len, Nat.zero_add]]
    refine RunC.region ?_
    refine RunL.val (Val.load_agg rfl (.tail _ (.head _)) ty_28 rfl) rfl rfl rfl ?_
    refine RunL.callP (isCall_func rfl ent_24) rfl rfl rfl (fun w hm => yStays_calls g a w (hG.mono hm)) ?_
    iterate 7 refine RunL.val (Val.pure rfl) rfl rfl rfl ?_
    refine RunL.nil ?_
    refine RunE.next ?_
    refine RunC.seq ?_
    refine RunC.region ?_
    refine RunL.val (Val.load_agg rfl (.head _) ty_28 rfl) rfl rfl rfl ?_
    refine RunL.callP (isCall_func rfl ent_24) rfl rfl rfl (fun w hm => yStays_calls (nwG g j t (by_ % 4) (by_ % 3) (by_ % 5)) (nwA a bz44 cz44) w (nw_in hG hm (hm.at (.tail _ (.tail _ (.head _)))))) ?_
    iterate 7 refine RunL.val (Val.pure rfl) rfl rfl rfl ?_
    refine RunL.nil ?_
    refine RunE.next ?_
    refine RunC.seq ?_
    refine RunC.seq ?_
    refine RunC.region ?_
    refine RunL.val (Val.pure rfl) rfl rfl rfl ?_
    refine RunL.val (Val.pure rfl) rfl rfl rfl ?_
    refine RunL.nil ?_
    refine RunE.next ?_
    refine RunC.cond rfl ?_ ?_
    · intro c1
      have c1' := c1; clear c1
      try simp only [decide_eq_true_eq, decide_eq_false_iff_not, Bool.not_eq_true', Bool.not_eq_false', Bool.and_eq_true, Bool.or_eq_true, Bool.and_eq_false_iff, Bool.or_eq_false_iff, Int.not_le, Int.not_lt] at c1'
      obtain ⟨sn1, k, sn2, sn3⟩ := stays_none (g := nwG g j t (by_ % 4) (by_ % 3) (by_ % 5)) (by simpa using c1')
      have sn4 := nw2 k sn2
      rw [sn4] at sn3
      refine RunC.seq ?_
      refine RunC.region ?_
      iterate 3 refine RunL.val (Val.pure rfl) rfl rfl rfl ?_
      refine RunL.sure (dj := 134) true rfl (by simp [sn3]) ?_
      iterate 4 refine RunL.val (Val.pure rfl) rfl rfl rfl ?_
      refine RunL.sure (dj := 138) true rfl (by simp [sn1]) ?_
      iterate 4 refine RunL.val (Val.pure rfl) rfl rfl rfl ?_
      refine RunL.sure (dj := 142) true rfl (by simp [sn1]) ?_
      refine RunL.callP (isCall_func rfl ent_10) rfl rfl rfl (fun w hm => alive_calls w) ?_
      refine RunL.val (Val.pure rfl) rfl rfl rfl ?_
      refine RunL.val (Val.pure rfl) rfl rfl rfl ?_
      refine RunL.nil ?_
      refine RunE.next ?_
      refine RunC.ret ?_
      refine RunE.pass_ret ?_
      exact RunE.retP (.r1 rfl (.tmp rfl)) (by first | rfl | simp)
    · intro c1
      have c1' := c1; clear c1
      try simp only [decide_eq_true_eq, decide_eq_false_iff_not, Bool.not_eq_true', Bool.not_eq_false', Bool.and_eq_true, Bool.or_eq_true, Bool.and_eq_false_iff, Bool.or_eq_false_iff, Int.not_le, Int.not_lt] at c1'
      obtain ⟨sx1, sx2⟩ := stays_some (g := nwG g j t (by_ % 4) (by_ % 3) (by_ % 5)) (by simpa using c1')
      have sg1 := nw1 _ sx1
      have sg2 : gStays g = ((((setL (sureB g) (seenL g) : Nat) : Int), ((setL (canB g) (seenL g) : Nat) : Int)), 0) := by unfold gStays; rw [sg1]
      simp only [sx2, sg2]
      have l1 := setL_ltG (canB g) hlen
      have l2 := setL_ltG (g := nwG g j t (by_ % 4) (by_ % 3) (by_ % 5)) (canB (nwG g j t (by_ % 4) (by_ % 3) (by_ % 5))) (by show (nwP g.f j t _ _ _).things.length ≤ 12; rw [nwP_len]; exact hlen)
      have hsub := andN_sub (nw_can hgl hj ht (by_ % 4) (by_ % 3) (by_ % 5))
      refine RunC.skip ?_
      refine RunE.next ?_
      refine RunC.seq ?_
      refine RunC.seq ?_
      refine RunC.region ?_
      iterate 3 refine RunL.val (Val.pure rfl) rfl rfl rfl ?_
      refine RunL.sure (dj := 147) false rfl (by simp) ?_
      refine RunL.val (Val.pure rfl) rfl rfl rfl ?_
      refine RunL.val (Val.pure rfl) rfl rfl rfl ?_
      refine RunL.val (Val.andNot rfl rfl (by show _ < 18446744073709551616; omega) (by show _ < 18446744073709551616; omega) (i64_inN (by rw [hsub]; decide))) rfl rfl rfl ?_
      refine RunL.val (Val.pure rfl) rfl rfl rfl ?_
      refine RunL.val (Val.pure rfl) rfl rfl rfl ?_
      refine RunL.nil ?_
      refine RunE.next ?_
      refine RunC.cond rfl (fun h => absurd h (by simp [hsub])) ?_
      intro c2
      clear c2
      refine RunC.skip ?_
      refine RunE.next ?_
      refine RunC.seq ?_
      refine RunC.seq ?_
      refine RunC.region ?_
      refine RunL.val (Val.fieldAddr rfl fld_28_0) rfl rfl rfl ?_
      refine RunL.val (Val.fieldAddr rfl fld_26_5) rfl rfl rfl ?_
      refine RunL.val (Val.load_one rfl (.tail _ (.head _)) ty_24 rfl) rfl rfl rfl ?_
      refine RunL.val (Val.len_sl rfl sl_24) rfl rfl rfl ?_
      refine RunL.val (Val.pure rfl) rfl rfl rfl ?_
      refine RunL.nil ?_
      refine RunE.next ?_
      refine RunC.block ?_
      refine RunC.loopK (g.f.things.length) (fun k q => (157, .int .i64 (k : Int)) :: q) (fun _ => _) (fun _ => []) (fun _ => True) trivial rfl (Sub.consE (t := 157) rfl rfl (Sub.cons (t := 3) rfl (Sub.cons (t := 7) rfl (Sub.cons (t := 156) rfl (Sub.nil _))))) (.cons (.there .here) rfl (.cons .here rfl (.cons .here rfl .nil))) ?_
      intro k kN kI
      clear kI
      refine RunC.seq ?_
      refine RunC.region ?_
      refine RunL.val (Val.pure rfl) rfl rfl rfl ?_
      refine RunL.nil ?_
      refine RunE.next ?_
      refine RunC.seq ?_
      refine RunC.cond rfl ?_ ?_
      · intro c3
        have c3' := c3; clear c3
        try simp only [decide_eq_true_eq, decide_eq_false_iff_not, Bool.not_eq_true', Bool.not_eq_false', Bool.and_eq_true, Bool.or_eq_true, Bool.and_eq_false_iff, Bool.or_eq_false_iff, Int.not_le, Int.not_lt] at c3'
        have hk : k < g.f.things.length := by omega
        obtain ⟨nc1, nc2, nc3⟩ := nw_c hgl hj ht (by_ % 4) (by_ % 3) (by_ % 5) sx1 hk
        refine RunC.skip ?_
        refine RunE.next ?_
        refine RunC.seq ?_
        refine RunC.block ?_
        refine RunC.seq ?_
        refine RunC.region ?_
        refine RunL.val (Val.pure rfl) rfl rfl rfl ?_
        refine RunL.val (Val.pure rfl) rfl rfl rfl ?_
        refine RunL.nil ?_
        refine RunE.next ?_
        refine RunC.seq ?_
        refine RunC.region ?_
        refine RunL.val (Val.load_agg rfl (.head _) ty_28 rfl) rfl rfl rfl ?_
        refine RunL.val (Val.pure rfl) rfl rfl rfl ?_
        refine RunL.callP (isCall_func rfl ent_11) rfl rfl rfl (fun w hm => yMoved_calls g a k w (hG.mono hm)) ?_
        iterate 3 refine RunL.val (Val.pure rfl) rfl rfl rfl ?_
        refine RunL.new (New.alloc zero_23) rfl rfl rfl (fun b16 => ?_)
        refine RunL.sto (Sto.store rfl rfl .here ty_23 rfl rfl) rfl rfl ?_
        refine RunL.val (Val.pure rfl) rfl rfl rfl ?_
        refine RunL.nil ?_
        refine RunE.next ?_
        refine RunC.seq ?_
        refine RunC.region ?_
        refine RunL.val (Val.load_agg rfl (.tail _ (.tail _ (.head _))) ty_28 rfl) rfl rfl rfl ?_
        refine RunL.val (Val.pure rfl) rfl rfl rfl ?_
        refine RunL.callP (isCall_func rfl ent_11) rfl rfl rfl (fun w hm => yMoved_calls (nwG g j t (by_ % 4) (by_ % 3) (by_ % 5)) (nwA a bz44 cz44) k w (nw_in hG hm (hm.at (.tail _ (.tail _ (.tail _ (.head _))))))) ?_
        iterate 3 refine RunL.val (Val.pure rfl) rfl rfl rfl ?_
        refine RunL.new (New.alloc zero_23) rfl rfl rfl (fun b18 => ?_)
        refine RunL.sto (Sto.store rfl rfl .here ty_23 rfl rfl) rfl rfl ?_
        refine RunL.val (Val.pure rfl) rfl rfl rfl ?_
        refine RunL.nil ?_
        refine RunE.next ?_
        refine RunC.seq ?_
        refine RunC.region ?_
        refine RunL.val (Val.load_agg rfl (.tail _ (.tail _ (.head _))) ty_28 rfl) rfl rfl rfl ?_
        refine RunL.val (Val.pure rfl) rfl rfl rfl ?_
        refine RunL.callP (isCall_func rfl ent_15) rfl rfl rfl (fun w hm => ySank_calls g a k w (hG.mono hm)) ?_
        iterate 3 refine RunL.val (Val.pure rfl) rfl rfl rfl ?_
        refine RunL.new (New.alloc zero_23) rfl rfl rfl (fun b20 => ?_)
        refine RunL.sto (Sto.store rfl rfl .here ty_23 rfl rfl) rfl rfl ?_
        refine RunL.val (Val.pure rfl) rfl rfl rfl ?_
        refine RunL.nil ?_
        refine RunE.next ?_
        refine RunC.seq ?_
        refine RunC.region ?_
        refine RunL.val (Val.load_agg rfl (.tail _ (.tail _ (.tail _ (.tail _ (.head _))))) ty_28 rfl) rfl rfl rfl ?_
        refine RunL.val (Val.pure rfl) rfl rfl rfl ?_
        refine RunL.callP (isCall_func rfl ent_15) rfl rfl rfl (fun w hm => ySank_calls (nwG g j t (by_ % 4) (by_ % 3) (by_ % 5)) (nwA a bz44 cz44) k w (nw_in hG hm (hm.at (.tail _ (.tail _ (.tail _ (.tail _ (.tail _ (.head _))))))))) ?_
        iterate 3 refine RunL.val (Val.pure rfl) rfl rfl rfl ?_
        refine RunL.new (New.alloc zero_23) rfl rfl rfl (fun b22 => ?_)
        refine RunL.sto (Sto.store rfl rfl .here ty_23 rfl rfl) rfl rfl ?_
        refine RunL.val (Val.pure rfl) rfl rfl rfl ?_
        refine RunL.nil ?_
        refine RunE.next ?_
        refine RunC.seq ?_
        refine RunC.region ?_
        iterate 4 refine RunL.val (Val.pure rfl) rfl rfl rfl ?_
        refine RunL.orPart (dj := 187) (dp := 191) 4 rfl (fun g187 => by
          have g187' := g187
          try simp only [decide_eq_true_eq, decide_eq_false_iff_not, Bool.not_eq_true', Bool.not_eq_false', Bool.and_eq_true, Bool.or_eq_true, Bool.and_eq_false_iff, Bool.or_eq_false_iff, Int.not_le, Int.not_lt] at g187'
          iterate 4 refine RunL.val (Val.pure rfl) rfl rfl rfl ?_
          exact RunL.segEnd (Sub.cons rfl (Sub.skip rfl (Sub.skip rfl (Sub.skip rfl (Sub.skip rfl (Sub.same rfl (by rw [g187]) (Sub.refl _))))))) (List.Sublist.refl _)
        ) (fun g187 => by
          have g187' := g187
          try simp only [decide_eq_true_eq, decide_eq_false_iff_not, Bool.not_eq_true', Bool.not_eq_false', Bool.and_eq_true, Bool.or_eq_true, Bool.and_eq_false_iff, Bool.or_eq_false_iff, Int.not_le, Int.not_lt] at g187'
          iterate 3 refine RunL.no rfl rfl rfl ?_
          refine RunL.val (Val.pure rfl) rfl rfl rfl ?_
          exact RunL.segEnd (Sub.cons rfl (Sub.skip rfl (Sub.skip rfl (Sub.skip rfl (Sub.skip rfl (Sub.same rfl (by rw [g187]) (Sub.refl _))))))) (List.Sublist.refl _)
        ) ?_
        refine RunL.val (Val.pure rfl) rfl rfl rfl ?_
        refine RunL.orPart (dj := 192) (dp := 227) 35 rfl (fun g192 => by
          have g192' := g192
          try simp only [decide_eq_true_eq, decide_eq_false_iff_not, Bool.not_eq_true', Bool.not_eq_false', Bool.and_eq_true, Bool.or_eq_true, Bool.and_eq_false_iff, Bool.or_eq_false_iff, Int.not_le, Int.not_lt] at g192'
          iterate 3 refine RunL.val (Val.pure rfl) rfl rfl rfl ?_
          refine RunL.andPart (dj := 195) (dp := 226) 31 rfl (fun g195 => by
            have g195' := g195
            try simp only [decide_eq_true_eq, decide_eq_false_iff_not, Bool.not_eq_true', Bool.not_eq_false', Bool.and_eq_true, Bool.or_eq_true, Bool.and_eq_false_iff, Bool.or_eq_false_iff, Int.not_le, Int.not_lt] at g195'
            iterate 3 refine RunL.val (Val.pure rfl) rfl rfl rfl ?_
            refine RunL.orPart (dj := 198) (dp := 204) 6 rfl (fun g198 => by
              have g198' := g198
              try simp only [decide_eq_true_eq, decide_eq_false_iff_not, Bool.not_eq_true', Bool.not_eq_false', Bool.and_eq_true, Bool.or_eq_true, Bool.and_eq_false_iff, Bool.or_eq_false_iff, Int.not_le, Int.not_lt] at g198'
              refine RunL.val (Val.fieldAddr rfl fld_23_0) rfl rfl rfl ?_
              refine RunL.val (Val.load_one rfl (.tail _ (.tail _ (.head _))) ty_3 rfl) rfl rfl rfl ?_
              refine RunL.val (Val.fieldAddr rfl fld_23_0) rfl rfl rfl ?_
              refine RunL.val (Val.load_one rfl (.tail _ (.tail _ (.tail _ (.head _)))) ty_3 rfl) rfl rfl rfl ?_
              refine RunL.val (Val.pure rfl) rfl rfl rfl ?_
              refine RunL.val (Val.pure rfl) rfl rfl rfl ?_
              exact RunL.segEnd (Sub.cons rfl (Sub.skip rfl (Sub.skip rfl (Sub.skip rfl (Sub.skip rfl (Sub.skip rfl (Sub.skip rfl (Sub.same rfl (by rw [g198]) (Sub.refl _))))))))) (List.Sublist.refl _)
            ) (fun g198 => by
              have g198' := g198
              try simp only [decide_eq_true_eq, decide_eq_false_iff_not, Bool.not_eq_true', Bool.not_eq_false', Bool.and_eq_true, Bool.or_eq_true, Bool.and_eq_false_iff, Bool.or_eq_false_iff, Int.not_le, Int.not_lt] at g198'
              iterate 5 refine RunL.no rfl rfl rfl ?_
              refine RunL.val (Val.pure rfl) rfl rfl rfl ?_
              exact RunL.segEnd (Sub.cons rfl (Sub.skip rfl (Sub.skip rfl (Sub.skip rfl (Sub.skip rfl (Sub.skip rfl (Sub.skip rfl (Sub.same rfl (by rw [g198]) (Sub.refl _))))))))) (List.Sublist.refl _)
            ) ?_
            refine RunL.val (Val.pure rfl) rfl rfl rfl ?_
            refine RunL.orPart (dj := 205) (dp := 211) 6 rfl (fun g205 => by
              have g205' := g205
              try simp only [decide_eq_true_eq, decide_eq_false_iff_not, Bool.not_eq_true', Bool.not_eq_false', Bool.and_eq_true, Bool.or_eq_true, Bool.and_eq_false_iff, Bool.or_eq_false_iff, Int.not_le, Int.not_lt] at g205'
              refine RunL.val (Val.fieldAddr rfl fld_23_1) rfl rfl rfl ?_
              refine RunL.val (Val.load_one rfl (.tail _ (.tail _ (.head _))) ty_3 rfl) rfl rfl rfl ?_
              refine RunL.val (Val.fieldAddr rfl fld_23_1) rfl rfl rfl ?_
              refine RunL.val (Val.load_one rfl (.tail _ (.tail _ (.tail _ (.head _)))) ty_3 rfl) rfl rfl rfl ?_
              refine RunL.val (Val.pure rfl) rfl rfl rfl ?_
              refine RunL.val (Val.pure rfl) rfl rfl rfl ?_
              exact RunL.segEnd (Sub.cons rfl (Sub.skip rfl (Sub.skip rfl (Sub.skip rfl (Sub.skip rfl (Sub.skip rfl (Sub.skip rfl (Sub.same rfl (by rw [g205]) (Sub.refl _))))))))) (List.Sublist.refl _)
            ) (fun g205 => by
              have g205' := g205
              try simp only [decide_eq_true_eq, decide_eq_false_iff_not, Bool.not_eq_true', Bool.not_eq_false', Bool.and_eq_true, Bool.or_eq_true, Bool.and_eq_false_iff, Bool.or_eq_false_iff, Int.not_le, Int.not_lt] at g205'
              iterate 5 refine RunL.no rfl rfl rfl ?_
              refine RunL.val (Val.pure rfl) rfl rfl rfl ?_
              exact RunL.segEnd (Sub.cons rfl (Sub.skip rfl (Sub.skip rfl (Sub.skip rfl (Sub.skip rfl (Sub.skip rfl (Sub.skip rfl (Sub.same rfl (by rw [g205]) (Sub.refl _))))))))) (List.Sublist.refl _)
            ) ?_
            refine RunL.val (Val.pure rfl) rfl rfl rfl ?_
            refine RunL.orPart (dj := 212) (dp := 218) 6 rfl (fun g212 => by
              have g212' := g212
              try simp only [decide_eq_true_eq, decide_eq_false_iff_not, Bool.not_eq_true', Bool.not_eq_false', Bool.and_eq_true, Bool.or_eq_true, Bool.and_eq_false_iff, Bool.or_eq_false_iff, Int.not_le, Int.not_lt] at g212'
              refine RunL.val (Val.fieldAddr rfl fld_23_0) rfl rfl rfl ?_
              refine RunL.val (Val.load_one rfl (.head _) ty_3 rfl) rfl rfl rfl ?_
              refine RunL.val (Val.fieldAddr rfl fld_23_0) rfl rfl rfl ?_
              refine RunL.val (Val.load_one rfl (.tail _ (.head _)) ty_3 rfl) rfl rfl rfl ?_
              refine RunL.val (Val.pure rfl) rfl rfl rfl ?_
              refine RunL.val (Val.pure rfl) rfl rfl rfl ?_
              exact RunL.segEnd (Sub.cons rfl (Sub.skip rfl (Sub.skip rfl (Sub.skip rfl (Sub.skip rfl (Sub.skip rfl (Sub.skip rfl (Sub.same rfl (by rw [g212]) (Sub.refl _))))))))) (List.Sublist.refl _)
            ) (fun g212 => by
              have g212' := g212
              try simp only [decide_eq_true_eq, decide_eq_false_iff_not, Bool.not_eq_true', Bool.not_eq_false', Bool.and_eq_true, Bool.or_eq_true, Bool.and_eq_false_iff, Bool.or_eq_false_iff, Int.not_le, Int.not_lt] at g212'
              iterate 5 refine RunL.no rfl rfl rfl ?_
              refine RunL.val (Val.pure rfl) rfl rfl rfl ?_
              exact RunL.segEnd (Sub.cons rfl (Sub.skip rfl (Sub.skip rfl (Sub.skip rfl (Sub.skip rfl (Sub.skip rfl (Sub.skip rfl (Sub.same rfl (by rw [g212]) (Sub.refl _))))))))) (List.Sublist.refl _)
            ) ?_
            refine RunL.val (Val.pure rfl) rfl rfl rfl ?_
            refine RunL.orPart (dj := 219) (dp := 225) 6 rfl (fun g219 => by
              have g219' := g219
              try simp only [decide_eq_true_eq, decide_eq_false_iff_not, Bool.not_eq_true', Bool.not_eq_false', Bool.and_eq_true, Bool.or_eq_true, Bool.and_eq_false_iff, Bool.or_eq_false_iff, Int.not_le, Int.not_lt] at g219'
              refine RunL.val (Val.fieldAddr rfl fld_23_1) rfl rfl rfl ?_
              refine RunL.val (Val.load_one rfl (.head _) ty_3 rfl) rfl rfl rfl ?_
              refine RunL.val (Val.fieldAddr rfl fld_23_1) rfl rfl rfl ?_
              refine RunL.val (Val.load_one rfl (.tail _ (.head _)) ty_3 rfl) rfl rfl rfl ?_
              refine RunL.val (Val.pure rfl) rfl rfl rfl ?_
              refine RunL.val (Val.pure rfl) rfl rfl rfl ?_
              exact RunL.segEnd (Sub.cons rfl (Sub.skip rfl (Sub.skip rfl (Sub.skip rfl (Sub.skip rfl (Sub.skip rfl (Sub.skip rfl (Sub.same rfl (by rw [g219]) (Sub.refl _))))))))) (List.Sublist.refl _)
            ) (fun g219 => by
              have g219' := g219
              try simp only [decide_eq_true_eq, decide_eq_false_iff_not, Bool.not_eq_true', Bool.not_eq_false', Bool.and_eq_true, Bool.or_eq_true, Bool.and_eq_false_iff, Bool.or_eq_false_iff, Int.not_le, Int.not_lt] at g219'
              iterate 5 refine RunL.no rfl rfl rfl ?_
              refine RunL.val (Val.pure rfl) rfl rfl rfl ?_
              exact RunL.segEnd (Sub.cons rfl (Sub.skip rfl (Sub.skip rfl (Sub.skip rfl (Sub.skip rfl (Sub.skip rfl (Sub.skip rfl (Sub.same rfl (by rw [g219]) (Sub.refl _))))))))) (List.Sublist.refl _)
            ) ?_
            refine RunL.val (Val.pure rfl) rfl rfl rfl ?_
            exact RunL.segEnd (Sub.cons rfl (Sub.skip rfl (Sub.skip rfl (Sub.skip rfl (Sub.skip rfl (Sub.skip rfl (Sub.skip rfl (Sub.skip rfl (Sub.skip rfl (Sub.skip rfl (Sub.skip rfl (Sub.skip rfl (Sub.same rfl (by rw [g195]) (Sub.refl _)))))))))))))) (List.Sublist.refl _)
          ) (fun g195 => by
            have g195' := g195
            try simp only [decide_eq_true_eq, decide_eq_false_iff_not, Bool.not_eq_true', Bool.not_eq_false', Bool.and_eq_true, Bool.or_eq_true, Bool.and_eq_false_iff, Bool.or_eq_false_iff, Int.not_le, Int.not_lt] at g195'
            iterate 30 refine RunL.no rfl rfl rfl ?_
            refine RunL.val (Val.pure rfl) rfl rfl rfl ?_
            exact RunL.segEnd (Sub.cons rfl (Sub.skip rfl (Sub.skip rfl (Sub.skip rfl (Sub.skip rfl (Sub.skip rfl (Sub.skip rfl (Sub.skip rfl (Sub.skip rfl (Sub.skip rfl (Sub.skip rfl (Sub.skip rfl (Sub.skip rfl (Sub.skip rfl (Sub.skip rfl (Sub.skip rfl (Sub.skip rfl (Sub.skip rfl (Sub.skip rfl (Sub.skip rfl (Sub.skip rfl (Sub.skip rfl (Sub.skip rfl (Sub.skip rfl (Sub.skip rfl (Sub.skip rfl (Sub.skip rfl (Sub.skip rfl (Sub.skip rfl (Sub.skip rfl (Sub.skip rfl (Sub.skip rfl (Sub.same rfl (by rw [g195]) (Sub.refl _)))))))))))))))))))))))))))))))))) (List.Sublist.refl _)
          ) ?_
          refine RunL.val (Val.pure rfl) rfl rfl rfl ?_
          exact RunL.segEnd (Sub.cons rfl (Sub.skip rfl (Sub.skip rfl (Sub.skip rfl (Sub.skip rfl (Sub.skip rfl (Sub.same rfl (by rw [g192]) (Sub.refl _)))))))) (List.Sublist.refl _)
        ) (fun g192 => by
          have g192' := g192
          try simp only [decide_eq_true_eq, decide_eq_false_iff_not, Bool.not_eq_true', Bool.not_eq_false', Bool.and_eq_true, Bool.or_eq_true, Bool.and_eq_false_iff, Bool.or_eq_false_iff, Int.not_le, Int.not_lt] at g192'
          iterate 34 refine RunL.no rfl rfl rfl ?_
          refine RunL.val (Val.pure rfl) rfl rfl rfl ?_
          exact RunL.segEnd (Sub.cons rfl (Sub.skip rfl (Sub.skip rfl (Sub.skip rfl (Sub.skip rfl (Sub.skip rfl (Sub.skip rfl (Sub.skip rfl (Sub.skip rfl (Sub.skip rfl (Sub.skip rfl (Sub.skip rfl (Sub.skip rfl (Sub.skip rfl (Sub.skip rfl (Sub.skip rfl (Sub.skip rfl (Sub.skip rfl (Sub.skip rfl (Sub.skip rfl (Sub.skip rfl (Sub.skip rfl (Sub.skip rfl (Sub.skip rfl (Sub.skip rfl (Sub.skip rfl (Sub.skip rfl (Sub.skip rfl (Sub.skip rfl (Sub.skip rfl (Sub.skip rfl (Sub.skip rfl (Sub.skip rfl (Sub.skip rfl (Sub.skip rfl (Sub.skip rfl (Sub.same rfl (by rw [g192]) (Sub.refl _)))))))))))))))))))))))))))))))))))))) (List.Sublist.refl _)
        ) ?_
        refine RunL.nil ?_
        refine RunE.next ?_
        refine RunC.cond rfl (fun h => absurd h (by simp only [nc1, nc2]; by_cases hz : (gSank (nwG g j t (by_ % 4) (by_ % 3) (by_ % 5)) k).2 = 0; obtain ⟨q1, q2, q3, q4, q5⟩ := nc3 (nc2.trans hz); rw [nc1] at q1; simp [hz, q1]; omega; simp [hz])) ?_
        intro c4
        clear c4
        refine RunC.skip ?_
        refine RunE.block_normal ?_
        refine RunE.next ?_
        refine RunC.region ?_
        refine RunL.val (Val.add rfl rfl (IntWalk.i64_in _ ⟨by omega, by omega⟩)) rfl rfl rfl ?_
        refine RunL.val (Val.pure rfl) rfl rfl rfl ?_
        refine RunL.nil ?_
        exact RunE.round (by omega) trivial rfl (Sub.consE (t := 157) rfl rfl (Sub.cons (t := 3) rfl (Sub.cons (t := 7) rfl (Sub.cons (t := 156) rfl (Sub.nil _))))) (.cons (.there (.there (.there (.there .here)))) rfl (.cons (.there (.there (.there (.there .here)))) rfl (.cons (.there (.there (.there (.there .here)))) rfl .nil)))
      · intro c3
        have c3' := c3; clear c3
        try simp only [decide_eq_true_eq, decide_eq_false_iff_not, Bool.not_eq_true', Bool.not_eq_false', Bool.and_eq_true, Bool.or_eq_true, Bool.and_eq_false_iff, Bool.or_eq_false_iff, Int.not_le, Int.not_lt] at c3'
        obtain rfl : k = g.f.things.length := by omega
        refine RunC.exit ?_
        refine RunE.pass_exit ?_
        refine RunE.pass_exit ?_
        refine RunE.block_here ?_
        refine RunE.next ?_
        refine RunC.seq ?_
        refine RunC.region ?_
        refine RunL.callP (isCall_func rfl ent_10) rfl rfl rfl (fun w hm => alive_calls w) ?_
        refine RunL.val (Val.pure rfl) rfl rfl rfl ?_
        refine RunL.nil ?_
        refine RunE.next ?_
        refine RunC.ret ?_
        exact RunE.retP (.r1 rfl (.tmp rfl)) (by first | rfl | simp)
end Go.Proofs.Ytjijeeadmhpfcaa
/- Walks of the laws of layer 5: YearsTrue: what is drawn. -/
set_option linter.unusedSimpArgs false
set_option linter.unusedVariables false
namespace Go.Proofs.Ytjijeeadmhpfcaa
open Go Go.Eng Go.Pw1

/-- The numbers by which all is drawn. -/
structure By (l : List Int) : Prop where
  pos : 0 < l.length
  le : l.length ≤ maxLen
  rng : ∀ v ∈ l, 0 ≤ v ∧ v ≤ 65535
abbrev u16s (l : List Int) : List (List Value) := l.map fun v => [.int .u16 v]
theorem u16_wrap (n : Int) : 0 ≤ IntKind.u16.wrap n ∧ IntKind.u16.wrap n ≤ 65535 := by
  simp [IntKind.wrap, IntKind.signed, IntKind.bits]
  omega
theorem u16_in {n : Nat} (h : n < 65536) : IntKind.u16.wrap (n : Int) = (n : Int) := by
  simp [IntKind.wrap, IntKind.signed, IntKind.bits]
  omega
theorem next_calls (l : List Int) (hl : By l) (a : Nat) (ha : a ≤ 10000) (q : Option Addr) (b o cap bat bby : Nat) (W : World) (hat : W.heap[bat]? = some (.cells [.int .i64 (a : Int)].toArray 3 (0, 0)))
    (hby : W.heap[bby]? = some (.cells [.slice q l.length cap].toArray 42 (0, 0))) (hne : bby ≠ bat) (hbb : b ≠ bat) (hS : Sl W q b o 1 (u16s l)) :
    Calls Try.prog 26 #[.pointer (some ⟨bat, 0, none⟩), .pointer (some ⟨bby, 0, none⟩)] W (TurnsX bat (.cells [.int .i64 ((a + 1 : Nat) : Int)].toArray 3 (0, 0)) (fun r : Int => .int .u16 r) (fun r => 0 ≤ r ∧ r ≤ 65535) W) := by
  have hil : (a + 1) % l.length < l.length := Nat.mod_lt _ hl.pos
  have hle := hl.le
  obtain ⟨v, hv⟩ : ∃ v, l[(a + 1) % l.length] = v := ⟨_, rfl⟩
  have hvr := hl.rng v (hv ▸ List.getElem_mem hil)
  refine calls_start_chg hat Try.func26 rfl rfl ?_
  refine RunC.seq ?_
  refine RunC.region ?_
  refine RunL.val (Val.pure rfl) rfl rfl rfl ?_
  refine RunL.nil ?_
  refine RunE.next ?_
  refine RunC.seq ?_
  refine RunC.region ?_
  refine RunL.val (Val.load_one rfl (.head _) ty_3 rfl) rfl rfl rfl ?_
  refine RunL.val (Val.addN (b := 1) (a + 1) rfl rfl rfl (i64_inN (by omega))) rfl rfl rfl ?_
  refine RunL.sto (Sto.store_chg rfl rfl .here ty_3 rfl rfl) rfl rfl ?_
  refine RunL.nil ?_
  refine RunE.next ?_
  refine RunC.seq ?_
  refine RunC.draw 10 fol_ .nil ?_
  refine RunA.val (i := 0) rfl (by kernel_rfl) (by kernel_rfl) (Val.oload_one rfl hby (by simp [hne]) ty_42 rfl) rfl rfl rfl (fun _ _ _ h => h) .nil rfl ?_
  refine RunA.val (i := 1) rfl (by kernel_rfl) (by kernel_rfl) (Val.load_one rfl (.head _) ty_3 rfl) rfl rfl rfl (fun _ _ _ h => h) .nil rfl ?_
  refine RunA.val (i := 2) rfl (by kernel_rfl) (by kernel_rfl) (Val.oload_one rfl hby (by simp [hne]) ty_42 rfl) rfl rfl rfl (fun _ _ _ h => h) .nil rfl ?_
  refine RunA.val (i := 3) rfl (by kernel_rfl) (by kernel_rfl) (Val.len_sl rfl sl_42) rfl rfl rfl (fun _ _ _ h => h) .nil rfl ?_
  refine RunA.val (i := 4) rfl (by kernel_rfl) (by kernel_rfl) (Val.remN (a := a + 1) (b := l.length) rfl rfl hl.pos) rfl rfl rfl (fun _ _ _ h => h) .nil rfl ?_
  refine RunA.val (i := 5) rfl (by kernel_rfl) (by kernel_rfl) (Val.indexAddr_slp rfl rfl sl_42 (by omega) (by omega) (hS.ptrM hil)) rfl rfl rfl (fun _ _ _ h => h) .nil rfl ?_
  refine RunA.val (i := 6) rfl (by kernel_rfl) (by kernel_rfl) (Val.load_gen rfl (fun w hm => hS.loadM1 (by decide) hm (by simp [hbb]) ty_46 hil (v := .int .u16 v) (by simp [hv]))) rfl rfl rfl (fun _ _ _ h => h) .nil rfl ?_
  refine RunA.val (i := 7) rfl (by kernel_rfl) (by kernel_rfl) (Val.load_one rfl (.head _) ty_3 rfl) rfl rfl rfl (fun _ _ _ h => h) .nil rfl ?_
  refine RunA.val (i := 8) rfl (by kernel_rfl) (by kernel_rfl) (Val.convInt rfl und_3 und_46 (u16_in (by omega))) rfl rfl rfl (fun _ _ _ h => h) .nil rfl ?_
  refine RunA.val (i := 9) rfl (by kernel_rfl) (by kernel_rfl) (Val.mul_wrap rfl rfl) rfl rfl rfl (fun _ _ _ h => h) .nil rfl ?_
  refine RunA.toB (by kernel_rfl) ?_
  refine RunB.one (i := 10) (by kernel_rfl) ?_
  refine RunI.val rfl (Val.add_wrap rfl rfl) rfl rfl rfl (RunK.toB ?_)
  refine RunB.one (i := 11) (by kernel_rfl) ?_
  refine RunI.val rfl (Val.pure rfl) rfl rfl rfl (RunK.toB ?_)
  refine RunB.done (by kernel_rfl) ?_
  refine RunE.next ?_
  refine RunC.ret ?_
  exact RunE.retX _ (u16_wrap _) (.r1 rfl (.tmp rfl)) rfl
def pickZ (s : Int × Int) (r : Int) : Int := s.1 + r % (s.2 - s.1 + 1)
theorem pickZ_in {s : Int × Int} (h : s.1 ≤ s.2) (r : Int) : s.1 ≤ pickZ s r ∧ pickZ s r ≤ s.2 := by
  unfold pickZ
  have h1 := Int.emod_nonneg r (show s.2 - s.1 + 1 ≠ 0 by omega)
  have h2 := Int.emod_lt_of_pos r (show 0 < s.2 - s.1 + 1 by omega)
  omega
theorem pick_calls (s : Int × Int) (h : s.1 ≤ s.2) (hb : -1000000000000 ≤ s.1 ∧ s.2 ≤ 1000000000000) (r : Int) (hr : 0 ≤ r ∧ r ≤ 65535) (W : World) : Calls Try.prog 28 #[b2v s, .int .u16 r] W (Pure (.int .i64 (pickZ s r)) W) := by
  have h1 := Int.emod_nonneg r (show s.2 - s.1 + 1 ≠ 0 by omega)
  have h2 := Int.emod_lt_of_pos r (show 0 < s.2 - s.1 + 1 by omega)
  refine calls_start Try.func28 rfl rfl ?_
  refine RunC.seq ?_
  refine RunC.region ?_
  refine RunL.new (New.box rfl) rfl rfl rfl (fun b2 => ?_)
  refine RunL.val (Val.pure rfl) rfl rfl rfl ?_
  refine RunL.nil ?_
  refine RunE.next ?_
  refine RunC.seq ?_
  refine RunC.draw 11 fol_ (.cons .here rfl .nil) ?_
  refine RunA.val (i := 0) rfl (by kernel_rfl) (by kernel_rfl) (Val.fieldAddr rfl fld_23_0) rfl rfl rfl (fun _ _ _ h => h) (.cons .here rfl .nil) rfl ?_
  refine RunA.val (i := 1) rfl (by kernel_rfl) (by kernel_rfl) (Val.load_one rfl (.head _) ty_3 rfl) rfl rfl rfl (fun _ _ _ h => h) (.cons .here rfl .nil) rfl ?_
  refine RunA.val (i := 2) rfl (by kernel_rfl) (by kernel_rfl) (Val.pure rfl) rfl rfl rfl (fun _ _ _ h => h) (.cons .here rfl .nil) rfl ?_
  refine RunA.val (i := 3) rfl (by kernel_rfl) (by kernel_rfl) (Val.convInt rfl und_46 und_3 (IntWalk.i64_in _ ⟨by omega, by omega⟩)) rfl rfl rfl (fun _ _ _ h => h) (.cons .here rfl .nil) rfl ?_
  refine RunA.val (i := 4) rfl (by kernel_rfl) (by kernel_rfl) (Val.fieldAddr rfl fld_23_1) rfl rfl rfl (fun _ _ _ h => h) (.cons .here rfl .nil) rfl ?_
  refine RunA.val (i := 5) rfl (by kernel_rfl) (by kernel_rfl) (Val.load_one rfl (.head _) ty_3 rfl) rfl rfl rfl (fun _ _ _ h => h) (.cons .here rfl .nil) rfl ?_
  refine RunA.val (i := 6) rfl (by kernel_rfl) (by kernel_rfl) (Val.fieldAddr rfl fld_23_0) rfl rfl rfl (fun _ _ _ h => h) (.cons .here rfl .nil) rfl ?_
  refine RunA.val (i := 7) rfl (by kernel_rfl) (by kernel_rfl) (Val.load_one rfl (.head _) ty_3 rfl) rfl rfl rfl (fun _ _ _ h => h) (.cons .here rfl .nil) rfl ?_
  refine RunA.val (i := 8) rfl (by kernel_rfl) (by kernel_rfl) (Val.sub' rfl rfl (IntWalk.i64_in _ ⟨by omega, by omega⟩)) rfl rfl rfl (fun _ _ _ h => h) (.cons .here rfl .nil) rfl ?_
  refine RunA.val (i := 9) rfl (by kernel_rfl) (by kernel_rfl) (Val.add rfl rfl (IntWalk.i64_in _ ⟨by omega, by omega⟩)) rfl rfl rfl (fun _ _ _ h => h) (.cons .here rfl .nil) rfl ?_
  refine RunA.val (i := 10) rfl (by kernel_rfl) (by kernel_rfl) (Val.rem rfl rfl (by omega) (by omega)) rfl rfl rfl (fun _ _ _ h => h) (.cons .here rfl .nil) rfl ?_
  refine RunA.toB (by kernel_rfl) ?_
  refine RunB.one (i := 11) (by kernel_rfl) ?_
  refine RunI.val rfl (Val.add rfl rfl (IntWalk.i64_in _ ⟨by omega, by omega⟩)) rfl rfl rfl (RunK.toB ?_)
  refine RunB.one (i := 12) (by kernel_rfl) ?_
  refine RunI.val rfl (Val.pure rfl) rfl rfl rfl (RunK.toB ?_)
  refine RunB.done (by kernel_rfl) ?_
  refine RunE.next ?_
  refine RunC.ret ?_
  exact RunE.retP (.r1 rfl (.tmp rfl)) (by first | rfl | simp [pickZ])
end Go.Proofs.Ytjijeeadmhpfcaa
/- Layer 5, plain facts for YearsTrue. -/
set_option linter.unusedSimpArgs false
set_option linter.unusedVariables false
namespace Go.Pw1
open Go Go.Eng
open Go.Proofs.Ytjijeeadmhpfcaa (glacierR)
/-- Rounded up: with less to go, and a greater step, no later. -/
theorem up_mono {n n' m m' : Int} (h0 : 0 ≤ n') (h1 : n' ≤ n) (h2 : 0 < m) (h3 : m ≤ m') : -(-n' / m') ≤ -(-n / m) := by
  have e1 : -n / m ≤ -n' / m' := by
    rw [Int.le_ediv_iff_mul_le (show 0 < m' by omega)]
    have a1 := Int.ediv_mul_le (-n) (show m ≠ 0 by omega)
    have a2 : -n / m ≤ 0 := by
      have := Int.ediv_le_ediv h2 (show -n ≤ 0 by omega)
      simpa using this
    have a3 := Int.mul_le_mul_of_nonneg_left h3 (show 0 ≤ -(-n / m) by omega)
    rw [Int.neg_mul, Int.neg_mul] at a3
    omega
  omega
theorem up_nonneg {n m : Int} (h0 : 0 ≤ n) (h2 : 0 < m) : 0 ≤ -(-n / m) := by
  have := Int.ediv_le_ediv h2 (show -n ≤ 0 by omega)
  simp at this
  omega
theorem dayG_mono {g : Gl} (hd : 0 ≤ g.d1 ∧ g.d1 < g.d2 ∧ g.d2 ≤ 65536) {a a' b b' goal : Int} (ha : a ≤ a') (hb : b' ≤ b) :
    (dayG g a' b' goal = -1 → dayG g a b goal = -1) ∧ (dayG g a b goal ≠ -1 → dayG g a' b' goal ≠ -1 ∧ dayG g a' b' goal ≤ dayG g a b goal) := by
  unfold dayG
  by_cases h1 : b ≤ goal
  · rw [if_pos h1, if_pos (show b' ≤ goal by omega)]
    exact ⟨fun h => h, fun h => ⟨h, Int.le_refl _⟩⟩
  · rw [if_neg h1]
    by_cases h2 : a ≤ b
    · rw [if_pos h2]
      exact ⟨fun _ => rfl, fun h => absurd rfl h⟩
    · rw [if_neg h2]
      have hN : 0 ≤ g.d2 - g.d1 := by omega
      have hx := up_nonneg (n := (b - goal) * (g.d2 - g.d1)) (m := a - b) (Int.mul_nonneg (by omega) hN) (by omega)
      by_cases h3 : b' ≤ goal
      · rw [if_pos h3]
        exact ⟨fun h => by omega, fun _ => ⟨by omega, by split <;> omega⟩⟩
      · rw [if_neg h3, if_neg (show ¬ a' ≤ b' by omega)]
        have hm := up_mono (n := (b - goal) * (g.d2 - g.d1)) (n' := (b' - goal) * (g.d2 - g.d1)) (m := a - b) (m' := a' - b') (Int.mul_nonneg (by omega) hN) (Int.mul_le_mul_of_nonneg_right (by omega) hN) (by omega) (by omega)
        have hx' := up_nonneg (n := (b' - goal) * (g.d2 - g.d1)) (m := a' - b') (Int.mul_nonneg (by omega) hN) (by omega)
        constructor
        · split <;> split <;> omega
        · split <;> split <;> omega
theorem dayG_ge {g : Gl} (hd : 0 ≤ g.d1 ∧ g.d1 < g.d2 ∧ g.d2 ≤ 65536) (a b goal : Int) : dayG g a b goal = -1 ∨ 0 ≤ dayG g a b goal := by
  unfold dayG
  by_cases h1 : b ≤ goal
  · rw [if_pos h1]; omega
  · rw [if_neg h1]
    by_cases h2 : a ≤ b
    · rw [if_pos h2]; omega
    · rw [if_neg h2]
      have hx := up_nonneg (n := (b - goal) * (g.d2 - g.d1)) (m := a - b) (Int.mul_nonneg (by omega) (by omega)) (by omega)
      split <;> omega
theorem leastF_hit (g : Gl) : ∀ (l : List Nat), l ≠ [] → (leastF g l).2 = true ∧ ∃ i ∈ l, (leastF g l).1 = (mvZ g i).2 := by
  have key : ∀ (l : List Nat) (a : Int × Bool), (a.2 = true ∨ l ≠ []) → (l.foldl (fun a i => if !a.2 || decide ((mvZ g i).2 < a.1) then ((mvZ g i).2, true) else a) a).2 = true ∧ ((a.2 = true ∧ (l.foldl (fun a i => if !a.2 || decide ((mvZ g i).2 < a.1) then ((mvZ g i).2, true) else a) a).1 = a.1) ∨ ∃ i ∈ l, (l.foldl (fun a i => if !a.2 || decide ((mvZ g i).2 < a.1) then ((mvZ g i).2, true) else a) a).1 = (mvZ g i).2) := by
    intro l
    induction l with
    | nil => intro a ha; rcases ha with h | h; exact ⟨h, .inl ⟨h, rfl⟩⟩; exact absurd rfl h
    | cons i l ih =>
      intro a _
      rw [List.foldl_cons]
      by_cases hc : (!a.2 || decide ((mvZ g i).2 < a.1)) = true
      · rw [if_pos hc]
        obtain ⟨h1, h2⟩ := ih ((mvZ g i).2, true) (.inl rfl)
        refine ⟨h1, .inr ?_⟩
        rcases h2 with ⟨_, h2⟩ | ⟨j, hj, h2⟩
        · exact ⟨i, by simp, h2⟩
        · exact ⟨j, by simp [hj], h2⟩
      · rw [if_neg hc]
        have ha : a.2 = true := by
          cases h : a.2 with
          | true => rfl
          | false => rw [h] at hc; simp at hc
        obtain ⟨h1, h2⟩ := ih a (.inl ha)
        refine ⟨h1, ?_⟩
        rcases h2 with h2 | ⟨j, hj, h2⟩
        · exact .inl h2
        · exact .inr ⟨j, by simp [hj], h2⟩
  intro l hl
  obtain ⟨h1, h2⟩ := key l (0, false) (.inr hl)
  refine ⟨h1, ?_⟩
  rcases h2 with ⟨h, _⟩ | h
  · cases h
  · exact h
/-- The one that truly came nearest so far. -/
def BestP (g : Gl) (k : Nat) (best near : Int) : Prop :=
  (best = -1 ∧ ∀ i : Nat, i < k → seenG g i = false) ∨ ∃ b : Nat, best = b ∧ b < k ∧ seenG g b = true ∧ (mvZ g b).1 ≤ near ∧ ∀ i : Nat, i < k → seenG g i = true → near ≤ (mvZ g i).2
theorem BestP.start (g : Gl) (near : Int) : BestP g 0 (-1) near := .inl ⟨rfl, fun i hi => by omega⟩
theorem BestP.rng {g : Gl} {k : Nat} {best near : Int} (h : BestP g k best near) : -1 ≤ best ∧ best ≤ k := by
  rcases h with ⟨h, _⟩ | ⟨b, h, hb, _⟩ <;> omega
theorem BestP.skip {g : Gl} {k : Nat} {best near : Int} (h : BestP g k best near) (hs : seenG g k = false) : BestP g (k + 1) best near := by
  rcases h with ⟨h1, h2⟩ | ⟨b, h1, h2, h3, h4, h5⟩
  · exact .inl ⟨h1, fun i hi => by rcases Nat.lt_succ_iff_lt_or_eq.1 hi with h | rfl; exact h2 i h; exact hs⟩
  · exact .inr ⟨b, h1, by omega, h3, h4, fun i hi his => by rcases Nat.lt_succ_iff_lt_or_eq.1 hi with h | rfl; exact h5 i h his; rw [hs] at his; cases his⟩
theorem BestP.new {g : Gl} {k : Nat} {best near m : Int} (h : BestP g k best near) (hs : seenG g k = true) (h1 : (mvZ g k).1 ≤ m) (h2 : m ≤ (mvZ g k).2) (hc : best < 0 ∨ m < near) : BestP g (k + 1) k m := by
  refine .inr ⟨k, rfl, by omega, hs, h1, fun i hi his => ?_⟩
  rcases Nat.lt_succ_iff_lt_or_eq.1 hi with hlt | rfl
  · rcases h with ⟨_, h3⟩ | ⟨b, hb, _, _, _, h5⟩
    · rw [h3 i hlt] at his; cases his
    · have := h5 i hlt his; omega
  · exact h2
theorem BestP.old {g : Gl} {k : Nat} {best near m : Int} (h : BestP g k best near) (h2 : m ≤ (mvZ g k).2) (hc : 0 ≤ best ∧ near ≤ m) : BestP g (k + 1) best near := by
  rcases h with ⟨h1, _⟩ | ⟨b, hb, h1, h3, h4, h5⟩
  · omega
  · exact .inr ⟨b, hb, by omega, h3, h4, fun i hi his => by rcases Nat.lt_succ_iff_lt_or_eq.1 hi with h | rfl; exact h5 i h his; omega⟩
theorem fast_none {g : Gl} {k : Nat} (hk : g.f.things.length = k) {best near : Int} (h : BestP g k best near) (hb : best < 0) (p : Nat → Bool) : setL p (seenL g) = 0 := by
  have : seenL g = [] := by
    cases hl : seenL g with
    | nil => rfl
    | cons i l =>
      exfalso
      have hi := seenL_mem.1 (show i ∈ seenL g by rw [hl]; simp)
      rcases h with ⟨_, h2⟩ | ⟨b, hb', _⟩
      · rw [h2 i (by omega)] at hi; cases hi.2
      · omega
  rw [this]; rfl
theorem fast_some {g : Gl} {k : Nat} (hk : g.f.things.length = k) {best near : Int} (h : BestP g k best near) (hb : 0 ≤ best) : ∃ b : Nat, best = b ∧ b < k ∧ (setL (fun i => decide ((mvZ g i).1 ≤ (leastF g (seenL g)).1)) (seenL g)).testBit b = true := by
  rcases h with ⟨h1, _⟩ | ⟨b, h1, h2, h3, h4, h5⟩
  · omega
  · refine ⟨b, h1, h2, ?_⟩
    have hm := seenL_mem.2 ⟨show b < g.f.things.length by omega, h3⟩
    obtain ⟨_, i, hi, he⟩ := leastF_hit g (seenL g) (by intro e; rw [e] at hm; cases hm)
    have his := seenL_mem.1 hi
    have h6 := h5 i (by omega) his.2
    rw [setL_bit]
    simp only [Bool.and_eq_true, decide_eq_true_eq]
    exact ⟨hm, by omega⟩
/-- What the package tells of a thing that is seen, and true numbers of it. -/
theorem true_at {g : Gl} {v : Bool} {u : Unit} (ho : openG g v = .ok u) (hg : glacierR g = true) {i : Nat} (hi : i < g.f.things.length) (hs : seenG g i = true) {t w : Th} (ht : g.f.things[i] = t) (hw : g.s.things[i]? = some w) {first second y1 f1 y2 f2 : Int}
    (h1 : (farG g i).1.1 ≤ first ∧ first ≤ (farG g i).1.2) (h2 : (farG g i).2.1 ≤ second ∧ second ≤ (farG g i).2.2) (h3 : t.ly.lo ≤ y1 ∧ y1 ≤ t.ly.hi) (h4 : g.f.focal.lo ≤ f1 ∧ f1 ≤ g.f.focal.hi) (h5 : w.ly.lo ≤ y2 ∧ y2 ≤ w.ly.hi) (h6 : g.s.focal.lo ≤ f2 ∧ f2 ≤ g.s.focal.hi) :
    gMoved g i = (mvZ g i, 0) ∧ gHeights g i = (htG g i (farG g i), 0) ∧ gSank g i = (sankZ g i (farG g i), 0) ∧ gRate g i = (rateZ g (mvZ g i), 0) ∧
    ((mvZ g i).1 ≤ second - first ∧ second - first ≤ (mvZ g i).2) ∧ ((htG g i (farG g i)).1.1 ≤ y1 * first / f1 ∧ y1 * first / f1 ≤ (htG g i (farG g i)).1.2) ∧ ((htG g i (farG g i)).2.1 ≤ y2 * second / f2 ∧ y2 * second / f2 ≤ (htG g i (farG g i)).2.2) ∧
    ((sankZ g i (farG g i)).1 ≤ y1 * first / f1 - y2 * second / f2 ∧ y1 * first / f1 - y2 * second / f2 ≤ (sankZ g i (farG g i)).2) ∧
    ((rateZ g (mvZ g i)).1 * (g.d2 - g.d1) ≤ (second - first) * 365 ∧ (second - first) * 365 ≤ (rateZ g (mvZ g i)).2 * (g.d2 - g.d1)) := by
  obtain ⟨hp, hps, hl, hd⟩ := glacier_fit hg
  have hi2 : i < g.s.things.length := by omega
  have hw2 : g.s.things[i] = w := by rw [List.getElem?_eq_getElem hi2] at hw; exact Option.some.inj hw
  have e1 := gMoved_at ho hi
  rw [if_pos hs] at e1
  have e3 := gSank_at ho hi
  rw [if_pos hs] at e3
  have e2 : gHeights g i = (htG g i (farG g i), 0) := by
    unfold gHeights askG
    rw [open_true ho, isThing_of hi]
    simp only [if_true]
    rw [if_pos hs]
  have e4 : gRate g i = (rateZ g (mvZ g i), 0) := by
    unfold gRate askG
    rw [open_true ho, isThing_of hi]
    simp only [if_true]
    rw [if_pos hs]
    rfl
  have hse := hs
  simp only [seenG, Bool.and_eq_true, decide_eq_true_eq] at hse
  have r1 := farS_rng hse.1
  have r2 := farS_rng hse.2
  have hm : (mvZ g i).1 ≤ second - first ∧ second - first ≤ (mvZ g i).2 := by
    simp only [mvZ, movedZ, lessZ]
    omega
  have q1 := htP_in (p := g.f) (t := t) (z := (farG g i).1) (y := y1) (v := first) (f := f1) hp.f1 (by simp only [farG]; omega) h3 h1 h4
  have q2 := htP_in (p := g.s) (t := w) (z := (farG g i).2) (y := y2) (v := second) (f := f2) hps.f1 (by simp only [farG]; omega) h5 h2 h6
  have hh : htG g i (farG g i) = (htP g.f t (farG g i).1, htP g.s w (farG g i).2) := by
    unfold htG
    rw [thingAt_eq hi ht, thingAt_eq hi2 hw2]
  refine ⟨e1, e2, e3, e4, hm, by rw [hh]; exact q1, by rw [hh]; exact q2, ?_, ?_⟩
  · simp only [sankZ, hh, lessZ]
    omega
  · have hN : 0 < g.d2 - g.d1 := by omega
    simp only [rateZ]
    have a1 := Int.ediv_mul_le ((mvZ g i).1 * 365) (show g.d2 - g.d1 ≠ 0 by omega)
    have a2 := Int.ediv_mul_le (-((mvZ g i).2 * 365)) (show g.d2 - g.d1 ≠ 0 by omega)
    rw [Int.neg_mul]
    omega
/-- A set of things that are seen holds none that is not. -/
theorem setL_out {g : Gl} (p : Nat → Bool) {i : Nat} (h : seenG g i = false) : (setL p (seenL g)).testBit i = false := by
  rw [setL_bit]
  have : ¬ i ∈ seenL g := fun hm => by rw [(seenL_mem.1 hm).2] at h; cases h
  simp [this]
theorem true_stays {g : Gl} {i : Nat} (hi : i < g.f.things.length) (hs : seenG g i = true) {m low high : Int} (h1 : (mvZ g i).1 ≤ m ∧ m ≤ (mvZ g i).2) (h2 : (sankZ g i (farG g i)).1 ≤ low - high ∧ low - high ≤ (sankZ g i (farG g i)).2) :
    (m = 0 ∧ low = high → (setL (canB g) (seenL g)).testBit i = true) ∧ (¬ (m = 0 ∧ low = high) → (setL (sureB g) (seenL g)).testBit i = false) := by
  have hm := seenL_mem.2 ⟨hi, hs⟩
  constructor
  · rintro ⟨h3, h4⟩
    rw [setL_bit]
    simp only [Bool.and_eq_true, decide_eq_true_eq]
    refine ⟨hm, ?_⟩
    simp only [canB, has0, Bool.and_eq_true, decide_eq_true_eq]
    omega
  · intro h3
    rw [setL_bit]
    simp only [Bool.and_eq_false_iff]
    right
    cases hc : sureB g i with
    | false => rfl
    | true =>
      exfalso
      simp only [sureB, only0, Bool.and_eq_true, decide_eq_true_eq] at hc
      apply h3
      omega
end Go.Pw1
/- Walks of the laws of layer 5: YearsTrue. -/
set_option linter.unusedSimpArgs false
set_option linter.unusedVariables false
namespace Go.Proofs.Ytjijeeadmhpfcaa
open Go Go.Eng Go.Pw1

theorem ne_of_T {W w : World} {chg news : Blks} {b b' : Nat} {c c' : Array Value} {T T' : TypeId} {f f' : Nat × Nat} (hm : Mem W chg news w) (h : (b, .cells c T f) ∈ chg ++ news) (h' : (b', .cells c' T' f') ∈ chg ++ news) (hT : T ≠ T') : b ≠ b' := fun e => by
  have h1 := hm.at h
  have h2 := hm.at h'
  rw [e, h2] at h1
  simp at h1
  exact hT h1.2.1.symm
theorem stays_err {g : Gl} (hg : glacierR g = true) : (gStays g).2 = (gFastest g).2 ∧ ((gStays g).2 = 0 ∨ (gStays g).2 = 4) ∧ (¬ (gStays g).2 = 0 → (gStays g).1 = (0, 0) ∧ (gFastest g).1 = 0) ∧ ((gStays g).2 = 0 → openG g true = .ok () ∧ gStays g = ((((setL (sureB g) (seenL g) : Nat) : Int), ((setL (canB g) (seenL g) : Nat) : Int)), 0) ∧ gFastest g = (((setL (fun i => decide ((mvZ g i).1 ≤ (leastF g (seenL g)).1)) (seenL g) : Nat) : Int), 0)) := by
  obtain ⟨hp, hps, hl, hd⟩ := glacier_fit hg
  have ho := open_of hp hps hl hd true
  simp only [if_true] at ho
  unfold gStays gFastest
  rw [ho]
  cases isB (allS g.f) && isB (allS g.s) <;> simp
theorem ymul_bd {y v : Int} (hy : -4000 ≤ y ∧ y ≤ 4000) (hv : 0 ≤ v ∧ v ≤ 1073741824) : -4294967296000 ≤ y * v ∧ y * v ≤ 4294967296000 := by
  have m1 := Int.mul_le_mul_of_nonneg_right hy.1 hv.1
  have m2 := Int.mul_le_mul_of_nonneg_right hy.2 hv.1
  omega
theorem rate_prod {a N : Int} (hN : 0 < N ∧ N ≤ 65536) (ha : -500000000000 ≤ a ∧ a ≤ 500000000000) : (-600000000000 ≤ a / N * N ∧ a / N * N ≤ 600000000000) ∧ -600000000000 ≤ -(-a / N) * N ∧ -(-a / N) * N ≤ 600000000000 := by
  have h1 := Int.mul_ediv_add_emod a N
  have h2 := Int.emod_nonneg a (show N ≠ 0 by omega)
  have h3 := Int.emod_lt_of_pos a hN.1
  have g1 := Int.mul_ediv_add_emod (-a) N
  have g2 := Int.emod_nonneg (-a) (show N ≠ 0 by omega)
  have g3 := Int.emod_lt_of_pos (-a) hN.1
  rw [Int.mul_comm] at h1 g1
  rw [Int.neg_mul]
  omega
theorem true_c8 {s1 s2 k : Nat} {b : Bool} (h1 : b = true → s2.testBit k = true) (h2 : b = false → s1.testBit k = false) : ((b && decide (((s2 >>> k &&& 1 : Nat) : Int) = 0)) || (!b && decide (((s1 >>> k &&& 1 : Nat) : Int) = 1))) = false := by
  cases b with
  | true =>
    have h3 : ¬ ((s2 >>> k &&& 1 : Nat) : Int) = 0 := fun h => by rw [bit_zero h] at h1; simp at h1
    rw [decide_eq_false h3]; rfl
  | false =>
    rw [bit_dec, h2 rfl]; rfl
theorem true_days {g : Gl} (hd : 0 ≤ g.d1 ∧ g.d1 < g.d2 ∧ g.d2 ≤ 65536) {z : Z2} {first second goal : Int} (h1 : z.1.1 ≤ first ∧ first ≤ z.1.2) (h2 : z.2.1 ≤ second ∧ second ≤ z.2.2) {D : Int} (hD : dayG g first second goal = D) {A : (Int × Int) × Int} (hA : arrG g goal z = A) :
    ((!decide (A.2 = 0) && !decide (A.2 = 4)) || (decide (A.2 = 4) && !decide (D = -1))) = false ∧
    (decide (A.2 = 0) && ((!decide (D = -1) && (decide (D < A.1.1) || (!decide (A.1.2 = -1) && decide (A.1.2 < D)))) || (decide (D = -1) && !decide (A.1.2 = -1)))) = false := by
  have m1 := dayG_mono hd (goal := goal) h1.2 h2.1
  have m2 := dayG_mono hd (goal := goal) h1.1 h2.2
  rw [hD] at m1 m2
  subst hA
  unfold arrG
  split
  · rename_i hU
    have := m1.1 hU
    simp [this]
  · rename_i hU
    simp only [decide_true, Bool.not_true, Bool.false_and, Bool.false_or, Bool.true_and]
    refine ⟨by simp, ?_⟩
    by_cases hDm : D = -1
    · simp [hDm, m2.1 hDm]
    · have h3 := (m1.2 hDm).2
      simp only [hDm, decide_false, Bool.not_false, Bool.true_and, Bool.false_and, Bool.or_false, Bool.or_eq_false_iff, Bool.and_eq_false_iff, Bool.not_eq_false', decide_eq_false_iff_not, decide_eq_true_eq]
      refine ⟨by omega, ?_⟩
      by_cases hV : dayG g z.1.1 z.2.2 goal = -1
      · exact .inl hV
      · have := (m2.2 hV).2
        right; omega
theorem true_end {g : Gl} {k : Nat} (hk : g.f.things.length = k) {best near : Int} (h : BestP g k best near) {s3 bn : Nat} (hs3 : setL (fun i => decide ((mvZ g i).1 ≤ (leastF g (seenL g)).1)) (seenL g) = s3) (hb : max 0 best = (bn : Int)) :
    ((decide (best < 0) && decide ((s3 : Int) = 0)) || (decide (0 ≤ best) && decide (((s3 >>> bn &&& 1 : Nat) : Int) = 1))) = true := by
  by_cases h0 : best < 0
  · have := fast_none hk h h0 (fun i => decide ((mvZ g i).1 ≤ (leastF g (seenL g)).1))
    rw [hs3] at this
    simp [h0, this]
  · obtain ⟨b, h1, h2, h3⟩ := fast_some hk h (show 0 ≤ best by omega)
    rw [hs3] at h3
    have : b = bn := by omega
    subst this
    rw [bit_dec, h3]
    simp; omega
set_option maxHeartbeats 4000000 in
set_option maxRecDepth 100000 in
theorem trueY_calls (g : Gl) (a : Ga) (l : List Int) (hlm : l.length ≤ maxLen) (hlr : ∀ v ∈ l, 0 ≤ v ∧ v ≤ 65535) (q : Option Addr) (b o cap : Nat) (W : World) (hS : GSl W g a) (hB : Sl W q b o 1 (u16s l)) : Calls Try.prog 5 #[g.v a, .slice q l.length cap] W (Pure (.bool true) W) := by
  refine calls_start Try.func5 rfl rfl ?_
  refine RunC.seq ?_
  refine RunC.region ?_
  refine RunL.new (New.box rfl) rfl rfl rfl (fun b2 => ?_)
  refine RunL.new (New.box rfl) rfl rfl rfl (fun b3 => ?_)
  refine RunL.val (Val.pure rfl) rfl rfl rfl ?_
  refine RunL.nil ?_
  refine RunE.next ?_
  refine RunC.seq ?_
  refine RunC.seq ?_
  refine RunC.region ?_
  refine RunL.val (Val.load_agg rfl (.tail _ (.head _)) ty_28 rfl) rfl rfl rfl ?_
  refine RunL.callP (isCall_func rfl ent_9) rfl rfl rfl (fun w hm => great_calls g a 12 w (hS.mono hm)) ?_
  refine RunL.val (Val.pure rfl) rfl rfl rfl ?_
  refine RunL.orPart (dj := 42) (dp := 46) 4 rfl (fun g42 => by
    have g42' := g42
    try simp only [decide_eq_true_eq, decide_eq_false_iff_not, Bool.not_eq_true', Bool.not_eq_false', Bool.and_eq_true, Bool.or_eq_true, Bool.and_eq_false_iff, Bool.or_eq_false_iff, Int.not_le, Int.not_lt] at g42'
    refine RunL.val (Val.load_one rfl (.head _) ty_42 rfl) rfl rfl rfl ?_
    refine RunL.val (Val.len_sl rfl sl_42) rfl rfl rfl ?_
    refine RunL.val (Val.pure rfl) rfl rfl rfl ?_
    refine RunL.val (Val.pure rfl) rfl rfl rfl ?_
    exact RunL.segEnd (Sub.cons rfl (Sub.skip rfl (Sub.skip rfl (Sub.skip rfl (Sub.skip rfl (Sub.same rfl (by rw [g42]) (Sub.refl _))))))) (List.Sublist.refl _)
  ) (fun g42 => by
    have g42' := g42
    try simp only [decide_eq_true_eq, decide_eq_false_iff_not, Bool.not_eq_true', Bool.not_eq_false', Bool.and_eq_true, Bool.or_eq_true, Bool.and_eq_false_iff, Bool.or_eq_false_iff, Int.not_le, Int.not_lt] at g42'
    iterate 3 refine RunL.no rfl rfl rfl ?_
    refine RunL.val (Val.pure rfl) rfl rfl rfl ?_
    exact RunL.segEnd (Sub.cons rfl (Sub.skip rfl (Sub.skip rfl (Sub.skip rfl (Sub.skip rfl (Sub.same rfl (by rw [g42]) (Sub.refl _))))))) (List.Sublist.refl _)
  ) ?_
  refine RunL.val (Val.pure rfl) rfl rfl rfl ?_
  refine RunL.orPart (dj := 47) (dp := 51) 4 rfl (fun g47 => by
    have g47' := g47
    try simp only [decide_eq_true_eq, decide_eq_false_iff_not, Bool.not_eq_true', Bool.not_eq_false', Bool.and_eq_true, Bool.or_eq_true, Bool.and_eq_false_iff, Bool.or_eq_false_iff, Int.not_le, Int.not_lt] at g47'
    refine RunL.val (Val.load_agg rfl (.tail _ (.head _)) ty_28 rfl) rfl rfl rfl ?_
    refine RunL.callP (isCall_func rfl ent_23) rfl rfl rfl (fun w hm => rGlacier_calls g a w (great_no g47'.1 (hS.mono hm)).1) ?_
    refine RunL.val (Val.pure rfl) rfl rfl rfl ?_
    refine RunL.val (Val.pure rfl) rfl rfl rfl ?_
    exact RunL.segEnd (Sub.cons rfl (Sub.skip rfl (Sub.skip rfl (Sub.skip rfl (Sub.skip rfl (Sub.same rfl (by rw [g47]) (Sub.refl _))))))) (List.Sublist.refl _)
  ) (fun g47 => by
    have g47' := g47
    try simp only [decide_eq_true_eq, decide_eq_false_iff_not, Bool.not_eq_true', Bool.not_eq_false', Bool.and_eq_true, Bool.or_eq_true, Bool.and_eq_false_iff, Bool.or_eq_false_iff, Int.not_le, Int.not_lt] at g47'
    iterate 3 refine RunL.no rfl rfl rfl ?_
    refine RunL.val (Val.pure rfl) rfl rfl rfl ?_
    exact RunL.segEnd (Sub.cons rfl (Sub.skip rfl (Sub.skip rfl (Sub.skip rfl (Sub.skip rfl (Sub.same rfl (by rw [g47]) (Sub.refl _))))))) (List.Sublist.refl _)
  ) ?_
  refine RunL.nil ?_
  refine RunE.next ?_
  refine RunC.cond rfl ?_ ?_
  · intro c0
    have c0' := c0; clear c0
    try simp only [decide_eq_true_eq, decide_eq_false_iff_not, Bool.not_eq_true', Bool.not_eq_false', Bool.and_eq_true, Bool.or_eq_true, Bool.and_eq_false_iff, Bool.or_eq_false_iff, Int.not_le, Int.not_lt] at c0'
    refine RunC.seq ?_
    refine RunC.region ?_
    refine RunL.callP (isCall_func rfl ent_10) rfl rfl rfl (fun w hm => alive_calls w) ?_
    refine RunL.val (Val.pure rfl) rfl rfl rfl ?_
    refine RunL.nil ?_
    refine RunE.next ?_
    refine RunC.ret ?_
    refine RunE.pass_ret ?_
    exact RunE.retP (.r1 rfl (.tmp rfl)) (by first | rfl | simp)
  · intro c0
    have c0' := c0; clear c0
    try simp only [decide_eq_true_eq, decide_eq_false_iff_not, Bool.not_eq_true', Bool.not_eq_false', Bool.and_eq_true, Bool.or_eq_true, Bool.and_eq_false_iff, Bool.or_eq_false_iff, Int.not_le, Int.not_lt] at c0'
    obtain ⟨⟨hgr, hne0⟩, hgl⟩ := c0'
    obtain ⟨hG, hl1, hl2⟩ := great_no hgr hS
    have hpos : 0 < l.length := by omega
    have hlne : u16s l ≠ [] := by intro h; have h2 := congrArg List.length h; simp at h2; rw [h2] at hpos; simp at hpos
    have hl : By l := ⟨hpos, hlm, hlr⟩
    obtain ⟨hp, hps, hll, hd⟩ := glacier_fit hgl
    have hlen := hp.len
    obtain ⟨hef, herr, hen, hok⟩ := stays_err hgl
    have f1 := hp.f1
    have f3 := hp.f3
    have f2 := hp.f2
    have f4 := hps.f1
    have f5 := hps.f3
    have f6 := hps.f2
    refine RunC.skip ?_
    refine RunE.next ?_
    refine RunC.seq ?_
    refine RunC.region ?_
    refine RunL.val (Val.load_agg rfl (.tail _ (.head _)) ty_28 rfl) rfl rfl rfl ?_
    refine RunL.callP (isCall_func rfl ent_24) rfl rfl rfl (fun w hm => yStays_calls g a w (hG.mono hm)) ?_
    iterate 7 refine RunL.val (Val.pure rfl) rfl rfl rfl ?_
    refine RunL.nil ?_
    refine RunE.next ?_
    refine RunC.seq ?_
    refine RunC.region ?_
    refine RunL.val (Val.load_agg rfl (.tail _ (.head _)) ty_28 rfl) rfl rfl rfl ?_
    refine RunL.callP (isCall_func rfl ent_25) rfl rfl rfl (fun w hm => yFastest_calls g a w (hG.mono hm)) ?_
    iterate 5 refine RunL.val (Val.pure rfl) rfl rfl rfl ?_
    refine RunL.nil ?_
    refine RunE.next ?_
    refine RunC.seq ?_
    refine RunC.seq ?_
    refine RunC.region ?_
    iterate 4 refine RunL.val (Val.pure rfl) rfl rfl rfl ?_
    refine RunL.sure (dj := 67) false rfl (by simp [hef]) ?_
    iterate 3 refine RunL.val (Val.pure rfl) rfl rfl rfl ?_
    refine RunL.andPart (dj := 70) (dp := 73) 3 rfl (fun g70 => by
      have g70' := g70
      try simp only [decide_eq_true_eq, decide_eq_false_iff_not, Bool.not_eq_true', Bool.not_eq_false', Bool.and_eq_true, Bool.or_eq_true, Bool.and_eq_false_iff, Bool.or_eq_false_iff, Int.not_le, Int.not_lt] at g70'
      iterate 3 refine RunL.val (Val.pure rfl) rfl rfl rfl ?_
      exact RunL.segEnd (Sub.cons rfl (Sub.skip rfl (Sub.skip rfl (Sub.skip rfl (Sub.same rfl (by rw [g70]) (Sub.refl _)))))) (List.Sublist.refl _)
    ) (fun g70 => by
      have g70' := g70
      try simp only [decide_eq_true_eq, decide_eq_false_iff_not, Bool.not_eq_true', Bool.not_eq_false', Bool.and_eq_true, Bool.or_eq_true, Bool.and_eq_false_iff, Bool.or_eq_false_iff, Int.not_le, Int.not_lt] at g70'
      refine RunL.no rfl rfl rfl ?_
      refine RunL.no rfl rfl rfl ?_
      refine RunL.val (Val.pure rfl) rfl rfl rfl ?_
      exact RunL.segEnd (Sub.cons rfl (Sub.skip rfl (Sub.skip rfl (Sub.skip rfl (Sub.same rfl (by rw [g70]) (Sub.refl _)))))) (List.Sublist.refl _)
    ) ?_
    refine RunL.val (Val.pure rfl) rfl rfl rfl ?_
    refine RunL.nil ?_
    refine RunE.next ?_
    refine RunC.cond rfl (fun h => absurd h (by rcases herr with h | h <;> simp [h])) ?_
    intro c1
    clear c1
    refine RunC.skip ?_
    refine RunE.next ?_
    refine RunC.seq ?_
    refine RunC.seq ?_
    refine RunC.region ?_
    refine RunL.val (Val.pure rfl) rfl rfl rfl ?_
    refine RunL.val (Val.pure rfl) rfl rfl rfl ?_
    refine RunL.nil ?_
    refine RunE.next ?_
    refine RunC.cond rfl ?_ ?_
    · intro c2
      have c2' := c2; clear c2
      try simp only [decide_eq_true_eq, decide_eq_false_iff_not, Bool.not_eq_true', Bool.not_eq_false', Bool.and_eq_true, Bool.or_eq_true, Bool.and_eq_false_iff, Bool.or_eq_false_iff, Int.not_le, Int.not_lt] at c2'
      obtain ⟨en1, en2⟩ := hen (by simpa using c2')
      refine RunC.seq ?_
      refine RunC.region ?_
      iterate 3 refine RunL.val (Val.pure rfl) rfl rfl rfl ?_
      refine RunL.sure (dj := 79) true rfl (by simp [en1]) ?_
      iterate 4 refine RunL.val (Val.pure rfl) rfl rfl rfl ?_
      refine RunL.sure (dj := 83) true rfl (by simp [en1]) ?_
      iterate 4 refine RunL.val (Val.pure rfl) rfl rfl rfl ?_
      refine RunL.sure (dj := 87) true rfl (by simp [en2]) ?_
      refine RunL.callP (isCall_func rfl ent_10) rfl rfl rfl (fun w hm => alive_calls w) ?_
      refine RunL.val (Val.pure rfl) rfl rfl rfl ?_
      refine RunL.val (Val.pure rfl) rfl rfl rfl ?_
      refine RunL.nil ?_
      refine RunE.next ?_
      refine RunC.ret ?_
      refine RunE.pass_ret ?_
      exact RunE.retP (.r1 rfl (.tmp rfl)) (by first | rfl | simp)
    · intro c2
      have c2' := c2; clear c2
      try simp only [decide_eq_true_eq, decide_eq_false_iff_not, Bool.not_eq_true', Bool.not_eq_false', Bool.and_eq_true, Bool.or_eq_true, Bool.and_eq_false_iff, Bool.or_eq_false_iff, Int.not_le, Int.not_lt] at c2'
      obtain ⟨ho, hst, hfa⟩ := hok (by simpa using c2')
      obtain ⟨s1, hs1⟩ : ∃ s, setL (sureB g) (seenL g) = s := ⟨_, rfl⟩
      obtain ⟨s2, hs2⟩ : ∃ s, setL (canB g) (seenL g) = s := ⟨_, rfl⟩
      obtain ⟨s3, hs3⟩ : ∃ s, setL (fun i => decide ((mvZ g i).1 ≤ (leastF g (seenL g)).1)) (seenL g) = s := ⟨_, rfl⟩
      have u1 := setL_ltG (g := g) (sureB g) hlen
      have u2 := setL_ltG (g := g) (canB g) hlen
      have u3 := setL_ltG (g := g) (fun i => decide ((mvZ g i).1 ≤ (leastF g (seenL g)).1)) hlen
      rw [hs1, hs2] at hst
      rw [hs3] at hfa
      rw [hs1] at u1
      rw [hs2] at u2
      rw [hs3] at u3
      simp only [hst, hfa]
      refine RunC.skip ?_
      refine RunE.next ?_
      refine RunC.seq ?_
      refine RunC.region ?_
      refine RunL.new (New.alloc zero_3) rfl rfl rfl (fun b10 => ?_)
      refine RunL.sto (Sto.store rfl rfl .here ty_3 rfl rfl) rfl rfl ?_
      refine RunL.nil ?_
      refine RunE.next ?_
      refine RunC.seq ?_
      refine RunC.region ?_
      refine RunL.val (Val.pure rfl) rfl rfl rfl ?_
      refine RunL.val (Val.pure rfl) rfl rfl rfl ?_
      refine RunL.nil ?_
      refine RunE.next ?_
      refine RunC.seq ?_
      refine RunC.region ?_
      refine RunL.val (Val.pure rfl) rfl rfl rfl ?_
      refine RunL.val (Val.pure rfl) rfl rfl rfl ?_
      refine RunL.nil ?_
      refine RunE.next ?_
      refine RunC.seq ?_
      refine RunC.seq ?_
      refine RunC.region ?_
      refine RunL.val (Val.fieldAddr rfl fld_28_0) rfl rfl rfl ?_
      refine RunL.val (Val.fieldAddr rfl fld_26_5) rfl rfl rfl ?_
      refine RunL.val (Val.load_one rfl (.tail _ (.tail _ (.head _))) ty_24 rfl) rfl rfl rfl ?_
      refine RunL.val (Val.len_sl rfl sl_24) rfl rfl rfl ?_
      refine RunL.val (Val.pure rfl) rfl rfl rfl ?_
      refine RunL.nil ?_
      refine RunE.next ?_
      refine RunC.block ?_
      refine RunC.loopX (X := Nat × Int × Int) (n0 := [(b2, _), (b3, _)]) (g.f.things.length) (fun k x q => (95, .int .i64 (k : Int)) :: (12, .int .i64 x.2.1) :: (13, .int .i64 x.2.2) :: q) (fun _ _ => _) (fun k x => [(b10, .cells [.int .i64 (x.1 : Int)].toArray 3 (0, 0))]) (fun k x => []) (fun k x => x.1 ≤ 10 * k ∧ BestP g k x.2.1 x.2.2) ((0, -1, 0) : Nat × Int × Int) ⟨by decide, BestP.start g 0⟩ rfl (Sub.consE (t := 95) rfl rfl (Sub.consE (t := 12) rfl rfl (Sub.consE (t := 13) rfl rfl (Sub.cons (t := 2) rfl (Sub.cons (t := 5) rfl (Sub.cons (t := 6) rfl (Sub.cons (t := 8) rfl (Sub.cons (t := 11) rfl (Sub.cons (t := 94) rfl (Sub.nil _)))))))))) (.cons .here rfl (.cons (.there .here) rfl (.cons .here rfl (Pick.same rfl)))) ?_
      intro k x kN kI
      obtain ⟨hxa, hxb⟩ := id kI
      refine RunC.seq ?_
      refine RunC.region ?_
      refine RunL.val (Val.pure rfl) rfl rfl rfl ?_
      refine RunL.nil ?_
      refine RunE.next ?_
      refine RunC.seq ?_
      refine RunC.cond rfl ?_ ?_
      · intro c3
        have c3' := c3; clear c3
        try simp only [decide_eq_true_eq, decide_eq_false_iff_not, Bool.not_eq_true', Bool.not_eq_false', Bool.and_eq_true, Bool.or_eq_true, Bool.and_eq_false_iff, Bool.or_eq_false_iff, Int.not_le, Int.not_lt] at c3'
        have hk : k < g.f.things.length := by omega
        have hk2 : k < g.s.things.length := by omega
        obtain ⟨t, ht⟩ : ∃ t, g.f.things[k] = t := ⟨_, rfl⟩
        obtain ⟨tw, htw⟩ : ∃ t, g.s.things[k] = t := ⟨_, rfl⟩
        obtain ⟨hty1, hty2, hty3⟩ := (hp.ths _ (ht ▸ List.getElem_mem hk)).1.2.1
        obtain ⟨htw1, htw2, htw3⟩ := (hps.ths _ (htw ▸ List.getElem_mem hk2)).1.2.1
        have hxr := hxb.rng
        refine RunC.skip ?_
        refine RunE.next ?_
        refine RunC.seq ?_
        refine RunC.block ?_
        refine RunC.seq ?_
        refine RunC.region ?_
        refine RunL.val (Val.pure rfl) rfl rfl rfl ?_
        refine RunL.val (Val.pure rfl) rfl rfl rfl ?_
        refine RunL.nil ?_
        refine RunE.next ?_
        refine RunC.seq ?_
        refine RunC.region ?_
        refine RunL.val (Val.fieldAddr rfl fld_28_0) rfl rfl rfl ?_
        refine RunL.val (Val.load_agg rfl (.tail _ (.head _)) ty_26 rfl) rfl rfl rfl ?_
        refine RunL.val (Val.pure rfl) rfl rfl rfl ?_
        refine RunL.callP (isCall_func rfl ent_27) rfl rfl rfl (fun w hm => Distance_calls g.f k a.q1 a.b1 a.o1 a.c1 w (hG.mono hm).s1 hG.l1) ?_
        iterate 3 refine RunL.val (Val.pure rfl) rfl rfl rfl ?_
        refine RunL.new (New.alloc zero_23) rfl rfl rfl (fun b15 => ?_)
        refine RunL.sto (Sto.store rfl rfl .here ty_23 rfl rfl) rfl rfl ?_
        refine RunL.val (Val.pure rfl) rfl rfl rfl ?_
        refine RunL.nil ?_
        refine RunE.next ?_
        refine RunC.seq ?_
        refine RunC.region ?_
        refine RunL.val (Val.fieldAddr rfl fld_28_1) rfl rfl rfl ?_
        refine RunL.val (Val.load_agg rfl (.tail _ (.tail _ (.head _))) ty_26 rfl) rfl rfl rfl ?_
        refine RunL.val (Val.pure rfl) rfl rfl rfl ?_
        refine RunL.callP (isCall_func rfl ent_27) rfl rfl rfl (fun w hm => Distance_calls g.s k a.q2 a.b2 a.o2 a.c2 w (hG.mono hm).s2 hG.l2) ?_
        iterate 3 refine RunL.val (Val.pure rfl) rfl rfl rfl ?_
        refine RunL.new (New.alloc zero_23) rfl rfl rfl (fun b17 => ?_)
        refine RunL.sto (Sto.store rfl rfl .here ty_23 rfl rfl) rfl rfl ?_
        refine RunL.val (Val.pure rfl) rfl rfl rfl ?_
        refine RunL.nil ?_
        refine RunE.next ?_
        refine RunC.seq ?_
        refine RunC.region ?_
        refine RunL.val (Val.load_agg rfl (.tail _ (.tail _ (.tail _ (.head _)))) ty_28 rfl) rfl rfl rfl ?_
        refine RunL.val (Val.pure rfl) rfl rfl rfl ?_
        refine RunL.callP (isCall_func rfl ent_11) rfl rfl rfl (fun w hm => yMoved_calls g a k w (hG.mono hm)) ?_
        iterate 3 refine RunL.val (Val.pure rfl) rfl rfl rfl ?_
        refine RunL.new (New.alloc zero_23) rfl rfl rfl (fun b19 => ?_)
        refine RunL.sto (Sto.store rfl rfl .here ty_23 rfl rfl) rfl rfl ?_
        refine RunL.val (Val.pure rfl) rfl rfl rfl ?_
        refine RunL.nil ?_
        refine RunE.next ?_
        refine RunC.seq ?_
        refine RunC.seq ?_
        refine RunC.region ?_
        iterate 3 refine RunL.val (Val.pure rfl) rfl rfl rfl ?_
        refine RunL.orPart (dj := 120) (dp := 123) 3 rfl (fun g120 => by
          have g120' := g120
          try simp only [decide_eq_true_eq, decide_eq_false_iff_not, Bool.not_eq_true', Bool.not_eq_false', Bool.and_eq_true, Bool.or_eq_true, Bool.and_eq_false_iff, Bool.or_eq_false_iff, Int.not_le, Int.not_lt] at g120'
          iterate 3 refine RunL.val (Val.pure rfl) rfl rfl rfl ?_
          exact RunL.segEnd (Sub.cons rfl (Sub.skip rfl (Sub.skip rfl (Sub.skip rfl (Sub.same rfl (by rw [g120]) (Sub.refl _)))))) (List.Sublist.refl _)
        ) (fun g120 => by
          have g120' := g120
          try simp only [decide_eq_true_eq, decide_eq_false_iff_not, Bool.not_eq_true', Bool.not_eq_false', Bool.and_eq_true, Bool.or_eq_true, Bool.and_eq_false_iff, Bool.or_eq_false_iff, Int.not_le, Int.not_lt] at g120'
          refine RunL.no rfl rfl rfl ?_
          refine RunL.no rfl rfl rfl ?_
          refine RunL.val (Val.pure rfl) rfl rfl rfl ?_
          exact RunL.segEnd (Sub.cons rfl (Sub.skip rfl (Sub.skip rfl (Sub.skip rfl (Sub.same rfl (by rw [g120]) (Sub.refl _)))))) (List.Sublist.refl _)
        ) ?_
        refine RunL.nil ?_
        refine RunE.next ?_
        refine RunC.cond rfl ?_ ?_
        · intro c4
          have c4' := c4; clear c4
          try simp only [decide_eq_true_eq, decide_eq_false_iff_not, Bool.not_eq_true', Bool.not_eq_false', Bool.and_eq_true, Bool.or_eq_true, Bool.and_eq_false_iff, Bool.or_eq_false_iff, Int.not_le, Int.not_lt] at c4'
          have hse : seenG g k = false := by
            cases h : seenG g k with
            | false => rfl
            | true =>
              simp only [seenG, Bool.and_eq_true, decide_eq_true_eq] at h
              rcases c4' with h1 | h1
              · exact absurd h.1 h1
              · exact absurd h.2 h1
          have e0 : gMoved g k = ((0, 0), 11) := by rw [gMoved_at ho hk, hse]; rfl
          have o1 : s1.testBit k = false := by rw [← hs1]; exact setL_out _ hse
          have o2 : s2.testBit k = false := by rw [← hs2]; exact setL_out _ hse
          have o3 : s3.testBit k = false := by rw [← hs3]; exact setL_out _ hse
          have u12 : s1 ||| s2 < 4096 := Nat.or_lt_two_pow (n := 12) u1 u2
          have u123 : s1 ||| s2 ||| s3 < 4096 := Nat.or_lt_two_pow (n := 12) u12 u3
          refine RunC.seq ?_
          refine RunC.seq ?_
          refine RunC.region ?_
          iterate 3 refine RunL.val (Val.pure rfl) rfl rfl rfl ?_
          refine RunL.sure (dj := 126) false rfl (by simp [e0]) ?_
          refine RunL.val (Val.pure rfl) rfl rfl rfl ?_
          refine RunL.val (Val.pure rfl) rfl rfl rfl ?_
          refine RunL.val (Val.or (a := s1) (b := s2) rfl rfl (by show _ < 18446744073709551616; omega) (by show _ < 18446744073709551616; omega) (i64_inN (by omega))) rfl rfl rfl ?_
          refine RunL.val (Val.pure rfl) rfl rfl rfl ?_
          refine RunL.val (Val.or (a := s1 ||| s2) (b := s3) rfl rfl (by show _ < 18446744073709551616; omega) (by show _ < 18446744073709551616; omega) (i64_inN (by omega))) rfl rfl rfl ?_
          refine RunL.val (Val.pure rfl) rfl rfl rfl ?_
          refine RunL.val (Val.shrN (a := s1 ||| s2 ||| s3) (b := k) rfl rfl (by show k ≤ 64; omega)) rfl rfl rfl ?_
          refine RunL.val (Val.and (a := (s1 ||| s2 ||| s3) >>> k) (b := 1) rfl rfl (by have := Nat.shiftRight_le (s1 ||| s2 ||| s3) k; show _ < 18446744073709551616; omega) (by decide) (i64_inN (by have := Nat.and_le_right (n := (s1 ||| s2 ||| s3) >>> k) (m := 1); omega))) rfl rfl rfl ?_
          refine RunL.val (Val.pure rfl) rfl rfl rfl ?_
          refine RunL.val (Val.pure rfl) rfl rfl rfl ?_
          refine RunL.nil ?_
          refine RunE.next ?_
          refine RunC.cond rfl (fun h => absurd h (by rw [bit_dec]; simp [o1, o2, o3])) ?_
          intro c5
          clear c5
          refine RunC.skip ?_
          refine RunE.next ?_
          refine RunC.exit ?_
          refine RunE.pass_exit ?_
          refine RunE.block_here ?_
          refine RunE.next ?_
          refine RunC.region ?_
          refine RunL.val (Val.add rfl rfl (IntWalk.i64_in _ ⟨by omega, by omega⟩)) rfl rfl rfl ?_
          refine RunL.val (Val.pure rfl) rfl rfl rfl ?_
          refine RunL.nil ?_
          exact RunE.roundX (x.1, x.2.1, x.2.2) (by omega) ⟨by simp only; omega, hxb.skip hse⟩ rfl (Sub.consE (t := 95) rfl rfl (Sub.consE (t := 12) rfl rfl (Sub.consE (t := 13) rfl rfl (Sub.cons (t := 2) rfl (Sub.cons (t := 5) rfl (Sub.cons (t := 6) rfl (Sub.cons (t := 8) rfl (Sub.cons (t := 11) rfl (Sub.cons (t := 94) rfl (Sub.nil _)))))))))) (.cons (.there (.there (.there .here))) rfl (.cons (.there (.there (.there .here))) rfl (.cons (.there (.there (.there .here))) rfl .nil)))
        · intro c4
          have c4' := c4; clear c4
          try simp only [decide_eq_true_eq, decide_eq_false_iff_not, Bool.not_eq_true', Bool.not_eq_false', Bool.and_eq_true, Bool.or_eq_true, Bool.and_eq_false_iff, Bool.or_eq_false_iff, Int.not_le, Int.not_lt] at c4'
          have hd1 : (distX g.f k).2 = 0 := by simpa using c4'.1
          have hd2 : (distX g.s k).2 = 0 := by simpa using c4'.2
          have hse : seenG g k = true := by simp [seenG, hd1, hd2]
          have r1 := farS_rng hd1
          have r2 := farS_rng hd2
          refine RunC.skip ?_
          refine RunE.next ?_
          refine RunC.seq ?_
          refine RunC.seq ?_
          refine RunC.region ?_
          refine RunL.val (Val.fieldAddr rfl fld_23_0) rfl rfl rfl ?_
          refine RunL.val (Val.load_one rfl (.tail _ (.tail _ (.head _))) ty_3 rfl) rfl rfl rfl ?_
          refine RunL.val (Val.pure rfl) rfl rfl rfl ?_
          refine RunL.val (Val.pure rfl) rfl rfl rfl ?_
          refine RunL.sure (dj := 140) false rfl (decide_eq_false (by omega)) ?_
          refine RunL.val (Val.fieldAddr rfl fld_23_0) rfl rfl rfl ?_
          refine RunL.val (Val.load_one rfl (.tail _ (.tail _ (.head _))) ty_3 rfl) rfl rfl rfl ?_
          refine RunL.val (Val.fieldAddr rfl fld_23_1) rfl rfl rfl ?_
          refine RunL.val (Val.load_one rfl (.tail _ (.tail _ (.head _))) ty_3 rfl) rfl rfl rfl ?_
          iterate 3 refine RunL.val (Val.pure rfl) rfl rfl rfl ?_
          refine RunL.sure (dj := 147) false rfl (decide_eq_false (by omega)) ?_
          refine RunL.val (Val.fieldAddr rfl fld_23_0) rfl rfl rfl ?_
          refine RunL.val (Val.load_one rfl (.tail _ (.head _)) ty_3 rfl) rfl rfl rfl ?_
          iterate 3 refine RunL.val (Val.pure rfl) rfl rfl rfl ?_
          refine RunL.sure (dj := 152) false rfl (decide_eq_false (by omega)) ?_
          refine RunL.val (Val.fieldAddr rfl fld_23_0) rfl rfl rfl ?_
          refine RunL.val (Val.load_one rfl (.tail _ (.head _)) ty_3 rfl) rfl rfl rfl ?_
          refine RunL.val (Val.fieldAddr rfl fld_23_1) rfl rfl rfl ?_
          refine RunL.val (Val.load_one rfl (.tail _ (.head _)) ty_3 rfl) rfl rfl rfl ?_
          refine RunL.val (Val.pure rfl) rfl rfl rfl ?_
          refine RunL.val (Val.pure rfl) rfl rfl rfl ?_
          refine RunL.nil ?_
          refine RunE.next ?_
          refine RunC.cond rfl (fun h => absurd h (by simp; omega)) ?_
          intro c6
          clear c6
          refine RunC.skip ?_
          refine RunE.next ?_
          refine RunC.seq ?_
          refine RunC.draw 7 fol_ (.cons .here rfl (.cons .here rfl (.cons .here rfl (.cons (.there .here) rfl (.cons (.there .here) rfl .nil))))) ?_
          refine RunA.val (i := 0) rfl (by kernel_rfl) (by kernel_rfl) (Val.load_agg rfl (.tail _ (.tail _ (.head _))) ty_23 rfl) rfl rfl rfl (fun _ _ _ h => h) (.cons .here rfl (.cons .here rfl (.cons .here rfl (.cons (.there .here) rfl (.cons (.there .here) rfl .nil))))) rfl ?_
          refine RunA.val (i := 1) rfl (by kernel_rfl) (by kernel_rfl) (Val.pure rfl) rfl rfl rfl (fun _ _ _ h => h) (.cons .here rfl (.cons .here rfl (.cons .here rfl (.cons (.there .here) rfl (.cons (.there .here) rfl .nil))))) rfl ?_
          refine RunA.val (i := 4) rfl (by kernel_rfl) (by kernel_rfl) (Val.load_agg rfl (.tail _ (.head _)) ty_23 rfl) rfl rfl rfl (fun _ _ _ h => h) (.cons .here rfl (.cons .here rfl (.cons .here rfl (.cons (.there .here) rfl (.cons (.there .here) rfl .nil))))) rfl ?_
          refine RunA.val (i := 5) rfl (by kernel_rfl) (by kernel_rfl) (Val.pure rfl) rfl rfl rfl (fun _ _ _ h => h) (.cons .here rfl (.cons .here rfl (.cons .here rfl (.cons (.there .here) rfl (.cons (.there .here) rfl .nil))))) rfl ?_
          refine RunA.one (i := 2) (by kernel_rfl) (by kernel_rfl) ?_
          refine RunI.callX rfl (isCall_value rfl rfl ent_26) rfl rfl rfl (.there (.there (.there .here))) (fun w hm => next_calls l hl _ (by omega) q b o cap _ _ w (hm.at (.tail _ (.tail _ (.tail _ (.head _))))) (hm.at (.tail _ (.tail _ (.tail _ (.tail _ (.tail _ (.head _))))))) (ne_of_T hm (.tail _ (.tail _ (.tail _ (.tail _ (.tail _ (.head _)))))) (.tail _ (.tail _ (.tail _ (.head _)))) (by decide)) (hB.ne (by decide) hm (.tail _ (.tail _ (.tail _ (.head _)))) hlne) (hB.mono (by decide) hm (by simp))) (fun x161 hx161 => (RunK.toA (.cons .here rfl (.cons .here rfl (.cons .here rfl (.cons (.there .here) rfl (.cons (.there .here) rfl .nil))))) (.cons .here rfl (.cons .here rfl (.cons .here rfl (.cons .here rfl (.cons .here rfl .nil))))) rfl ?_))
          refine RunA.one (i := 3) (by kernel_rfl) (by kernel_rfl) ?_
          refine RunI.callP rfl (isCall_func rfl ent_28) rfl rfl rfl (fun w hm => pick_calls (distX g.f k).1 r1.2.2.2.2 (by omega) _ hx161 w) (RunK.toA (.cons .here rfl (.cons .here rfl (.cons .here rfl (.cons (.there .here) rfl (.cons (.there .here) rfl .nil))))) (.cons .here rfl (.cons .here rfl (.cons .here rfl (.cons .here rfl (.cons .here rfl .nil))))) rfl ?_)
          refine RunA.one (i := 6) (by kernel_rfl) (by kernel_rfl) ?_
          refine RunI.callX rfl (isCall_value rfl rfl ent_26) rfl rfl rfl (.there (.there (.there .here))) (fun w hm => next_calls l hl _ (by omega) q b o cap _ _ w (hm.at (.tail _ (.tail _ (.tail _ (.head _))))) (hm.at (.tail _ (.tail _ (.tail _ (.tail _ (.tail _ (.head _))))))) (ne_of_T hm (.tail _ (.tail _ (.tail _ (.tail _ (.tail _ (.head _)))))) (.tail _ (.tail _ (.tail _ (.head _)))) (by decide)) (hB.ne (by decide) hm (.tail _ (.tail _ (.tail _ (.head _)))) hlne) (hB.mono (by decide) hm (by simp))) (fun x165 hx165 => (RunK.toA (.cons .here rfl (.cons .here rfl (.cons .here rfl (.cons (.there .here) rfl (.cons (.there .here) rfl .nil))))) (.cons .here rfl (.cons .here rfl (.cons .here rfl (.cons .here rfl (.cons .here rfl .nil))))) rfl ?_))
          refine RunA.toB (by kernel_rfl) ?_
          refine RunB.one (i := 7) (by kernel_rfl) ?_
          refine RunI.callP rfl (isCall_func rfl ent_28) rfl rfl rfl (fun w hm => pick_calls (distX g.s k).1 r2.2.2.2.2 (by omega) _ hx165 w) (RunK.toB ?_)
          refine RunB.one (i := 8) (by kernel_rfl) ?_
          refine RunI.val rfl (Val.pure rfl) rfl rfl rfl (RunK.toB ?_)
          refine RunB.one (i := 9) (by kernel_rfl) ?_
          refine RunI.val rfl (Val.pure rfl) rfl rfl rfl (RunK.toB ?_)
          refine RunB.done (by kernel_rfl) ?_
          refine RunE.next ?_
          refine RunC.seq ?_
          obtain ⟨first, hfi⟩ : ∃ f, pickZ (distX g.f k).1 x161 = f := ⟨_, rfl⟩
          obtain ⟨second, hsc⟩ : ∃ f, pickZ (distX g.s k).1 x165 = f := ⟨_, rfl⟩
          have hfr := pickZ_in (s := (distX g.f k).1) r1.2.2.2.2 x161
          have hsr := pickZ_in (s := (distX g.s k).1) r2.2.2.2.2 x165
          rw [hfi] at hfr
          rw [hsc] at hsr
          simp only [hfi, hsc]
          refine RunC.region ?_
          refine RunL.val (Val.pure rfl) rfl rfl rfl ?_
          refine RunL.val (Val.pure rfl) rfl rfl rfl ?_
          refine RunL.val (Val.sub' rfl rfl (IntWalk.i64_in _ ⟨by omega, by omega⟩)) rfl rfl rfl ?_
          refine RunL.val (Val.pure rfl) rfl rfl rfl ?_
          refine RunL.nil ?_
          refine RunE.next ?_
          refine RunC.seq ?_
          refine RunC.region ?_
          refine RunL.val (Val.load_agg rfl (.tail _ (.tail _ (.tail _ (.tail _ (.head _))))) ty_28 rfl) rfl rfl rfl ?_
          refine RunL.val (Val.pure rfl) rfl rfl rfl ?_
          refine RunL.callP (isCall_func rfl ent_13) rfl rfl rfl (fun w hm => yHeights_calls g a k w (hG.mono hm)) ?_
          iterate 4 refine RunL.val (Val.pure rfl) rfl rfl rfl ?_
          refine RunL.new (New.alloc zero_23) rfl rfl rfl (fun b24 => ?_)
          refine RunL.new (New.alloc zero_23) rfl rfl rfl (fun b25 => ?_)
          refine RunL.sto (Sto.store rfl rfl (.there .here) ty_23 rfl rfl) rfl rfl ?_
          refine RunL.sto (Sto.store rfl rfl .here ty_23 rfl rfl) rfl rfl ?_
          refine RunL.val (Val.pure rfl) rfl rfl rfl ?_
          refine RunL.nil ?_
          refine RunE.next ?_
          refine RunC.seq ?_
          refine RunC.draw 19 fol_ (.cons .here rfl (.cons .here rfl (.cons .here rfl (.cons .here rfl (.cons .here rfl (.cons (.there .here) rfl (.cons (.there .here) rfl .nil))))))) ?_
          refine RunA.val (i := 0) rfl (by kernel_rfl) (by kernel_rfl) (Val.fieldAddr rfl fld_28_0) rfl rfl rfl (fun _ _ _ h => h) (.cons .here rfl (.cons .here rfl (.cons .here rfl (.cons .here rfl (.cons .here rfl (.cons (.there .here) rfl (.cons (.there .here) rfl .nil))))))) rfl ?_
          refine RunA.val (i := 1) rfl (by kernel_rfl) (by kernel_rfl) (Val.fieldAddr rfl fld_26_5) rfl rfl rfl (fun _ _ _ h => h) (.cons .here rfl (.cons .here rfl (.cons .here rfl (.cons .here rfl (.cons .here rfl (.cons (.there .here) rfl (.cons (.there .here) rfl .nil))))))) rfl ?_
          refine RunA.val (i := 2) rfl (by kernel_rfl) (by kernel_rfl) (Val.load_one rfl (.tail _ (.tail _ (.tail _ (.tail _ (.tail _ (.head _)))))) ty_24 rfl) rfl rfl rfl (fun _ _ _ h => h) (.cons .here rfl (.cons .here rfl (.cons .here rfl (.cons .here rfl (.cons .here rfl (.cons (.there .here) rfl (.cons (.there .here) rfl .nil))))))) rfl ?_
          refine RunA.val (i := 3) rfl (by kernel_rfl) (by kernel_rfl) (Val.pure rfl) rfl rfl rfl (fun _ _ _ h => h) (.cons .here rfl (.cons .here rfl (.cons .here rfl (.cons .here rfl (.cons .here rfl (.cons (.there .here) rfl (.cons (.there .here) rfl .nil))))))) rfl ?_
          refine RunA.val (i := 4) rfl (by kernel_rfl) (by kernel_rfl) (Val.indexAddr_slp rfl rfl sl_24 (by omega) (by omega) (hG.s1.ptrM hk)) rfl rfl rfl (fun _ _ _ h => h) (.cons .here rfl (.cons .here rfl (.cons .here rfl (.cons .here rfl (.cons .here rfl (.cons (.there .here) rfl (.cons (.there .here) rfl .nil))))))) rfl ?_
          refine RunA.val (i := 5) rfl (by kernel_rfl) (by kernel_rfl) (Val.fieldAddr rfl fld_54_0) rfl rfl rfl (fun _ _ _ h => h) (.cons .here rfl (.cons .here rfl (.cons .here rfl (.cons .here rfl (.cons .here rfl (.cons (.there .here) rfl (.cons (.there .here) rfl .nil))))))) rfl ?_
          refine RunA.val (i := 6) rfl (by kernel_rfl) (by kernel_rfl) (Val.fieldAddr rfl fld_52_1) rfl rfl rfl (fun _ _ _ h => h) (.cons .here rfl (.cons .here rfl (.cons .here rfl (.cons .here rfl (.cons .here rfl (.cons (.there .here) rfl (.cons (.there .here) rfl .nil))))))) rfl ?_
          refine RunA.val (i := 7) rfl (by kernel_rfl) (by kernel_rfl) (Val.load_gen rfl (fun w hm => hG.s1.loadPart hm (by simp) ty_23 hk ht (j := 2) (by decide) (vs := [.int .i64 t.ly.lo, .int .i64 t.ly.hi]) rfl (by decide) (by simp))) rfl rfl rfl (fun _ _ _ h => h) (.cons .here rfl (.cons .here rfl (.cons .here rfl (.cons .here rfl (.cons .here rfl (.cons (.there .here) rfl (.cons (.there .here) rfl .nil))))))) rfl ?_
          refine RunA.val (i := 8) rfl (by kernel_rfl) (by kernel_rfl) (Val.pure rfl) rfl rfl rfl (fun _ _ _ h => h) (.cons .here rfl (.cons .here rfl (.cons .here rfl (.cons .here rfl (.cons .here rfl (.cons (.there .here) rfl (.cons (.there .here) rfl .nil))))))) rfl ?_
          refine RunA.val (i := 11) rfl (by kernel_rfl) (by kernel_rfl) (Val.pure rfl) rfl rfl rfl (fun _ _ _ h => h) (.cons .here rfl (.cons .here rfl (.cons .here rfl (.cons .here rfl (.cons .here rfl (.cons (.there .here) rfl (.cons (.there .here) rfl .nil))))))) rfl ?_
          refine RunA.val (i := 13) rfl (by kernel_rfl) (by kernel_rfl) (Val.fieldAddr rfl fld_28_0) rfl rfl rfl (fun _ _ _ h => h) (.cons .here rfl (.cons .here rfl (.cons .here rfl (.cons .here rfl (.cons .here rfl (.cons (.there .here) rfl (.cons (.there .here) rfl .nil))))))) rfl ?_
          refine RunA.val (i := 14) rfl (by kernel_rfl) (by kernel_rfl) (Val.fieldAddr rfl fld_26_0) rfl rfl rfl (fun _ _ _ h => h) (.cons .here rfl (.cons .here rfl (.cons .here rfl (.cons .here rfl (.cons .here rfl (.cons (.there .here) rfl (.cons (.there .here) rfl .nil))))))) rfl ?_
          refine RunA.val (i := 15) rfl (by kernel_rfl) (by kernel_rfl) (Val.load_agg rfl (.tail _ (.tail _ (.tail _ (.tail _ (.tail _ (.head _)))))) ty_23 rfl) rfl rfl rfl (fun _ _ _ h => h) (.cons .here rfl (.cons .here rfl (.cons .here rfl (.cons .here rfl (.cons .here rfl (.cons (.there .here) rfl (.cons (.there .here) rfl .nil))))))) rfl ?_
          refine RunA.val (i := 16) rfl (by kernel_rfl) (by kernel_rfl) (Val.pure rfl) rfl rfl rfl (fun _ _ _ h => h) (.cons .here rfl (.cons .here rfl (.cons .here rfl (.cons .here rfl (.cons .here rfl (.cons (.there .here) rfl (.cons (.there .here) rfl .nil))))))) rfl ?_
          refine RunA.one (i := 9) (by kernel_rfl) (by kernel_rfl) ?_
          refine RunI.callX rfl (isCall_value rfl rfl ent_26) rfl rfl rfl (.there (.there (.there (.there (.there .here))))) (fun w hm => next_calls l hl _ (by omega) q b o cap _ _ w (hm.at (.tail _ (.tail _ (.tail _ (.tail _ (.tail _ (.head _))))))) (hm.at (.tail _ (.tail _ (.tail _ (.tail _ (.tail _ (.tail _ (.tail _ (.head _))))))))) (ne_of_T hm (.tail _ (.tail _ (.tail _ (.tail _ (.tail _ (.tail _ (.tail _ (.head _)))))))) (.tail _ (.tail _ (.tail _ (.tail _ (.tail _ (.head _)))))) (by decide)) (hB.ne (by decide) hm (.tail _ (.tail _ (.tail _ (.tail _ (.tail _ (.head _)))))) hlne) (hB.mono (by decide) hm (by simp))) (fun x186 hx186 => (RunK.toA (.cons .here rfl (.cons .here rfl (.cons .here rfl (.cons .here rfl (.cons .here rfl (.cons (.there .here) rfl (.cons (.there .here) rfl .nil))))))) (.cons .here rfl (.cons .here rfl (.cons .here rfl (.cons .here rfl (.cons .here rfl (.cons .here rfl (.cons .here rfl .nil))))))) rfl ?_))
          refine RunA.one (i := 10) (by kernel_rfl) (by kernel_rfl) ?_
          refine RunI.callP rfl (isCall_func rfl ent_28) rfl rfl rfl (fun w hm => pick_calls (t.ly.lo, t.ly.hi) hty2 (by simp only; omega) _ hx186 w) (RunK.toA (.cons .here rfl (.cons .here rfl (.cons .here rfl (.cons .here rfl (.cons .here rfl (.cons (.there .here) rfl (.cons (.there .here) rfl .nil))))))) (.cons .here rfl (.cons .here rfl (.cons .here rfl (.cons .here rfl (.cons .here rfl (.cons .here rfl (.cons .here rfl .nil))))))) rfl ?_)
          have hy1 := pickZ_in (s := (t.ly.lo, t.ly.hi)) hty2 x186
          have hm1 := ymul_bd (y := pickZ (t.ly.lo, t.ly.hi) x186) (v := first) (by simp only at hy1; omega) (by omega)
          refine RunA.val (i := 12) rfl (by kernel_rfl) (by kernel_rfl) (Val.mul rfl rfl (IntWalk.i64_in _ ⟨by omega, by omega⟩)) rfl rfl rfl (fun _ _ _ h => h) (.cons .here rfl (.cons .here rfl (.cons .here rfl (.cons .here rfl (.cons .here rfl (.cons (.there .here) rfl (.cons (.there .here) rfl .nil))))))) rfl ?_
          refine RunA.one (i := 17) (by kernel_rfl) (by kernel_rfl) ?_
          refine RunI.callX rfl (isCall_value rfl rfl ent_26) rfl rfl rfl (.there (.there (.there (.there (.there .here))))) (fun w hm => next_calls l hl _ (by omega) q b o cap _ _ w (hm.at (.tail _ (.tail _ (.tail _ (.tail _ (.tail _ (.head _))))))) (hm.at (.tail _ (.tail _ (.tail _ (.tail _ (.tail _ (.tail _ (.tail _ (.head _))))))))) (ne_of_T hm (.tail _ (.tail _ (.tail _ (.tail _ (.tail _ (.tail _ (.tail _ (.head _)))))))) (.tail _ (.tail _ (.tail _ (.tail _ (.tail _ (.head _)))))) (by decide)) (hB.ne (by decide) hm (.tail _ (.tail _ (.tail _ (.tail _ (.tail _ (.head _)))))) hlne) (hB.mono (by decide) hm (by simp))) (fun x194 hx194 => (RunK.toA (.cons .here rfl (.cons .here rfl (.cons .here rfl (.cons .here rfl (.cons .here rfl (.cons (.there .here) rfl (.cons (.there .here) rfl .nil))))))) (.cons .here rfl (.cons .here rfl (.cons .here rfl (.cons .here rfl (.cons .here rfl (.cons .here rfl (.cons .here rfl .nil))))))) rfl ?_))
          refine RunA.one (i := 18) (by kernel_rfl) (by kernel_rfl) ?_
          refine RunI.callP rfl (isCall_func rfl ent_28) rfl rfl rfl (fun w hm => pick_calls (g.f.focal.lo, g.f.focal.hi) f2 (by simp only; omega) _ hx194 w) (RunK.toA (.cons .here rfl (.cons .here rfl (.cons .here rfl (.cons .here rfl (.cons .here rfl (.cons (.there .here) rfl (.cons (.there .here) rfl .nil))))))) (.cons .here rfl (.cons .here rfl (.cons .here rfl (.cons .here rfl (.cons .here rfl (.cons .here rfl (.cons .here rfl .nil))))))) rfl ?_)
          refine RunA.toB (by kernel_rfl) ?_
          refine RunB.one (i := 19) (by kernel_rfl) ?_
          have hf1 := pickZ_in (s := (g.f.focal.lo, g.f.focal.hi)) f2 x194
          refine RunI.callP rfl (isCall_func rfl ent_29) rfl rfl rfl (fun w hm => ldown_calls _ _ (by simp only at hf1; omega) (by omega) w) (RunK.toB ?_)
          refine RunB.one (i := 20) (by kernel_rfl) ?_
          refine RunI.val rfl (Val.pure rfl) rfl rfl rfl (RunK.toB ?_)
          refine RunB.done (by kernel_rfl) ?_
          refine RunE.next ?_
          refine RunC.seq ?_
          refine RunC.draw 19 fol_ (.cons .here rfl (.cons .here rfl (.cons .here rfl (.cons .here rfl (.cons .here rfl (.cons (.there .here) rfl (.cons (.there .here) rfl .nil))))))) ?_
          refine RunA.val (i := 0) rfl (by kernel_rfl) (by kernel_rfl) (Val.fieldAddr rfl fld_28_1) rfl rfl rfl (fun _ _ _ h => h) (.cons .here rfl (.cons .here rfl (.cons .here rfl (.cons .here rfl (.cons .here rfl (.cons (.there .here) rfl (.cons (.there .here) rfl .nil))))))) rfl ?_
          refine RunA.val (i := 1) rfl (by kernel_rfl) (by kernel_rfl) (Val.fieldAddr rfl fld_26_5) rfl rfl rfl (fun _ _ _ h => h) (.cons .here rfl (.cons .here rfl (.cons .here rfl (.cons .here rfl (.cons .here rfl (.cons (.there .here) rfl (.cons (.there .here) rfl .nil))))))) rfl ?_
          refine RunA.val (i := 2) rfl (by kernel_rfl) (by kernel_rfl) (Val.load_one rfl (.tail _ (.tail _ (.tail _ (.tail _ (.tail _ (.head _)))))) ty_24 rfl) rfl rfl rfl (fun _ _ _ h => h) (.cons .here rfl (.cons .here rfl (.cons .here rfl (.cons .here rfl (.cons .here rfl (.cons (.there .here) rfl (.cons (.there .here) rfl .nil))))))) rfl ?_
          refine RunA.val (i := 3) rfl (by kernel_rfl) (by kernel_rfl) (Val.pure rfl) rfl rfl rfl (fun _ _ _ h => h) (.cons .here rfl (.cons .here rfl (.cons .here rfl (.cons .here rfl (.cons .here rfl (.cons (.there .here) rfl (.cons (.there .here) rfl .nil))))))) rfl ?_
          refine RunA.val (i := 4) rfl (by kernel_rfl) (by kernel_rfl) (Val.indexAddr_slp rfl rfl sl_24 (by omega) (by omega) (hG.s2.ptrM hk2)) rfl rfl rfl (fun _ _ _ h => h) (.cons .here rfl (.cons .here rfl (.cons .here rfl (.cons .here rfl (.cons .here rfl (.cons (.there .here) rfl (.cons (.there .here) rfl .nil))))))) rfl ?_
          refine RunA.val (i := 5) rfl (by kernel_rfl) (by kernel_rfl) (Val.fieldAddr rfl fld_54_0) rfl rfl rfl (fun _ _ _ h => h) (.cons .here rfl (.cons .here rfl (.cons .here rfl (.cons .here rfl (.cons .here rfl (.cons (.there .here) rfl (.cons (.there .here) rfl .nil))))))) rfl ?_
          refine RunA.val (i := 6) rfl (by kernel_rfl) (by kernel_rfl) (Val.fieldAddr rfl fld_52_1) rfl rfl rfl (fun _ _ _ h => h) (.cons .here rfl (.cons .here rfl (.cons .here rfl (.cons .here rfl (.cons .here rfl (.cons (.there .here) rfl (.cons (.there .here) rfl .nil))))))) rfl ?_
          refine RunA.val (i := 7) rfl (by kernel_rfl) (by kernel_rfl) (Val.load_gen rfl (fun w hm => hG.s2.loadPart hm (by simp) ty_23 hk2 htw (j := 2) (by decide) (vs := [.int .i64 tw.ly.lo, .int .i64 tw.ly.hi]) rfl (by decide) (by simp))) rfl rfl rfl (fun _ _ _ h => h) (.cons .here rfl (.cons .here rfl (.cons .here rfl (.cons .here rfl (.cons .here rfl (.cons (.there .here) rfl (.cons (.there .here) rfl .nil))))))) rfl ?_
          refine RunA.val (i := 8) rfl (by kernel_rfl) (by kernel_rfl) (Val.pure rfl) rfl rfl rfl (fun _ _ _ h => h) (.cons .here rfl (.cons .here rfl (.cons .here rfl (.cons .here rfl (.cons .here rfl (.cons (.there .here) rfl (.cons (.there .here) rfl .nil))))))) rfl ?_
          refine RunA.val (i := 11) rfl (by kernel_rfl) (by kernel_rfl) (Val.pure rfl) rfl rfl rfl (fun _ _ _ h => h) (.cons .here rfl (.cons .here rfl (.cons .here rfl (.cons .here rfl (.cons .here rfl (.cons (.there .here) rfl (.cons (.there .here) rfl .nil))))))) rfl ?_
          refine RunA.val (i := 13) rfl (by kernel_rfl) (by kernel_rfl) (Val.fieldAddr rfl fld_28_1) rfl rfl rfl (fun _ _ _ h => h) (.cons .here rfl (.cons .here rfl (.cons .here rfl (.cons .here rfl (.cons .here rfl (.cons (.there .here) rfl (.cons (.there .here) rfl .nil))))))) rfl ?_
          refine RunA.val (i := 14) rfl (by kernel_rfl) (by kernel_rfl) (Val.fieldAddr rfl fld_26_0) rfl rfl rfl (fun _ _ _ h => h) (.cons .here rfl (.cons .here rfl (.cons .here rfl (.cons .here rfl (.cons .here rfl (.cons (.there .here) rfl (.cons (.there .here) rfl .nil))))))) rfl ?_
          refine RunA.val (i := 15) rfl (by kernel_rfl) (by kernel_rfl) (Val.load_agg rfl (.tail _ (.tail _ (.tail _ (.tail _ (.tail _ (.head _)))))) ty_23 rfl) rfl rfl rfl (fun _ _ _ h => h) (.cons .here rfl (.cons .here rfl (.cons .here rfl (.cons .here rfl (.cons .here rfl (.cons (.there .here) rfl (.cons (.there .here) rfl .nil))))))) rfl ?_
          refine RunA.val (i := 16) rfl (by kernel_rfl) (by kernel_rfl) (Val.pure rfl) rfl rfl rfl (fun _ _ _ h => h) (.cons .here rfl (.cons .here rfl (.cons .here rfl (.cons .here rfl (.cons .here rfl (.cons (.there .here) rfl (.cons (.there .here) rfl .nil))))))) rfl ?_
          refine RunA.one (i := 9) (by kernel_rfl) (by kernel_rfl) ?_
          refine RunI.callX rfl (isCall_value rfl rfl ent_26) rfl rfl rfl (.there (.there (.there (.there (.there .here))))) (fun w hm => next_calls l hl _ (by omega) q b o cap _ _ w (hm.at (.tail _ (.tail _ (.tail _ (.tail _ (.tail _ (.head _))))))) (hm.at (.tail _ (.tail _ (.tail _ (.tail _ (.tail _ (.tail _ (.tail _ (.head _))))))))) (ne_of_T hm (.tail _ (.tail _ (.tail _ (.tail _ (.tail _ (.tail _ (.tail _ (.head _)))))))) (.tail _ (.tail _ (.tail _ (.tail _ (.tail _ (.head _)))))) (by decide)) (hB.ne (by decide) hm (.tail _ (.tail _ (.tail _ (.tail _ (.tail _ (.head _)))))) hlne) (hB.mono (by decide) hm (by simp))) (fun x206 hx206 => (RunK.toA (.cons .here rfl (.cons .here rfl (.cons .here rfl (.cons .here rfl (.cons .here rfl (.cons (.there .here) rfl (.cons (.there .here) rfl .nil))))))) (.cons .here rfl (.cons .here rfl (.cons .here rfl (.cons .here rfl (.cons .here rfl (.cons .here rfl (.cons .here rfl .nil))))))) rfl ?_))
          refine RunA.one (i := 10) (by kernel_rfl) (by kernel_rfl) ?_
          refine RunI.callP rfl (isCall_func rfl ent_28) rfl rfl rfl (fun w hm => pick_calls (tw.ly.lo, tw.ly.hi) htw2 (by simp only; omega) _ hx206 w) (RunK.toA (.cons .here rfl (.cons .here rfl (.cons .here rfl (.cons .here rfl (.cons .here rfl (.cons (.there .here) rfl (.cons (.there .here) rfl .nil))))))) (.cons .here rfl (.cons .here rfl (.cons .here rfl (.cons .here rfl (.cons .here rfl (.cons .here rfl (.cons .here rfl .nil))))))) rfl ?_)
          have hy2 := pickZ_in (s := (tw.ly.lo, tw.ly.hi)) htw2 x206
          have hm2 := ymul_bd (y := pickZ (tw.ly.lo, tw.ly.hi) x206) (v := second) (by simp only at hy2; omega) (by omega)
          refine RunA.val (i := 12) rfl (by kernel_rfl) (by kernel_rfl) (Val.mul rfl rfl (IntWalk.i64_in _ ⟨by omega, by omega⟩)) rfl rfl rfl (fun _ _ _ h => h) (.cons .here rfl (.cons .here rfl (.cons .here rfl (.cons .here rfl (.cons .here rfl (.cons (.there .here) rfl (.cons (.there .here) rfl .nil))))))) rfl ?_
          refine RunA.one (i := 17) (by kernel_rfl) (by kernel_rfl) ?_
          refine RunI.callX rfl (isCall_value rfl rfl ent_26) rfl rfl rfl (.there (.there (.there (.there (.there .here))))) (fun w hm => next_calls l hl _ (by omega) q b o cap _ _ w (hm.at (.tail _ (.tail _ (.tail _ (.tail _ (.tail _ (.head _))))))) (hm.at (.tail _ (.tail _ (.tail _ (.tail _ (.tail _ (.tail _ (.tail _ (.head _))))))))) (ne_of_T hm (.tail _ (.tail _ (.tail _ (.tail _ (.tail _ (.tail _ (.tail _ (.head _)))))))) (.tail _ (.tail _ (.tail _ (.tail _ (.tail _ (.head _)))))) (by decide)) (hB.ne (by decide) hm (.tail _ (.tail _ (.tail _ (.tail _ (.tail _ (.head _)))))) hlne) (hB.mono (by decide) hm (by simp))) (fun x214 hx214 => (RunK.toA (.cons .here rfl (.cons .here rfl (.cons .here rfl (.cons .here rfl (.cons .here rfl (.cons (.there .here) rfl (.cons (.there .here) rfl .nil))))))) (.cons .here rfl (.cons .here rfl (.cons .here rfl (.cons .here rfl (.cons .here rfl (.cons .here rfl (.cons .here rfl .nil))))))) rfl ?_))
          refine RunA.one (i := 18) (by kernel_rfl) (by kernel_rfl) ?_
          refine RunI.callP rfl (isCall_func rfl ent_28) rfl rfl rfl (fun w hm => pick_calls (g.s.focal.lo, g.s.focal.hi) f6 (by simp only; omega) _ hx214 w) (RunK.toA (.cons .here rfl (.cons .here rfl (.cons .here rfl (.cons .here rfl (.cons .here rfl (.cons (.there .here) rfl (.cons (.there .here) rfl .nil))))))) (.cons .here rfl (.cons .here rfl (.cons .here rfl (.cons .here rfl (.cons .here rfl (.cons .here rfl (.cons .here rfl .nil))))))) rfl ?_)
          refine RunA.toB (by kernel_rfl) ?_
          refine RunB.one (i := 19) (by kernel_rfl) ?_
          have hf2 := pickZ_in (s := (g.s.focal.lo, g.s.focal.hi)) f6 x214
          refine RunI.callP rfl (isCall_func rfl ent_29) rfl rfl rfl (fun w hm => ldown_calls _ _ (by simp only at hf2; omega) (by omega) w) (RunK.toB ?_)
          refine RunB.one (i := 20) (by kernel_rfl) ?_
          refine RunI.val rfl (Val.pure rfl) rfl rfl rfl (RunK.toB ?_)
          refine RunB.done (by kernel_rfl) ?_
          refine RunE.next ?_
          refine RunC.seq ?_
          obtain ⟨e1, e2, e3, e4, q1, q2, q3, q4, q5⟩ := true_at ho hgl hk hse ht (w := tw) (by rw [List.getElem?_eq_getElem hk2, htw]) (first := first) (second := second) hfr hsr hy1 hf1 hy2 hf2
          obtain ⟨low, hlow⟩ : ∃ v, pickZ (t.ly.lo, t.ly.hi) x186 * first / pickZ (g.f.focal.lo, g.f.focal.hi) x194 = v := ⟨_, rfl⟩
          obtain ⟨high, hhigh⟩ : ∃ v, pickZ (tw.ly.lo, tw.ly.hi) x206 * second / pickZ (g.s.focal.lo, g.s.focal.hi) x214 = v := ⟨_, rfl⟩
          rw [hlow, hhigh] at q4
          rw [hlow] at q2
          rw [hhigh] at q3
          have hlb := ediv_bd (a := pickZ (t.ly.lo, t.ly.hi) x186 * first) (b := pickZ (g.f.focal.lo, g.f.focal.hi) x194) (M := 4294967296000) (by simp only at hf1; omega) hm1
          have hhb := ediv_bd (a := pickZ (tw.ly.lo, tw.ly.hi) x206 * second) (b := pickZ (g.s.focal.lo, g.s.focal.hi) x214) (M := 4294967296000) (by simp only at hf2; omega) hm2
          rw [hlow] at hlb
          rw [hhigh] at hhb
          obtain ⟨t1, t2⟩ := true_stays hk hse q1 q4
          rw [hs2] at t1
          rw [hs1] at t2
          have hmr := mv_rng hse
          have hrp := rate_prod (a := (mvZ g k).1 * 365) (N := g.d2 - g.d1) (by omega) (by omega)
          have hrp2 := rate_prod (a := (mvZ g k).2 * 365) (N := g.d2 - g.d1) (by omega) (by omega)
          simp only [hlow, hhigh, e1, e2]
          refine RunC.region ?_
          refine RunL.val (Val.load_agg rfl (.tail _ (.tail _ (.tail _ (.tail _ (.tail _ (.tail _ (.head _))))))) ty_28 rfl) rfl rfl rfl ?_
          refine RunL.val (Val.pure rfl) rfl rfl rfl ?_
          refine RunL.callP (isCall_func rfl ent_15) rfl rfl rfl (fun w hm => ySank_calls g a k w (hG.mono hm)) ?_
          iterate 3 refine RunL.val (Val.pure rfl) rfl rfl rfl ?_
          refine RunL.new (New.alloc zero_23) rfl rfl rfl (fun b29 => ?_)
          refine RunL.sto (Sto.store rfl rfl .here ty_23 rfl rfl) rfl rfl ?_
          refine RunL.val (Val.pure rfl) rfl rfl rfl ?_
          refine RunL.nil ?_
          refine RunE.next ?_
          refine RunC.seq ?_
          simp only [e3]
          refine RunC.region ?_
          refine RunL.val (Val.load_agg rfl (.tail _ (.tail _ (.tail _ (.tail _ (.tail _ (.tail _ (.tail _ (.head _)))))))) ty_28 rfl) rfl rfl rfl ?_
          refine RunL.val (Val.pure rfl) rfl rfl rfl ?_
          refine RunL.callP (isCall_func rfl ent_17) rfl rfl rfl (fun w hm => yRate_calls g a k w (hG.mono hm)) ?_
          iterate 3 refine RunL.val (Val.pure rfl) rfl rfl rfl ?_
          refine RunL.new (New.alloc zero_23) rfl rfl rfl (fun b31 => ?_)
          refine RunL.sto (Sto.store rfl rfl .here ty_23 rfl rfl) rfl rfl ?_
          refine RunL.val (Val.pure rfl) rfl rfl rfl ?_
          refine RunL.nil ?_
          refine RunE.next ?_
          refine RunC.seq ?_
          simp only [e4]
          have hx1 : (rateZ g (mvZ g k)).1 * (g.d2 - g.d1) = (mvZ g k).1 * 365 / (g.d2 - g.d1) * (g.d2 - g.d1) := rfl
          have hx2 : (rateZ g (mvZ g k)).2 * (g.d2 - g.d1) = -(-((mvZ g k).2 * 365) / (g.d2 - g.d1)) * (g.d2 - g.d1) := rfl
          refine RunC.region ?_
          refine RunL.val (Val.fieldAddr rfl fld_28_3) rfl rfl rfl ?_
          refine RunL.val (Val.load_one rfl (.tail _ (.tail _ (.tail _ (.tail _ (.tail _ (.tail _ (.tail _ (.tail _ (.head _))))))))) ty_3 rfl) rfl rfl rfl ?_
          refine RunL.val (Val.fieldAddr rfl fld_28_2) rfl rfl rfl ?_
          refine RunL.val (Val.load_one rfl (.tail _ (.tail _ (.tail _ (.tail _ (.tail _ (.tail _ (.tail _ (.tail _ (.head _))))))))) ty_3 rfl) rfl rfl rfl ?_
          refine RunL.val (Val.sub' rfl rfl (IntWalk.i64_in _ ⟨by omega, by omega⟩)) rfl rfl rfl ?_
          refine RunL.val (Val.pure rfl) rfl rfl rfl ?_
          refine RunL.nil ?_
          refine RunE.next ?_
          refine RunC.seq ?_
          refine RunC.seq ?_
          refine RunC.region ?_
          iterate 3 refine RunL.val (Val.pure rfl) rfl rfl rfl ?_
          refine RunL.sure (dj := 236) false rfl (by simp) ?_
          iterate 4 refine RunL.val (Val.pure rfl) rfl rfl rfl ?_
          refine RunL.sure (dj := 240) false rfl (by simp) ?_
          iterate 4 refine RunL.val (Val.pure rfl) rfl rfl rfl ?_
          refine RunL.sure (dj := 244) false rfl (by simp) ?_
          iterate 4 refine RunL.val (Val.pure rfl) rfl rfl rfl ?_
          refine RunL.sure (dj := 248) false rfl (by simp) ?_
          refine RunL.val (Val.pure rfl) rfl rfl rfl ?_
          refine RunL.val (Val.fieldAddr rfl fld_23_0) rfl rfl rfl ?_
          refine RunL.val (Val.load_one rfl (.tail _ (.tail _ (.tail _ (.tail _ (.head _))))) ty_3 rfl) rfl rfl rfl ?_
          iterate 3 refine RunL.val (Val.pure rfl) rfl rfl rfl ?_
          refine RunL.sure (dj := 254) false rfl (decide_eq_false (by omega)) ?_
          refine RunL.val (Val.pure rfl) rfl rfl rfl ?_
          refine RunL.val (Val.fieldAddr rfl fld_23_1) rfl rfl rfl ?_
          refine RunL.val (Val.load_one rfl (.tail _ (.tail _ (.tail _ (.tail _ (.head _))))) ty_3 rfl) rfl rfl rfl ?_
          iterate 3 refine RunL.val (Val.pure rfl) rfl rfl rfl ?_
          refine RunL.sure (dj := 260) false rfl (decide_eq_false (by omega)) ?_
          refine RunL.val (Val.pure rfl) rfl rfl rfl ?_
          refine RunL.val (Val.fieldAddr rfl fld_23_0) rfl rfl rfl ?_
          refine RunL.val (Val.load_one rfl (.tail _ (.tail _ (.tail _ (.head _)))) ty_3 rfl) rfl rfl rfl ?_
          iterate 3 refine RunL.val (Val.pure rfl) rfl rfl rfl ?_
          refine RunL.sure (dj := 266) false rfl (decide_eq_false (by omega)) ?_
          refine RunL.val (Val.pure rfl) rfl rfl rfl ?_
          refine RunL.val (Val.fieldAddr rfl fld_23_1) rfl rfl rfl ?_
          refine RunL.val (Val.load_one rfl (.tail _ (.tail _ (.tail _ (.head _)))) ty_3 rfl) rfl rfl rfl ?_
          iterate 3 refine RunL.val (Val.pure rfl) rfl rfl rfl ?_
          refine RunL.sure (dj := 272) false rfl (decide_eq_false (by omega)) ?_
          refine RunL.val (Val.pure rfl) rfl rfl rfl ?_
          refine RunL.val (Val.fieldAddr rfl fld_23_0) rfl rfl rfl ?_
          refine RunL.val (Val.load_one rfl (.tail _ (.tail _ (.head _))) ty_3 rfl) rfl rfl rfl ?_
          iterate 3 refine RunL.val (Val.pure rfl) rfl rfl rfl ?_
          refine RunL.sure (dj := 278) false rfl (decide_eq_false (by omega)) ?_
          refine RunL.val (Val.pure rfl) rfl rfl rfl ?_
          refine RunL.val (Val.fieldAddr rfl fld_23_1) rfl rfl rfl ?_
          refine RunL.val (Val.load_one rfl (.tail _ (.tail _ (.head _))) ty_3 rfl) rfl rfl rfl ?_
          iterate 3 refine RunL.val (Val.pure rfl) rfl rfl rfl ?_
          refine RunL.sure (dj := 284) false rfl (decide_eq_false (by omega)) ?_
          refine RunL.val (Val.pure rfl) rfl rfl rfl ?_
          refine RunL.val (Val.pure rfl) rfl rfl rfl ?_
          refine RunL.val (Val.sub' rfl rfl (IntWalk.i64_in _ (by omega))) rfl rfl rfl ?_
          refine RunL.val (Val.fieldAddr rfl fld_23_0) rfl rfl rfl ?_
          refine RunL.val (Val.load_one rfl (.tail _ (.head _)) ty_3 rfl) rfl rfl rfl ?_
          iterate 3 refine RunL.val (Val.pure rfl) rfl rfl rfl ?_
          refine RunL.sure (dj := 292) false rfl (decide_eq_false (by omega)) ?_
          refine RunL.val (Val.pure rfl) rfl rfl rfl ?_
          refine RunL.val (Val.pure rfl) rfl rfl rfl ?_
          refine RunL.val (Val.sub' rfl rfl (IntWalk.i64_in _ ⟨by omega, by omega⟩)) rfl rfl rfl ?_
          refine RunL.val (Val.fieldAddr rfl fld_23_1) rfl rfl rfl ?_
          refine RunL.val (Val.load_one rfl (.tail _ (.head _)) ty_3 rfl) rfl rfl rfl ?_
          iterate 3 refine RunL.val (Val.pure rfl) rfl rfl rfl ?_
          refine RunL.sure (dj := 300) false rfl (decide_eq_false (by omega)) ?_
          refine RunL.val (Val.pure rfl) rfl rfl rfl ?_
          refine RunL.val (Val.mul rfl rfl (IntWalk.i64_in _ ⟨by omega, by omega⟩)) rfl rfl rfl ?_
          refine RunL.val (Val.fieldAddr rfl fld_23_0) rfl rfl rfl ?_
          refine RunL.val (Val.load_one rfl (.head _) ty_3 rfl) rfl rfl rfl ?_
          refine RunL.val (Val.pure rfl) rfl rfl rfl ?_
          refine RunL.val (Val.mul rfl rfl (IntWalk.i64_in _ (by rw [hx1]; omega))) rfl rfl rfl ?_
          iterate 3 refine RunL.val (Val.pure rfl) rfl rfl rfl ?_
          refine RunL.sure (dj := 309) false rfl (decide_eq_false (by omega)) ?_
          refine RunL.val (Val.pure rfl) rfl rfl rfl ?_
          refine RunL.val (Val.mul rfl rfl (IntWalk.i64_in _ ⟨by omega, by omega⟩)) rfl rfl rfl ?_
          refine RunL.val (Val.fieldAddr rfl fld_23_1) rfl rfl rfl ?_
          refine RunL.val (Val.load_one rfl (.head _) ty_3 rfl) rfl rfl rfl ?_
          refine RunL.val (Val.pure rfl) rfl rfl rfl ?_
          refine RunL.val (Val.mul rfl rfl (IntWalk.i64_in _ (by rw [hx2]; omega))) rfl rfl rfl ?_
          refine RunL.val (Val.pure rfl) rfl rfl rfl ?_
          refine RunL.val (Val.pure rfl) rfl rfl rfl ?_
          refine RunL.nil ?_
          refine RunE.next ?_
          refine RunC.cond rfl (fun h => absurd h (by simp; omega)) ?_
          intro c7
          clear c7
          refine RunC.skip ?_
          refine RunE.next ?_
          refine RunC.seq ?_
          refine RunC.region ?_
          iterate 3 refine RunL.val (Val.pure rfl) rfl rfl rfl ?_
          refine RunL.andPart (dj := 320) (dp := 324) 4 rfl (fun g320 => by
            have g320' := g320
            try simp only [decide_eq_true_eq, decide_eq_false_iff_not, Bool.not_eq_true', Bool.not_eq_false', Bool.and_eq_true, Bool.or_eq_true, Bool.and_eq_false_iff, Bool.or_eq_false_iff, Int.not_le, Int.not_lt] at g320'
            iterate 4 refine RunL.val (Val.pure rfl) rfl rfl rfl ?_
            exact RunL.segEnd (Sub.cons rfl (Sub.skip rfl (Sub.skip rfl (Sub.skip rfl (Sub.skip rfl (Sub.same rfl (by rw [g320]) (Sub.refl _))))))) (List.Sublist.refl _)
          ) (fun g320 => by
            have g320' := g320
            try simp only [decide_eq_true_eq, decide_eq_false_iff_not, Bool.not_eq_true', Bool.not_eq_false', Bool.and_eq_true, Bool.or_eq_true, Bool.and_eq_false_iff, Bool.or_eq_false_iff, Int.not_le, Int.not_lt] at g320'
            iterate 3 refine RunL.no rfl rfl rfl ?_
            refine RunL.val (Val.pure rfl) rfl rfl rfl ?_
            exact RunL.segEnd (Sub.cons rfl (Sub.skip rfl (Sub.skip rfl (Sub.skip rfl (Sub.skip rfl (Sub.same rfl (by rw [g320]) (Sub.refl _))))))) (List.Sublist.refl _)
          ) ?_
          refine RunL.val (Val.pure rfl) rfl rfl rfl ?_
          refine RunL.nil ?_
          refine RunE.next ?_
          refine RunC.seq ?_
          refine RunC.seq ?_
          refine RunC.region ?_
          refine RunL.val (Val.pure rfl) rfl rfl rfl ?_
          refine RunL.val (Val.pure rfl) rfl rfl rfl ?_
          refine RunL.andPart (dj := 326) (dp := 332) 6 rfl (fun g326 => by
            have g326' := g326
            try simp only [decide_eq_true_eq, decide_eq_false_iff_not, Bool.not_eq_true', Bool.not_eq_false', Bool.and_eq_true, Bool.or_eq_true, Bool.and_eq_false_iff, Bool.or_eq_false_iff, Int.not_le, Int.not_lt] at g326'
            refine RunL.val (Val.pure rfl) rfl rfl rfl ?_
            refine RunL.val (Val.pure rfl) rfl rfl rfl ?_
            refine RunL.val (Val.shrN (a := s2) (b := k) rfl rfl (by show k ≤ 64; omega)) rfl rfl rfl ?_
            refine RunL.val (Val.and (a := s2 >>> k) (b := 1) rfl rfl (by have := Nat.shiftRight_le s2 k; show _ < 18446744073709551616; omega) (by decide) (i64_inN (by have := Nat.and_le_right (n := s2 >>> k) (m := 1); omega))) rfl rfl rfl ?_
            refine RunL.val (Val.pure rfl) rfl rfl rfl ?_
            refine RunL.val (Val.pure rfl) rfl rfl rfl ?_
            exact RunL.segEnd (Sub.cons rfl (Sub.skip rfl (Sub.skip rfl (Sub.skip rfl (Sub.skip rfl (Sub.skip rfl (Sub.skip rfl (Sub.same rfl (by rw [g326]) (Sub.refl _))))))))) (List.Sublist.refl _)
          ) (fun g326 => by
            have g326' := g326
            try simp only [decide_eq_true_eq, decide_eq_false_iff_not, Bool.not_eq_true', Bool.not_eq_false', Bool.and_eq_true, Bool.or_eq_true, Bool.and_eq_false_iff, Bool.or_eq_false_iff, Int.not_le, Int.not_lt] at g326'
            iterate 5 refine RunL.no rfl rfl rfl ?_
            refine RunL.val (Val.pure rfl) rfl rfl rfl ?_
            exact RunL.segEnd (Sub.cons rfl (Sub.skip rfl (Sub.skip rfl (Sub.skip rfl (Sub.skip rfl (Sub.skip rfl (Sub.skip rfl (Sub.same rfl (by rw [g326]) (Sub.refl _))))))))) (List.Sublist.refl _)
          ) ?_
          refine RunL.val (Val.pure rfl) rfl rfl rfl ?_
          refine RunL.orPart (dj := 333) (dp := 343) (x := !(decide (second - first = 0) && decide (low = high)) && decide (((s1 >>> k &&& 1 : Nat) : Int) = 1)) 10 rfl (fun g333 => by
            have g333' := g333
            try simp only [decide_eq_true_eq, decide_eq_false_iff_not, Bool.not_eq_true', Bool.not_eq_false', Bool.and_eq_true, Bool.or_eq_true, Bool.and_eq_false_iff, Bool.or_eq_false_iff, Int.not_le, Int.not_lt] at g333'
            iterate 3 refine RunL.val (Val.pure rfl) rfl rfl rfl ?_
            refine RunL.andPart (dj := 336) (dp := 342) 6 rfl (fun g336 => by
              have g336' := g336
              try simp only [decide_eq_true_eq, decide_eq_false_iff_not, Bool.not_eq_true', Bool.not_eq_false', Bool.and_eq_true, Bool.or_eq_true, Bool.and_eq_false_iff, Bool.or_eq_false_iff, Int.not_le, Int.not_lt] at g336'
              refine RunL.val (Val.pure rfl) rfl rfl rfl ?_
              refine RunL.val (Val.pure rfl) rfl rfl rfl ?_
              refine RunL.val (Val.shrN (a := s1) (b := k) rfl rfl (by show k ≤ 64; omega)) rfl rfl rfl ?_
              refine RunL.val (Val.and (a := s1 >>> k) (b := 1) rfl rfl (by have := Nat.shiftRight_le s1 k; show _ < 18446744073709551616; omega) (by decide) (i64_inN (by have := Nat.and_le_right (n := s1 >>> k) (m := 1); omega))) rfl rfl rfl ?_
              refine RunL.val (Val.pure rfl) rfl rfl rfl ?_
              refine RunL.val (Val.pure rfl) rfl rfl rfl ?_
              exact RunL.segEnd (Sub.cons rfl (Sub.skip rfl (Sub.skip rfl (Sub.skip rfl (Sub.skip rfl (Sub.skip rfl (Sub.skip rfl (Sub.same rfl (by rw [g336]) (Sub.refl _))))))))) (List.Sublist.refl _)
            ) (fun g336 => by
              have g336' := g336
              try simp only [decide_eq_true_eq, decide_eq_false_iff_not, Bool.not_eq_true', Bool.not_eq_false', Bool.and_eq_true, Bool.or_eq_true, Bool.and_eq_false_iff, Bool.or_eq_false_iff, Int.not_le, Int.not_lt] at g336'
              iterate 5 refine RunL.no rfl rfl rfl ?_
              refine RunL.val (Val.pure rfl) rfl rfl rfl ?_
              exact RunL.segEnd (Sub.cons rfl (Sub.skip rfl (Sub.skip rfl (Sub.skip rfl (Sub.skip rfl (Sub.skip rfl (Sub.skip rfl (Sub.same rfl (by rw [g336]) (Sub.refl _))))))))) (List.Sublist.refl _)
            ) ?_
            refine RunL.val (Val.pure rfl) rfl rfl rfl ?_
            exact RunL.segEnd (Sub.cons rfl (Sub.skip rfl (Sub.skip rfl (Sub.skip rfl (Sub.skip rfl (Sub.skip rfl (Sub.same rfl (by rw [g333]) (Sub.refl _)))))))) (List.Sublist.refl _)
          ) (fun g333 => by
            have g333' := g333
            try simp only [decide_eq_true_eq, decide_eq_false_iff_not, Bool.not_eq_true', Bool.not_eq_false', Bool.and_eq_true, Bool.or_eq_true, Bool.and_eq_false_iff, Bool.or_eq_false_iff, Int.not_le, Int.not_lt] at g333'
            iterate 9 refine RunL.no rfl rfl rfl ?_
            refine RunL.val (Val.pure rfl) rfl rfl rfl ?_
            exact RunL.segEnd (Sub.cons rfl (Sub.skip rfl (Sub.skip rfl (Sub.skip rfl (Sub.skip rfl (Sub.skip rfl (Sub.skip rfl (Sub.skip rfl (Sub.skip rfl (Sub.skip rfl (Sub.skip rfl (Sub.same rfl (by rw [g333]) (Sub.refl _))))))))))))) (List.Sublist.refl _)
          ) ?_
          refine RunL.nil ?_
          refine RunE.next ?_
          have hc8 := true_c8 (s1 := s1) (s2 := s2) (k := k) (b := decide (second - first = 0) && decide (low = high)) (fun h => t1 (by simpa using h)) (fun h => t2 (by simpa using h))
          refine RunC.cond rfl (fun h => absurd h (by rw [hc8]; exact Bool.false_ne_true)) ?_
          intro c8
          clear c8
          refine RunC.skip ?_
          refine RunE.next ?_
          refine RunC.seqJ (X := Int × Int) (n0 := [(b10, _), (b2, _), (b3, _)]) (fun y q => (12, .int .i64 y.1) :: (13, .int .i64 y.2) :: q) (fun y => []) (fun y => []) (fun y => []) (fun y => BestP g (k + 1) y.1 y.2) (Sub.cons (t := 2) rfl (Sub.cons (t := 5) rfl (Sub.cons (t := 6) rfl (Sub.cons (t := 8) rfl (Sub.cons (t := 11) rfl (Sub.cons (t := 14) rfl (Sub.cons (t := 21) rfl (Sub.cons (t := 22) rfl (Sub.cons (t := 94) rfl (Sub.cons (t := 95) rfl (Sub.nil _))))))))))) (.cons (.there (.there (.there (.there (.there (.there (.there .here))))))) rfl (.cons (.there (.there (.there (.there (.there (.there (.there .here))))))) rfl (.cons (.there (.there (.there (.there (.there (.there (.there .here))))))) rfl .nil))) ?_ ?_
          · refine RunC.seq ?_
            refine RunC.region ?_
            iterate 3 refine RunL.val (Val.pure rfl) rfl rfl rfl ?_
            refine RunL.orPart (dj := 346) (dp := 350) 4 rfl (fun g346 => by
              have g346' := g346
              try simp only [decide_eq_true_eq, decide_eq_false_iff_not, Bool.not_eq_true', Bool.not_eq_false', Bool.and_eq_true, Bool.or_eq_true, Bool.and_eq_false_iff, Bool.or_eq_false_iff, Int.not_le, Int.not_lt] at g346'
              iterate 4 refine RunL.val (Val.pure rfl) rfl rfl rfl ?_
              exact RunL.segEnd (Sub.cons rfl (Sub.skip rfl (Sub.skip rfl (Sub.skip rfl (Sub.skip rfl (Sub.same rfl (by rw [g346]) (Sub.refl _))))))) (List.Sublist.refl _)
            ) (fun g346 => by
              have g346' := g346
              try simp only [decide_eq_true_eq, decide_eq_false_iff_not, Bool.not_eq_true', Bool.not_eq_false', Bool.and_eq_true, Bool.or_eq_true, Bool.and_eq_false_iff, Bool.or_eq_false_iff, Int.not_le, Int.not_lt] at g346'
              iterate 3 refine RunL.no rfl rfl rfl ?_
              refine RunL.val (Val.pure rfl) rfl rfl rfl ?_
              exact RunL.segEnd (Sub.cons rfl (Sub.skip rfl (Sub.skip rfl (Sub.skip rfl (Sub.skip rfl (Sub.same rfl (by rw [g346]) (Sub.refl _))))))) (List.Sublist.refl _)
            ) ?_
            refine RunL.nil ?_
            refine RunE.next ?_
            refine RunC.cond rfl ?_ ?_
            · intro c9
              have c9' := c9; clear c9
              try simp only [decide_eq_true_eq, decide_eq_false_iff_not, Bool.not_eq_true', Bool.not_eq_false', Bool.and_eq_true, Bool.or_eq_true, Bool.and_eq_false_iff, Bool.or_eq_false_iff, Int.not_le, Int.not_lt] at c9'
              refine RunC.region ?_
              iterate 4 refine RunL.val (Val.pure rfl) rfl rfl rfl ?_
              refine RunL.nil ?_
              exact RunE.meet ((k : Int), second - first) (hxb.new hse q1.1 q1.2 c9') rfl (Sub.consE (t := 12) rfl rfl (Sub.consE (t := 13) rfl rfl (Sub.cons (t := 2) rfl (Sub.cons (t := 5) rfl (Sub.cons (t := 6) rfl (Sub.cons (t := 8) rfl (Sub.cons (t := 11) rfl (Sub.cons (t := 14) rfl (Sub.cons (t := 21) rfl (Sub.cons (t := 22) rfl (Sub.cons (t := 94) rfl (Sub.cons (t := 95) rfl (Sub.nil _))))))))))))) (.cons (.there (.there (.there (.there (.there (.there (.there .here))))))) rfl (.cons (.there (.there (.there (.there (.there (.there (.there .here))))))) rfl (.cons (.there (.there (.there (.there (.there (.there (.there .here))))))) rfl .nil)))
            · intro c9
              have c9' := c9; clear c9
              try simp only [decide_eq_true_eq, decide_eq_false_iff_not, Bool.not_eq_true', Bool.not_eq_false', Bool.and_eq_true, Bool.or_eq_true, Bool.and_eq_false_iff, Bool.or_eq_false_iff, Int.not_le, Int.not_lt] at c9'
              refine RunC.skip ?_
              exact RunE.meet (x.2.1, x.2.2) (hxb.old q1.2 (by omega)) rfl (Sub.consE (t := 12) rfl rfl (Sub.consE (t := 13) rfl rfl (Sub.cons (t := 2) rfl (Sub.cons (t := 5) rfl (Sub.cons (t := 6) rfl (Sub.cons (t := 8) rfl (Sub.cons (t := 11) rfl (Sub.cons (t := 14) rfl (Sub.cons (t := 21) rfl (Sub.cons (t := 22) rfl (Sub.cons (t := 94) rfl (Sub.cons (t := 95) rfl (Sub.nil _))))))))))))) (.cons (.there (.there (.there (.there (.there (.there (.there .here))))))) rfl (.cons (.there (.there (.there (.there (.there (.there (.there .here))))))) rfl (.cons (.there (.there (.there (.there (.there (.there (.there .here))))))) rfl .nil)))
          · intro y yI
            refine RunC.seq ?_
            refine RunC.region ?_
            refine RunL.val (Val.pure rfl) rfl rfl rfl ?_
            refine RunL.val (Val.pure rfl) rfl rfl rfl ?_
            refine RunL.callX (isCall_value rfl rfl ent_26) rfl rfl rfl .here (fun w hm => next_calls l hl _ (by omega) q b o cap _ _ w (hm.at (.head _)) (hm.at (.tail _ (.tail _ (.head _)))) (ne_of_T hm (.tail _ (.tail _ (.head _))) (.head _) (by decide)) (hB.ne (by decide) hm (.head _) hlne) (hB.mono (by decide) hm (by simp))) (fun x355 hx355 => ?_)
            refine RunL.val (Val.rem rfl rfl (by omega) (by omega)) rfl rfl rfl ?_
            refine RunL.val (Val.convInt rfl und_46 und_3 (IntWalk.i64_in _ ⟨by omega, by omega⟩)) rfl rfl rfl ?_
            refine RunL.val (Val.add rfl rfl (IntWalk.i64_in _ ⟨by omega, by omega⟩)) rfl rfl rfl ?_
            refine RunL.val (Val.sub' rfl rfl (IntWalk.i64_in _ ⟨by omega, by omega⟩)) rfl rfl rfl ?_
            refine RunL.val (Val.min rfl rfl) rfl rfl rfl ?_
            refine RunL.val (Val.max rfl rfl) rfl rfl rfl ?_
            refine RunL.val (Val.pure rfl) rfl rfl rfl ?_
            refine RunL.nil ?_
            refine RunE.next ?_
            refine RunC.seq ?_
            obtain ⟨goal, hgo⟩ : ∃ z, max 0 (min 1073741824 (second + x355 % 2000 - 1000)) = z := ⟨_, rfl⟩
            have hgr2 : 0 ≤ goal ∧ goal ≤ 1073741824 := by omega
            rw [hgo]
            refine RunC.region ?_
            refine RunL.val (Val.load_agg rfl (.tail _ (.head _)) ty_28 rfl) rfl rfl rfl ?_
            iterate 3 refine RunL.val (Val.pure rfl) rfl rfl rfl ?_
            refine RunL.callP (isCall_func rfl ent_30) rfl rfl rfl (fun w hm => rday5_calls g a first second goal w (by omega) (by omega) (by omega) hd) ?_
            refine RunL.val (Val.pure rfl) rfl rfl rfl ?_
            refine RunL.nil ?_
            refine RunE.next ?_
            refine RunC.seq ?_
            refine RunC.region ?_
            refine RunL.val (Val.load_agg rfl (.tail _ (.head _)) ty_28 rfl) rfl rfl rfl ?_
            refine RunL.val (Val.pure rfl) rfl rfl rfl ?_
            refine RunL.val (Val.pure rfl) rfl rfl rfl ?_
            refine RunL.callP (isCall_func rfl ent_21) rfl rfl rfl (fun w hm => yArrives_calls g a k goal w (hG.mono hm)) ?_
            iterate 7 refine RunL.val (Val.pure rfl) rfl rfl rfl ?_
            refine RunL.nil ?_
            refine RunE.next ?_
            refine RunC.seq ?_
            refine RunC.seq ?_
            have hA : gArrives g k goal = arrG g goal (farG g k) := by
              unfold gArrives
              rw [show openG g (isThingG g k && within goal 0 1073741824) = .ok () by rw [open_true ho, isThing_of hk, show within goal 0 1073741824 = true by simp only [within, Bool.and_eq_true, decide_eq_true_eq]; omega]; rfl]
              simp only
              rw [if_pos hse]
            obtain ⟨dc1, dc2⟩ := true_days hd (z := farG g k) (goal := goal) hfr hsr rfl hA.symm
            refine RunC.region ?_
            iterate 3 refine RunL.val (Val.pure rfl) rfl rfl rfl ?_
            refine RunL.andPart (dj := 377) (dp := 380) 3 rfl (fun g377 => by
              have g377' := g377
              try simp only [decide_eq_true_eq, decide_eq_false_iff_not, Bool.not_eq_true', Bool.not_eq_false', Bool.and_eq_true, Bool.or_eq_true, Bool.and_eq_false_iff, Bool.or_eq_false_iff, Int.not_le, Int.not_lt] at g377'
              iterate 3 refine RunL.val (Val.pure rfl) rfl rfl rfl ?_
              exact RunL.segEnd (Sub.cons rfl (Sub.skip rfl (Sub.skip rfl (Sub.skip rfl (Sub.same rfl (by rw [g377]) (Sub.refl _)))))) (List.Sublist.refl _)
            ) (fun g377 => by
              have g377' := g377
              try simp only [decide_eq_true_eq, decide_eq_false_iff_not, Bool.not_eq_true', Bool.not_eq_false', Bool.and_eq_true, Bool.or_eq_true, Bool.and_eq_false_iff, Bool.or_eq_false_iff, Int.not_le, Int.not_lt] at g377'
              refine RunL.no rfl rfl rfl ?_
              refine RunL.no rfl rfl rfl ?_
              refine RunL.val (Val.pure rfl) rfl rfl rfl ?_
              exact RunL.segEnd (Sub.cons rfl (Sub.skip rfl (Sub.skip rfl (Sub.skip rfl (Sub.same rfl (by rw [g377]) (Sub.refl _)))))) (List.Sublist.refl _)
            ) ?_
            refine RunL.val (Val.pure rfl) rfl rfl rfl ?_
            refine RunL.orPart (dj := 381) (dp := 388) (x := decide ((gArrives g k goal).2 = 4) && !decide (dayG g first second goal = -1)) 7 rfl (fun g381 => by
              have g381' := g381
              try simp only [decide_eq_true_eq, decide_eq_false_iff_not, Bool.not_eq_true', Bool.not_eq_false', Bool.and_eq_true, Bool.or_eq_true, Bool.and_eq_false_iff, Bool.or_eq_false_iff, Int.not_le, Int.not_lt] at g381'
              iterate 3 refine RunL.val (Val.pure rfl) rfl rfl rfl ?_
              refine RunL.andPart (dj := 384) (dp := 387) 3 rfl (fun g384 => by
                have g384' := g384
                try simp only [decide_eq_true_eq, decide_eq_false_iff_not, Bool.not_eq_true', Bool.not_eq_false', Bool.and_eq_true, Bool.or_eq_true, Bool.and_eq_false_iff, Bool.or_eq_false_iff, Int.not_le, Int.not_lt] at g384'
                iterate 3 refine RunL.val (Val.pure rfl) rfl rfl rfl ?_
                exact RunL.segEnd (Sub.cons rfl (Sub.skip rfl (Sub.skip rfl (Sub.skip rfl (Sub.same rfl (by rw [g384]) (Sub.refl _)))))) (List.Sublist.refl _)
              ) (fun g384 => by
                have g384' := g384
                try simp only [decide_eq_true_eq, decide_eq_false_iff_not, Bool.not_eq_true', Bool.not_eq_false', Bool.and_eq_true, Bool.or_eq_true, Bool.and_eq_false_iff, Bool.or_eq_false_iff, Int.not_le, Int.not_lt] at g384'
                refine RunL.no rfl rfl rfl ?_
                refine RunL.no rfl rfl rfl ?_
                refine RunL.val (Val.pure rfl) rfl rfl rfl ?_
                exact RunL.segEnd (Sub.cons rfl (Sub.skip rfl (Sub.skip rfl (Sub.skip rfl (Sub.same rfl (by rw [g384]) (Sub.refl _)))))) (List.Sublist.refl _)
              ) ?_
              refine RunL.val (Val.pure rfl) rfl rfl rfl ?_
              exact RunL.segEnd (Sub.cons rfl (Sub.skip rfl (Sub.skip rfl (Sub.skip rfl (Sub.skip rfl (Sub.skip rfl (Sub.same rfl (by rw [g381]) (Sub.refl _)))))))) (List.Sublist.refl _)
            ) (fun g381 => by
              have g381' := g381
              try simp only [decide_eq_true_eq, decide_eq_false_iff_not, Bool.not_eq_true', Bool.not_eq_false', Bool.and_eq_true, Bool.or_eq_true, Bool.and_eq_false_iff, Bool.or_eq_false_iff, Int.not_le, Int.not_lt] at g381'
              iterate 6 refine RunL.no rfl rfl rfl ?_
              refine RunL.val (Val.pure rfl) rfl rfl rfl ?_
              exact RunL.segEnd (Sub.cons rfl (Sub.skip rfl (Sub.skip rfl (Sub.skip rfl (Sub.skip rfl (Sub.skip rfl (Sub.skip rfl (Sub.skip rfl (Sub.same rfl (by rw [g381]) (Sub.refl _)))))))))) (List.Sublist.refl _)
            ) ?_
            refine RunL.nil ?_
            refine RunE.next ?_
            refine RunC.cond rfl (fun h => absurd h (by rw [dc1]; exact Bool.false_ne_true)) ?_
            intro c10
            clear c10
            refine RunC.skip ?_
            refine RunE.next ?_
            refine RunC.seq ?_
            refine RunC.region ?_
            iterate 3 refine RunL.val (Val.pure rfl) rfl rfl rfl ?_
            refine RunL.andPart (dj := 391) (dp := 416) (x := (!decide (dayG g first second goal = -1) && (decide (dayG g first second goal < (gArrives g k goal).1.1) || (!decide ((gArrives g k goal).1.2 = -1) && decide ((gArrives g k goal).1.2 < dayG g first second goal)))) || (decide (dayG g first second goal = -1) && !decide ((gArrives g k goal).1.2 = -1))) 25 rfl (fun g391 => by
              have g391' := g391
              try simp only [decide_eq_true_eq, decide_eq_false_iff_not, Bool.not_eq_true', Bool.not_eq_false', Bool.and_eq_true, Bool.or_eq_true, Bool.and_eq_false_iff, Bool.or_eq_false_iff, Int.not_le, Int.not_lt] at g391'
              iterate 3 refine RunL.val (Val.pure rfl) rfl rfl rfl ?_
              refine RunL.andPart (dj := 394) (dp := 407) (x := decide (dayG g first second goal < (gArrives g k goal).1.1) || (!decide ((gArrives g k goal).1.2 = -1) && decide ((gArrives g k goal).1.2 < dayG g first second goal))) 13 rfl (fun g394 => by
                have g394' := g394
                try simp only [decide_eq_true_eq, decide_eq_false_iff_not, Bool.not_eq_true', Bool.not_eq_false', Bool.and_eq_true, Bool.or_eq_true, Bool.and_eq_false_iff, Bool.or_eq_false_iff, Int.not_le, Int.not_lt] at g394'
                iterate 4 refine RunL.val (Val.pure rfl) rfl rfl rfl ?_
                refine RunL.orPart (dj := 398) (dp := 406) (x := !decide ((gArrives g k goal).1.2 = -1) && decide ((gArrives g k goal).1.2 < dayG g first second goal)) 8 rfl (fun g398 => by
                  have g398' := g398
                  try simp only [decide_eq_true_eq, decide_eq_false_iff_not, Bool.not_eq_true', Bool.not_eq_false', Bool.and_eq_true, Bool.or_eq_true, Bool.and_eq_false_iff, Bool.or_eq_false_iff, Int.not_le, Int.not_lt] at g398'
                  iterate 3 refine RunL.val (Val.pure rfl) rfl rfl rfl ?_
                  refine RunL.andPart (dj := 401) (dp := 405) 4 rfl (fun g401 => by
                    have g401' := g401
                    try simp only [decide_eq_true_eq, decide_eq_false_iff_not, Bool.not_eq_true', Bool.not_eq_false', Bool.and_eq_true, Bool.or_eq_true, Bool.and_eq_false_iff, Bool.or_eq_false_iff, Int.not_le, Int.not_lt] at g401'
                    iterate 4 refine RunL.val (Val.pure rfl) rfl rfl rfl ?_
                    exact RunL.segEnd (Sub.cons rfl (Sub.skip rfl (Sub.skip rfl (Sub.skip rfl (Sub.skip rfl (Sub.same rfl (by rw [g401]) (Sub.refl _))))))) (List.Sublist.refl _)
                  ) (fun g401 => by
                    have g401' := g401
                    try simp only [decide_eq_true_eq, decide_eq_false_iff_not, Bool.not_eq_true', Bool.not_eq_false', Bool.and_eq_true, Bool.or_eq_true, Bool.and_eq_false_iff, Bool.or_eq_false_iff, Int.not_le, Int.not_lt] at g401'
                    iterate 3 refine RunL.no rfl rfl rfl ?_
                    refine RunL.val (Val.pure rfl) rfl rfl rfl ?_
                    exact RunL.segEnd (Sub.cons rfl (Sub.skip rfl (Sub.skip rfl (Sub.skip rfl (Sub.skip rfl (Sub.same rfl (by rw [g401]) (Sub.refl _))))))) (List.Sublist.refl _)
                  ) ?_
                  refine RunL.val (Val.pure rfl) rfl rfl rfl ?_
                  exact RunL.segEnd (Sub.cons rfl (Sub.skip rfl (Sub.skip rfl (Sub.skip rfl (Sub.skip rfl (Sub.skip rfl (Sub.same rfl (by rw [g398]) (Sub.refl _)))))))) (List.Sublist.refl _)
                ) (fun g398 => by
                  have g398' := g398
                  try simp only [decide_eq_true_eq, decide_eq_false_iff_not, Bool.not_eq_true', Bool.not_eq_false', Bool.and_eq_true, Bool.or_eq_true, Bool.and_eq_false_iff, Bool.or_eq_false_iff, Int.not_le, Int.not_lt] at g398'
                  iterate 7 refine RunL.no rfl rfl rfl ?_
                  refine RunL.val (Val.pure rfl) rfl rfl rfl ?_
                  exact RunL.segEnd (Sub.cons rfl (Sub.skip rfl (Sub.skip rfl (Sub.skip rfl (Sub.skip rfl (Sub.skip rfl (Sub.skip rfl (Sub.skip rfl (Sub.skip rfl (Sub.same rfl (by rw [g398]) (Sub.refl _))))))))))) (List.Sublist.refl _)
                ) ?_
                refine RunL.val (Val.pure rfl) rfl rfl rfl ?_
                exact RunL.segEnd (Sub.cons rfl (Sub.skip rfl (Sub.skip rfl (Sub.skip rfl (Sub.skip rfl (Sub.skip rfl (Sub.skip rfl (Sub.same rfl (by rw [g394]) (Sub.refl _))))))))) (List.Sublist.refl _)
              ) (fun g394 => by
                have g394' := g394
                try simp only [decide_eq_true_eq, decide_eq_false_iff_not, Bool.not_eq_true', Bool.not_eq_false', Bool.and_eq_true, Bool.or_eq_true, Bool.and_eq_false_iff, Bool.or_eq_false_iff, Int.not_le, Int.not_lt] at g394'
                iterate 12 refine RunL.no rfl rfl rfl ?_
                refine RunL.val (Val.pure rfl) rfl rfl rfl ?_
                exact RunL.segEnd (Sub.cons rfl (Sub.skip rfl (Sub.skip rfl (Sub.skip rfl (Sub.skip rfl (Sub.skip rfl (Sub.skip rfl (Sub.skip rfl (Sub.skip rfl (Sub.skip rfl (Sub.skip rfl (Sub.skip rfl (Sub.skip rfl (Sub.skip rfl (Sub.same rfl (by rw [g394]) (Sub.refl _)))))))))))))))) (List.Sublist.refl _)
              ) ?_
              refine RunL.val (Val.pure rfl) rfl rfl rfl ?_
              refine RunL.orPart (dj := 408) (dp := 415) (x := decide (dayG g first second goal = -1) && !decide ((gArrives g k goal).1.2 = -1)) 7 rfl (fun g408 => by
                have g408' := g408
                try simp only [decide_eq_true_eq, decide_eq_false_iff_not, Bool.not_eq_true', Bool.not_eq_false', Bool.and_eq_true, Bool.or_eq_true, Bool.and_eq_false_iff, Bool.or_eq_false_iff, Int.not_le, Int.not_lt] at g408'
                iterate 3 refine RunL.val (Val.pure rfl) rfl rfl rfl ?_
                refine RunL.andPart (dj := 411) (dp := 414) 3 rfl (fun g411 => by
                  have g411' := g411
                  try simp only [decide_eq_true_eq, decide_eq_false_iff_not, Bool.not_eq_true', Bool.not_eq_false', Bool.and_eq_true, Bool.or_eq_true, Bool.and_eq_false_iff, Bool.or_eq_false_iff, Int.not_le, Int.not_lt] at g411'
                  iterate 3 refine RunL.val (Val.pure rfl) rfl rfl rfl ?_
                  exact RunL.segEnd (Sub.cons rfl (Sub.skip rfl (Sub.skip rfl (Sub.skip rfl (Sub.same rfl (by rw [g411]) (Sub.refl _)))))) (List.Sublist.refl _)
                ) (fun g411 => by
                  have g411' := g411
                  try simp only [decide_eq_true_eq, decide_eq_false_iff_not, Bool.not_eq_true', Bool.not_eq_false', Bool.and_eq_true, Bool.or_eq_true, Bool.and_eq_false_iff, Bool.or_eq_false_iff, Int.not_le, Int.not_lt] at g411'
                  refine RunL.no rfl rfl rfl ?_
                  refine RunL.no rfl rfl rfl ?_
                  refine RunL.val (Val.pure rfl) rfl rfl rfl ?_
                  exact RunL.segEnd (Sub.cons rfl (Sub.skip rfl (Sub.skip rfl (Sub.skip rfl (Sub.same rfl (by rw [g411]) (Sub.refl _)))))) (List.Sublist.refl _)
                ) ?_
                refine RunL.val (Val.pure rfl) rfl rfl rfl ?_
                exact RunL.segEnd (Sub.cons rfl (Sub.skip rfl (Sub.skip rfl (Sub.skip rfl (Sub.skip rfl (Sub.skip rfl (Sub.same rfl (by rw [g408]) (Sub.refl _)))))))) (List.Sublist.refl _)
              ) (fun g408 => by
                have g408' := g408
                try simp only [decide_eq_true_eq, decide_eq_false_iff_not, Bool.not_eq_true', Bool.not_eq_false', Bool.and_eq_true, Bool.or_eq_true, Bool.and_eq_false_iff, Bool.or_eq_false_iff, Int.not_le, Int.not_lt] at g408'
                iterate 6 refine RunL.no rfl rfl rfl ?_
                refine RunL.val (Val.pure rfl) rfl rfl rfl ?_
                exact RunL.segEnd (Sub.cons rfl (Sub.skip rfl (Sub.skip rfl (Sub.skip rfl (Sub.skip rfl (Sub.skip rfl (Sub.skip rfl (Sub.skip rfl (Sub.same rfl (by rw [g408]) (Sub.refl _)))))))))) (List.Sublist.refl _)
              ) ?_
              refine RunL.val (Val.pure rfl) rfl rfl rfl ?_
              exact RunL.segEnd (Sub.cons rfl (Sub.skip rfl (Sub.skip rfl (Sub.skip rfl (Sub.skip rfl (Sub.skip rfl (Sub.skip rfl (Sub.skip rfl (Sub.same rfl (by rw [g391]) (Sub.refl _)))))))))) (List.Sublist.refl _)
            ) (fun g391 => by
              have g391' := g391
              try simp only [decide_eq_true_eq, decide_eq_false_iff_not, Bool.not_eq_true', Bool.not_eq_false', Bool.and_eq_true, Bool.or_eq_true, Bool.and_eq_false_iff, Bool.or_eq_false_iff, Int.not_le, Int.not_lt] at g391'
              iterate 24 refine RunL.no rfl rfl rfl ?_
              refine RunL.val (Val.pure rfl) rfl rfl rfl ?_
              exact RunL.segEnd (Sub.cons rfl (Sub.skip rfl (Sub.skip rfl (Sub.skip rfl (Sub.skip rfl (Sub.skip rfl (Sub.skip rfl (Sub.skip rfl (Sub.skip rfl (Sub.skip rfl (Sub.skip rfl (Sub.skip rfl (Sub.skip rfl (Sub.skip rfl (Sub.skip rfl (Sub.skip rfl (Sub.skip rfl (Sub.skip rfl (Sub.skip rfl (Sub.skip rfl (Sub.skip rfl (Sub.skip rfl (Sub.skip rfl (Sub.skip rfl (Sub.skip rfl (Sub.skip rfl (Sub.same rfl (by rw [g391]) (Sub.refl _)))))))))))))))))))))))))))) (List.Sublist.refl _)
            ) ?_
            refine RunL.nil ?_
            refine RunE.next ?_
            refine RunC.cond rfl (fun h => absurd h (by rw [dc2]; exact Bool.false_ne_true)) ?_
            intro c11
            clear c11
            refine RunC.skip ?_
            refine RunE.block_normal ?_
            refine RunE.next ?_
            refine RunC.region ?_
            refine RunL.val (Val.add rfl rfl (IntWalk.i64_in _ ⟨by omega, by omega⟩)) rfl rfl rfl ?_
            refine RunL.val (Val.pure rfl) rfl rfl rfl ?_
            refine RunL.nil ?_
            exact RunE.roundX (x.1 + 1 + 1 + 1 + 1 + 1 + 1 + 1, y.1, y.2) (by omega) ⟨by simp only; omega, yI⟩ rfl (Sub.consE (t := 95) rfl rfl (Sub.consE (t := 12) rfl rfl (Sub.consE (t := 13) rfl rfl (Sub.cons (t := 2) rfl (Sub.cons (t := 5) rfl (Sub.cons (t := 6) rfl (Sub.cons (t := 8) rfl (Sub.cons (t := 11) rfl (Sub.cons (t := 94) rfl (Sub.nil _)))))))))) (.cons .here rfl (.cons .here rfl (.cons .here rfl .nil)))
      · intro c3
        have c3' := c3; clear c3
        try simp only [decide_eq_true_eq, decide_eq_false_iff_not, Bool.not_eq_true', Bool.not_eq_false', Bool.and_eq_true, Bool.or_eq_true, Bool.and_eq_false_iff, Bool.or_eq_false_iff, Int.not_le, Int.not_lt] at c3'
        obtain rfl : k = g.f.things.length := by omega
        obtain ⟨hxa, hxb⟩ := kI
        have hxr := hxb.rng
        obtain ⟨bn, hbn⟩ : ∃ b : Nat, max 0 x.2.1 = (b : Int) := ⟨(max 0 x.2.1).toNat, by omega⟩
        have hfin := true_end rfl hxb hs3 hbn
        refine RunC.exit ?_
        refine RunE.pass_exit ?_
        refine RunE.pass_exit ?_
        refine RunE.block_here ?_
        refine RunE.next ?_
        refine RunC.seq ?_
        refine RunC.region ?_
        iterate 3 refine RunL.val (Val.pure rfl) rfl rfl rfl ?_
        refine RunL.andPart (dj := 420) (dp := 423) 3 rfl (fun g420 => by
          have g420' := g420
          try simp only [decide_eq_true_eq, decide_eq_false_iff_not, Bool.not_eq_true', Bool.not_eq_false', Bool.and_eq_true, Bool.or_eq_true, Bool.and_eq_false_iff, Bool.or_eq_false_iff, Int.not_le, Int.not_lt] at g420'
          iterate 3 refine RunL.val (Val.pure rfl) rfl rfl rfl ?_
          exact RunL.segEnd (Sub.cons rfl (Sub.skip rfl (Sub.skip rfl (Sub.skip rfl (Sub.same rfl (by rw [g420]) (Sub.refl _)))))) (List.Sublist.refl _)
        ) (fun g420 => by
          have g420' := g420
          try simp only [decide_eq_true_eq, decide_eq_false_iff_not, Bool.not_eq_true', Bool.not_eq_false', Bool.and_eq_true, Bool.or_eq_true, Bool.and_eq_false_iff, Bool.or_eq_false_iff, Int.not_le, Int.not_lt] at g420'
          refine RunL.no rfl rfl rfl ?_
          refine RunL.no rfl rfl rfl ?_
          refine RunL.val (Val.pure rfl) rfl rfl rfl ?_
          exact RunL.segEnd (Sub.cons rfl (Sub.skip rfl (Sub.skip rfl (Sub.skip rfl (Sub.same rfl (by rw [g420]) (Sub.refl _)))))) (List.Sublist.refl _)
        ) ?_
        refine RunL.val (Val.pure rfl) rfl rfl rfl ?_
        refine RunL.orPart (dj := 424) (dp := 435) (x := decide (0 ≤ x.2.1) && decide (((s3 >>> bn &&& 1 : Nat) : Int) = 1)) 11 rfl (fun g424 => by
          have g424' := g424
          try simp only [decide_eq_true_eq, decide_eq_false_iff_not, Bool.not_eq_true', Bool.not_eq_false', Bool.and_eq_true, Bool.or_eq_true, Bool.and_eq_false_iff, Bool.or_eq_false_iff, Int.not_le, Int.not_lt] at g424'
          iterate 3 refine RunL.val (Val.pure rfl) rfl rfl rfl ?_
          refine RunL.andPart (dj := 427) (dp := 434) 7 rfl (fun g427 => by
            have g427' := g427
            try simp only [decide_eq_true_eq, decide_eq_false_iff_not, Bool.not_eq_true', Bool.not_eq_false', Bool.and_eq_true, Bool.or_eq_true, Bool.and_eq_false_iff, Bool.or_eq_false_iff, Int.not_le, Int.not_lt] at g427'
            refine RunL.val (Val.pure rfl) rfl rfl rfl ?_
            refine RunL.val (Val.pure rfl) rfl rfl rfl ?_
            refine RunL.val (Val.max rfl rfl) rfl rfl rfl ?_
            refine RunL.val (Val.shrN (a := s3) (b := bn) rfl (congrArg (fun z => some (Value.int .i64 z)) hbn) (by show bn ≤ 64; omega)) rfl rfl rfl ?_
            refine RunL.val (Val.and (a := s3 >>> bn) (b := 1) rfl rfl (by have := Nat.shiftRight_le s3 bn; show _ < 18446744073709551616; omega) (by decide) (i64_inN (by have := Nat.and_le_right (n := s3 >>> bn) (m := 1); omega))) rfl rfl rfl ?_
            refine RunL.val (Val.pure rfl) rfl rfl rfl ?_
            refine RunL.val (Val.pure rfl) rfl rfl rfl ?_
            exact RunL.segEnd (Sub.cons rfl (Sub.skip rfl (Sub.skip rfl (Sub.skip rfl (Sub.skip rfl (Sub.skip rfl (Sub.skip rfl (Sub.skip rfl (Sub.same rfl (by rw [g427]) (Sub.refl _)))))))))) (List.Sublist.refl _)
          ) (fun g427 => by
            have g427' := g427
            try simp only [decide_eq_true_eq, decide_eq_false_iff_not, Bool.not_eq_true', Bool.not_eq_false', Bool.and_eq_true, Bool.or_eq_true, Bool.and_eq_false_iff, Bool.or_eq_false_iff, Int.not_le, Int.not_lt] at g427'
            iterate 6 refine RunL.no rfl rfl rfl ?_
            refine RunL.val (Val.pure rfl) rfl rfl rfl ?_
            exact RunL.segEnd (Sub.cons rfl (Sub.skip rfl (Sub.skip rfl (Sub.skip rfl (Sub.skip rfl (Sub.skip rfl (Sub.skip rfl (Sub.skip rfl (Sub.same rfl (by rw [g427]) (Sub.refl _)))))))))) (List.Sublist.refl _)
          ) ?_
          refine RunL.val (Val.pure rfl) rfl rfl rfl ?_
          exact RunL.segEnd (Sub.cons rfl (Sub.skip rfl (Sub.skip rfl (Sub.skip rfl (Sub.skip rfl (Sub.skip rfl (Sub.same rfl (by rw [g424]) (Sub.refl _)))))))) (List.Sublist.refl _)
        ) (fun g424 => by
          have g424' := g424
          try simp only [decide_eq_true_eq, decide_eq_false_iff_not, Bool.not_eq_true', Bool.not_eq_false', Bool.and_eq_true, Bool.or_eq_true, Bool.and_eq_false_iff, Bool.or_eq_false_iff, Int.not_le, Int.not_lt] at g424'
          iterate 10 refine RunL.no rfl rfl rfl ?_
          refine RunL.val (Val.pure rfl) rfl rfl rfl ?_
          exact RunL.segEnd (Sub.cons rfl (Sub.skip rfl (Sub.skip rfl (Sub.skip rfl (Sub.skip rfl (Sub.skip rfl (Sub.skip rfl (Sub.skip rfl (Sub.skip rfl (Sub.skip rfl (Sub.skip rfl (Sub.skip rfl (Sub.same rfl (by rw [g424]) (Sub.refl _)))))))))))))) (List.Sublist.refl _)
        ) ?_
        refine RunL.val (Val.pure rfl) rfl rfl rfl ?_
        refine RunL.sure (dj := 436) true rfl (by exact hfin) ?_
        refine RunL.callP (isCall_func rfl ent_10) rfl rfl rfl (fun w hm => alive_calls w) ?_
        refine RunL.val (Val.pure rfl) rfl rfl rfl ?_
        refine RunL.val (Val.pure rfl) rfl rfl rfl ?_
        refine RunL.nil ?_
        refine RunE.next ?_
        refine RunC.ret ?_
        exact RunE.retP (.r1 rfl (.tmp rfl)) (by first | rfl | simp)
end Go.Proofs.Ytjijeeadmhpfcaa
