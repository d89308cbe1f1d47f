/- Walks of the laws of layer 1: PairMore. -/
import Derived.Test.YthppnhjggdebbaaLg
import Derived.Test.YthppnhjggdebbaaFacts6
set_option linter.unusedSimpArgs false
set_option linter.unusedVariables false
namespace Go.Proofs.Ythppnhjggdebbaa
open Go Go.Eng Go.Pw1

theorem lnarrow_calls (s : Sp) (h1 : -60000 ≤ s.lo ∧ s.lo ≤ s.hi ∧ s.hi ≤ 60000) (n : Nat) (hn : n ≤ 1000) (W : World) : Calls Try.prog 36 #[.agg #[.int .i64 s.lo, .int .i64 s.hi], .int .i64 (n : Int)] W (Pure (.agg #[.int .i64 (narrowS s n).lo, .int .i64 (narrowS s n).hi]) W) := by
  have h2 : n % 3 < 3 := Nat.mod_lt _ (by omega)
  have h3 : n / 3 % 3 < 3 := Nat.mod_lt _ (by omega)
  refine calls_start Try.func36 rfl rfl ?_
  refine RunC.seq ?_
  refine RunC.region ?_
  refine RunL.new (New.box rfl) rfl rfl rfl (fun b2 => ?_)
  refine RunL.new (New.alloc zero_23) rfl rfl rfl (fun b4 => ?_)
  refine RunL.nil ?_
  refine RunE.next ?_
  refine RunC.seq ?_
  refine RunC.region ?_
  refine RunL.val (Val.fieldAddr rfl fld_23_1) rfl rfl rfl ?_
  refine RunL.val (Val.load_one rfl (.tail _ (.head _)) ty_3 rfl) rfl rfl rfl ?_
  refine RunL.val (Val.fieldAddr rfl fld_23_0) rfl rfl rfl ?_
  refine RunL.val (Val.load_one rfl (.tail _ (.head _)) ty_3 rfl) rfl rfl rfl ?_
  refine RunL.val (Val.pure rfl) rfl rfl rfl ?_
  refine RunL.val (Val.remN (a := n) (b := 3) rfl rfl (by omega)) rfl rfl rfl ?_
  refine RunL.val (Val.add rfl rfl (IntWalk.i64_in _ ⟨by omega, by omega⟩)) rfl rfl rfl ?_
  refine RunL.val (Val.min rfl rfl) rfl rfl rfl ?_
  refine RunL.val (Val.pure rfl) rfl rfl rfl ?_
  refine RunL.nil ?_
  refine RunE.next ?_
  refine RunC.seq ?_
  refine RunC.region ?_
  refine RunL.val (Val.pure rfl) rfl rfl rfl ?_
  refine RunL.val (Val.pure rfl) rfl rfl rfl ?_
  refine RunL.val (Val.fieldAddr rfl fld_23_1) rfl rfl rfl ?_
  refine RunL.val (Val.load_one rfl (.tail _ (.head _)) ty_3 rfl) rfl rfl rfl ?_
  refine RunL.val (Val.pure rfl) rfl rfl rfl ?_
  refine RunL.val (Val.quoN (a := n) (b := 3) rfl rfl (by omega) (i64_inN (by omega))) rfl rfl rfl ?_
  refine RunL.val (Val.remN (a := n / 3) (b := 3) rfl rfl (by omega)) rfl rfl rfl ?_
  refine RunL.val (Val.sub' rfl rfl (IntWalk.i64_in _ ⟨by omega, by omega⟩)) rfl rfl rfl ?_
  refine RunL.val (Val.max rfl rfl) rfl rfl rfl ?_
  refine RunL.callP (isCall_func rfl ent_28) rfl rfl rfl (fun w hm => lspan_calls _ _ w) ?_
  refine RunL.sto (Sto.store rfl rfl .here ty_23 rfl rfl) rfl rfl ?_
  refine RunL.nil ?_
  refine RunE.next ?_
  refine RunC.ret ?_
  exact RunE.retP (.r1 rfl (.agg rfl (.head _) ty_23 rfl)) (by first | rfl | simp)
theorem lin_calls (a b : Int × Int) (W : World) : Calls Try.prog 37 #[.agg #[.int .i64 a.1, .int .i64 a.2], .agg #[.int .i64 b.1, .int .i64 b.2]] W (Pure (.bool (decide (b.1 ≤ a.1) && decide (a.2 ≤ b.2))) W) := by
  refine calls_start Try.func37 rfl rfl ?_
  refine RunC.seq ?_
  refine RunC.region ?_
  refine RunL.new (New.box rfl) rfl rfl rfl (fun b2 => ?_)
  refine RunL.new (New.box rfl) rfl rfl rfl (fun b3 => ?_)
  refine RunL.val (Val.pure rfl) rfl rfl rfl ?_
  refine RunL.nil ?_
  refine RunE.next ?_
  refine RunC.seq ?_
  refine RunC.region ?_
  refine RunL.val (Val.fieldAddr rfl fld_23_0) rfl rfl rfl ?_
  refine RunL.val (Val.load_one rfl (.tail _ (.head _)) ty_3 rfl) rfl rfl rfl ?_
  refine RunL.val (Val.fieldAddr rfl fld_23_0) rfl rfl rfl ?_
  refine RunL.val (Val.load_one rfl (.head _) ty_3 rfl) rfl rfl rfl ?_
  refine RunL.val (Val.pure rfl) rfl rfl rfl ?_
  refine RunL.val (Val.pure rfl) rfl rfl rfl ?_
  refine RunL.andPart (dj := 10) (dp := 16) 6 rfl (fun g10 => by
    have g10' := g10
    try simp only [decide_eq_true_eq, decide_eq_false_iff_not, Bool.not_eq_true', Bool.not_eq_false', Bool.and_eq_true, Bool.or_eq_true, Bool.and_eq_false_iff, Bool.or_eq_false_iff, Int.not_le, Int.not_lt] at g10'
    refine RunL.val (Val.fieldAddr rfl fld_23_1) rfl rfl rfl ?_
    refine RunL.val (Val.load_one rfl (.tail _ (.head _)) ty_3 rfl) rfl rfl rfl ?_
    refine RunL.val (Val.fieldAddr rfl fld_23_1) rfl rfl rfl ?_
    refine RunL.val (Val.load_one rfl (.head _) ty_3 rfl) rfl rfl rfl ?_
    refine RunL.val (Val.pure rfl) rfl rfl rfl ?_
    refine RunL.val (Val.pure rfl) rfl rfl rfl ?_
    exact RunL.segEnd (Sub.cons rfl (Sub.skip rfl (Sub.skip rfl (Sub.skip rfl (Sub.skip rfl (Sub.skip rfl (Sub.skip rfl (Sub.same rfl (by rw [g10]) (Sub.refl _))))))))) (List.Sublist.refl _)
  ) (fun g10 => by
    have g10' := g10
    try simp only [decide_eq_true_eq, decide_eq_false_iff_not, Bool.not_eq_true', Bool.not_eq_false', Bool.and_eq_true, Bool.or_eq_true, Bool.and_eq_false_iff, Bool.or_eq_false_iff, Int.not_le, Int.not_lt] at g10'
    iterate 5 refine RunL.no rfl rfl rfl ?_
    refine RunL.val (Val.pure rfl) rfl rfl rfl ?_
    exact RunL.segEnd (Sub.cons rfl (Sub.skip rfl (Sub.skip rfl (Sub.skip rfl (Sub.skip rfl (Sub.skip rfl (Sub.skip rfl (Sub.same rfl (by rw [g10]) (Sub.refl _))))))))) (List.Sublist.refl _)
  ) ?_
  refine RunL.val (Val.pure rfl) rfl rfl rfl ?_
  refine RunL.nil ?_
  refine RunE.next ?_
  refine RunC.ret ?_
  exact RunE.retP (.r1 rfl (.tmp rfl)) (by first | rfl | simp)
theorem th_rows {l : List Th} : ∀ x ∈ l.map Th.cells, x.length = 9 := fun x hx => by obtain ⟨t, _, rfl⟩ := List.mem_map.1 hx; rfl
set_option maxHeartbeats 1000000 in
theorem more_calls (p : Pr) (n far : Int) (by_ : Nat) (hby : by_ ≤ 255) (q : Option Addr) (b o cap : Nat) (W : World) (hS : Sl W q b o 9 (p.things.map Th.cells)) :
    Calls Try.prog 10 #[p.v q cap, .int .i64 n, .int .i64 far, .int .u8 (by_ : Int)] W (Pure (.bool true) W) := by
  refine calls_start Try.func10 rfl rfl ?_
  refine RunC.seq ?_
  refine RunC.region ?_
  refine RunL.new (New.box rfl) rfl rfl rfl (fun b4 => ?_)
  refine RunL.val (Val.pure rfl) rfl rfl rfl ?_
  refine RunL.nil ?_
  refine RunE.next ?_
  refine RunC.seq ?_
  refine RunC.seq ?_
  refine RunC.region ?_
  refine RunL.val (Val.fieldAddr rfl fld_26_5) rfl rfl rfl ?_
  refine RunL.val (Val.load_one rfl (.head _) ty_24 rfl) rfl rfl rfl ?_
  refine RunL.val (Val.len_sl rfl sl_24) rfl rfl rfl ?_
  refine RunL.val (Val.pure rfl) rfl rfl rfl ?_
  refine RunL.val (Val.pure rfl) rfl rfl rfl ?_
  refine RunL.orPart (dj := 39) (dp := 43) 4 rfl (fun g39 => by
    have g39' := g39
    try simp only [decide_eq_true_eq, decide_eq_false_iff_not, Bool.not_eq_true', Bool.not_eq_false', Bool.and_eq_true, Bool.or_eq_true, Bool.and_eq_false_iff, Bool.or_eq_false_iff, Int.not_le, Int.not_lt] at g39'
    refine RunL.val (Val.load_agg rfl (.head _) ty_26 rfl) rfl rfl rfl ?_
    refine RunL.callP (isCall_func rfl ent_32) rfl rfl rfl (fun w hm => rPair_calls p q b o cap w (hS.mono (by decide) hm (by simp)) (by omega)) ?_
    refine RunL.val (Val.pure rfl) rfl rfl rfl ?_
    refine RunL.val (Val.pure rfl) rfl rfl rfl ?_
    exact RunL.segEnd (Sub.cons rfl (Sub.skip rfl (Sub.skip rfl (Sub.skip rfl (Sub.skip rfl (Sub.same rfl (by rw [g39]) (Sub.refl _))))))) (List.Sublist.refl _)
  ) (fun g39 => by
    have g39' := g39
    try simp only [decide_eq_true_eq, decide_eq_false_iff_not, Bool.not_eq_true', Bool.not_eq_false', Bool.and_eq_true, Bool.or_eq_true, Bool.and_eq_false_iff, Bool.or_eq_false_iff, Int.not_le, Int.not_lt] at g39'
    iterate 3 refine RunL.no rfl rfl rfl ?_
    refine RunL.val (Val.pure rfl) rfl rfl rfl ?_
    exact RunL.segEnd (Sub.cons rfl (Sub.skip rfl (Sub.skip rfl (Sub.skip rfl (Sub.skip rfl (Sub.same rfl (by rw [g39]) (Sub.refl _))))))) (List.Sublist.refl _)
  ) ?_
  refine RunL.val (Val.pure rfl) rfl rfl rfl ?_
  refine RunL.orPart (dj := 44) (dp := 49) 5 rfl (fun g44 => by
    have g44' := g44
    try simp only [decide_eq_true_eq, decide_eq_false_iff_not, Bool.not_eq_true', Bool.not_eq_false', Bool.and_eq_true, Bool.or_eq_true, Bool.and_eq_false_iff, Bool.or_eq_false_iff, Int.not_le, Int.not_lt] at g44'
    refine RunL.val (Val.fieldAddr rfl fld_26_5) rfl rfl rfl ?_
    refine RunL.val (Val.load_one rfl (.head _) ty_24 rfl) rfl rfl rfl ?_
    refine RunL.val (Val.len_sl rfl sl_24) rfl rfl rfl ?_
    refine RunL.val (Val.pure rfl) rfl rfl rfl ?_
    refine RunL.val (Val.pure rfl) rfl rfl rfl ?_
    exact RunL.segEnd (Sub.cons rfl (Sub.skip rfl (Sub.skip rfl (Sub.skip rfl (Sub.skip rfl (Sub.skip rfl (Sub.same rfl (by rw [g44]) (Sub.refl _)))))))) (List.Sublist.refl _)
  ) (fun g44 => by
    have g44' := g44
    try simp only [decide_eq_true_eq, decide_eq_false_iff_not, Bool.not_eq_true', Bool.not_eq_false', Bool.and_eq_true, Bool.or_eq_true, Bool.and_eq_false_iff, Bool.or_eq_false_iff, Int.not_le, Int.not_lt] at g44'
    iterate 4 refine RunL.no rfl rfl rfl ?_
    refine RunL.val (Val.pure rfl) rfl rfl rfl ?_
    exact RunL.segEnd (Sub.cons rfl (Sub.skip rfl (Sub.skip rfl (Sub.skip rfl (Sub.skip rfl (Sub.skip rfl (Sub.same rfl (by rw [g44]) (Sub.refl _)))))))) (List.Sublist.refl _)
  ) ?_
  refine RunL.val (Val.pure rfl) rfl rfl rfl ?_
  refine RunL.orPart (dj := 50) (dp := 53) 3 rfl (fun g50 => by
    have g50' := g50
    try simp only [decide_eq_true_eq, decide_eq_false_iff_not, Bool.not_eq_true', Bool.not_eq_false', Bool.and_eq_true, Bool.or_eq_true, Bool.and_eq_false_iff, Bool.or_eq_false_iff, Int.not_le, Int.not_lt] at g50'
    iterate 3 refine RunL.val (Val.pure rfl) rfl rfl rfl ?_
    exact RunL.segEnd (Sub.cons rfl (Sub.skip rfl (Sub.skip rfl (Sub.skip rfl (Sub.same rfl (by rw [g50]) (Sub.refl _)))))) (List.Sublist.refl _)
  ) (fun g50 => by
    have g50' := g50
    try simp only [decide_eq_true_eq, decide_eq_false_iff_not, Bool.not_eq_true', Bool.not_eq_false', Bool.and_eq_true, Bool.or_eq_true, Bool.and_eq_false_iff, Bool.or_eq_false_iff, Int.not_le, Int.not_lt] at g50'
    refine RunL.no rfl rfl rfl ?_
    refine RunL.no rfl rfl rfl ?_
    refine RunL.val (Val.pure rfl) rfl rfl rfl ?_
    exact RunL.segEnd (Sub.cons rfl (Sub.skip rfl (Sub.skip rfl (Sub.skip rfl (Sub.same rfl (by rw [g50]) (Sub.refl _)))))) (List.Sublist.refl _)
  ) ?_
  refine RunL.val (Val.pure rfl) rfl rfl rfl ?_
  refine RunL.orPart (dj := 54) (dp := 60) 6 rfl (fun g54 => by
    have g54' := g54
    try simp only [decide_eq_true_eq, decide_eq_false_iff_not, Bool.not_eq_true', Bool.not_eq_false', Bool.and_eq_true, Bool.or_eq_true, Bool.and_eq_false_iff, Bool.or_eq_false_iff, Int.not_le, Int.not_lt] at g54'
    refine RunL.val (Val.pure rfl) rfl rfl rfl ?_
    refine RunL.val (Val.fieldAddr rfl fld_26_5) rfl rfl rfl ?_
    refine RunL.val (Val.load_one rfl (.head _) ty_24 rfl) rfl rfl rfl ?_
    refine RunL.val (Val.len_sl rfl sl_24) rfl rfl rfl ?_
    refine RunL.val (Val.pure rfl) rfl rfl rfl ?_
    refine RunL.val (Val.pure rfl) rfl rfl rfl ?_
    exact RunL.segEnd (Sub.cons rfl (Sub.skip rfl (Sub.skip rfl (Sub.skip rfl (Sub.skip rfl (Sub.skip rfl (Sub.skip rfl (Sub.same rfl (by rw [g54]) (Sub.refl _))))))))) (List.Sublist.refl _)
  ) (fun g54 => by
    have g54' := g54
    try simp only [decide_eq_true_eq, decide_eq_false_iff_not, Bool.not_eq_true', Bool.not_eq_false', Bool.and_eq_true, Bool.or_eq_true, Bool.and_eq_false_iff, Bool.or_eq_false_iff, Int.not_le, Int.not_lt] at g54'
    iterate 5 refine RunL.no rfl rfl rfl ?_
    refine RunL.val (Val.pure rfl) rfl rfl rfl ?_
    exact RunL.segEnd (Sub.cons rfl (Sub.skip rfl (Sub.skip rfl (Sub.skip rfl (Sub.skip rfl (Sub.skip rfl (Sub.skip rfl (Sub.same rfl (by rw [g54]) (Sub.refl _))))))))) (List.Sublist.refl _)
  ) ?_
  refine RunL.nil ?_
  refine RunE.next ?_
  refine RunC.cond rfl ?_ ?_
  · intro c0
    have c0' := c0; clear c0
    try simp only [decide_eq_true_eq, decide_eq_false_iff_not, Bool.not_eq_true', Bool.not_eq_false', Bool.and_eq_true, Bool.or_eq_true, Bool.and_eq_false_iff, Bool.or_eq_false_iff, Int.not_le, Int.not_lt] at c0'
    refine RunC.seq ?_
    refine RunC.region ?_
    refine RunL.callP (isCall_func rfl ent_12) rfl rfl rfl (fun w hm => awake_calls w) ?_
    refine RunL.val (Val.pure rfl) rfl rfl rfl ?_
    refine RunL.nil ?_
    refine RunE.next ?_
    refine RunC.ret ?_
    refine RunE.pass_ret ?_
    exact RunE.retP (.r1 rfl (.tmp rfl)) (by first | rfl | simp)
  · intro c0
    have c0' := c0; clear c0
    try simp only [decide_eq_true_eq, decide_eq_false_iff_not, Bool.not_eq_true', Bool.not_eq_false', Bool.and_eq_true, Bool.or_eq_true, Bool.and_eq_false_iff, Bool.or_eq_false_iff, Int.not_le, Int.not_lt] at c0'
    obtain ⟨⟨⟨⟨hl, hip⟩, hz⟩, hn0⟩, hn1⟩ := c0'
    have hp := isPair_ok hip
    have hl2 : p.things.length ≤ 100000000000 := by omega
    obtain ⟨i, rfl⟩ := Int.eq_ofNat_of_zero_le hn0
    have hi : i < p.things.length := by omega
    have hpos : 0 < p.things.length := by omega
    obtain ⟨j, hj0⟩ : ∃ j, by_ % p.things.length = j := ⟨_, rfl⟩
    have hj : j < p.things.length := by rw [← hj0]; exact Nat.mod_lt _ hpos
    obtain ⟨t, ht⟩ : ∃ t, p.things[j] = t := ⟨_, rfl⟩
    have hta := thingAt_eq hj ht
    obtain ⟨hth, htf⟩ := hp.ths t (ht ▸ List.getElem_mem hj)
    obtain ⟨g1, g2, g3, g4⟩ := hth
    obtain ⟨f1, f2, f3, b1, b2, b3, t1, t2, n1, n2, n3, hlen, _⟩ := id hp
    have m5 : by_ / 5 ≤ 51 := by omega
    have m7 : by_ / 7 ≤ 36 := by omega
    refine RunC.skip ?_
    refine RunE.next ?_
    refine RunC.seq ?_
    refine RunC.region ?_
    refine RunL.val (Val.load_agg rfl (.head _) ty_26 rfl) rfl rfl rfl ?_
    refine RunL.val (Val.pure rfl) rfl rfl rfl ?_
    refine RunL.val (Val.convInt rfl und_5 und_3 (IntWalk.i64_in _ ⟨by omega, by omega⟩)) rfl rfl rfl ?_
    refine RunL.new (New.alloc zero_26) rfl rfl rfl (fun b9 => ?_)
    refine RunL.sto (Sto.store rfl rfl .here ty_26 rfl rfl) rfl rfl ?_
    refine RunL.val (Val.pure rfl) rfl rfl rfl ?_
    refine RunL.nil ?_
    refine RunE.next ?_
    refine RunC.seq ?_
    refine RunC.region ?_
    refine RunL.new (New.buildSlice0 sl_24) rfl rfl rfl (fun b65 => ?_)
    refine RunL.val (Val.fieldAddr rfl fld_26_5) rfl rfl rfl ?_
    refine RunL.val (Val.load_one rfl (.tail _ (.tail _ (.head _))) ty_24 rfl) rfl rfl rfl ?_
    refine RunL.keep (Sub.refl _) (.cons (.there .here) rfl (.cons (.there .here) rfl (.cons .here rfl .nil))) ?_
    refine RunL.append (A := [(b9, _), (b4, _)]) (B := _) (x := (some (b65, 0, []))) (ys := (p.things.map Th.cells).flatten) ap_24 rfl rfl rfl OwnOk.empty (flat_len th_len _) (fun h => by have h2 := hS.ptrM hi; rw [h] at h2; cases h2) (fun w hm => (hS.mono (by decide) hm (by simp)).flat (by decide)) (one_flat th_one _) (by simp only [maxLen]; omega) (by omega) rfl (fun z68 hz68 => ?_)
    obtain ⟨bz68, cz68, rz68, rfl, lz681, lz682, lz683⟩ := hz68.has (by omega)
    refine RunL.val (Val.fieldAddr rfl fld_26_5) rfl rfl rfl ?_
    refine RunL.sto (Sto.store rfl rfl .here ty_24 rfl rfl) rfl rfl ?_
    refine RunL.nil ?_
    refine RunE.next ?_
    refine RunC.seq ?_
    refine RunC.draw 7 fol_ (.cons .here rfl (.cons .here rfl (.cons .here rfl .nil))) ?_
    refine RunA.val (i := 0) rfl (by kernel_rfl) (by kernel_rfl) (Val.fieldAddr rfl fld_26_5) rfl rfl rfl (fun _ _ _ h => h) (.cons .here rfl (.cons .here rfl (.cons .here rfl .nil))) rfl ?_
    refine RunA.val (i := 1) rfl (by kernel_rfl) (by kernel_rfl) (Val.load_one rfl (.head _) ty_24 rfl) rfl rfl rfl (fun _ _ _ h => h) (.cons .here rfl (.cons .here rfl (.cons .here rfl .nil))) rfl ?_
    refine RunA.val (i := 2) rfl (by kernel_rfl) (by kernel_rfl) (Val.pure rfl) rfl rfl rfl (fun _ _ _ h => h) (.cons .here rfl (.cons .here rfl (.cons .here rfl .nil))) rfl ?_
    refine RunA.val (i := 3) rfl (by kernel_rfl) (by kernel_rfl) (Val.fieldAddr rfl fld_26_5) rfl rfl rfl (fun _ _ _ h => h) (.cons .here rfl (.cons .here rfl (.cons .here rfl .nil))) rfl ?_
    refine RunA.val (i := 4) rfl (by kernel_rfl) (by kernel_rfl) (Val.load_one rfl (.tail _ (.head _)) ty_24 rfl) rfl rfl rfl (fun _ _ _ h => h) (.cons .here rfl (.cons .here rfl (.cons .here rfl .nil))) rfl ?_
    refine RunA.val (i := 5) rfl (by kernel_rfl) (by kernel_rfl) (Val.len_sl rfl sl_24) rfl rfl rfl (fun _ _ _ h => h) (.cons .here rfl (.cons .here rfl (.cons .here rfl .nil))) rfl ?_
    refine RunA.val (i := 6) rfl (by kernel_rfl) (by kernel_rfl) (Val.remN (a := by_) (b := p.things.length) rfl rfl hpos) rfl rfl rfl (fun _ _ _ h => h) (.cons .here rfl (.cons .here rfl (.cons .here rfl .nil))) rfl ?_
    refine RunA.toB (by kernel_rfl) ?_
    refine RunB.one (i := 7) (by kernel_rfl) ?_
    refine RunI.val rfl (Val.indexAddr_sl rfl rfl sl_24 (by omega) (by rw [hj0]; omega)) rfl rfl rfl (RunK.toB ?_)
    refine RunB.one (i := 8) (by kernel_rfl) ?_
    refine RunI.val rfl (Val.pure rfl) rfl rfl rfl (RunK.toB ?_)
    refine RunB.done (by kernel_rfl) ?_
    refine RunE.next ?_
    refine RunC.seqJ (X := Pr) (n0 := [(b4, _)]) (fun x q => q) (fun x => []) (fun x => [(b9, .cells (x.cells (some ⟨bz68, 0, none⟩) cz68).toArray 26 (0, 0)), (bz68, .cells ((x.things.map Th.cells).flatten ++ rz68).toArray 47 (0, 0))]) (fun x => []) (fun x => More p x) (Sub.cons (t := 1) rfl (Sub.cons (t := 4) rfl (Sub.cons (t := 8) rfl (Sub.cons (t := 9) rfl (Sub.nil _))))) (.cons (.there .here) rfl .nil) ?_ ?_
    · refine RunC.seq ?_
      refine RunC.region ?_
      simp only [hj0]
      refine RunL.val (Val.pure rfl) rfl rfl rfl ?_
      refine RunL.val (Val.remN (a := by_) (b := 5) rfl rfl (by omega)) rfl rfl rfl ?_
      refine RunL.nil ?_
      refine RunE.next ?_
      refine RunC.block ?_
      refine RunC.seq ?_
      refine RunC.region ?_
      refine RunL.val (Val.pure rfl) rfl rfl rfl ?_
      refine RunL.val (Val.pure rfl) rfl rfl rfl ?_
      refine RunL.nil ?_
      refine RunE.next ?_
      refine RunC.cond rfl ?_ ?_
      · intro c1
        have c1' := c1; clear c1
        try simp only [decide_eq_true_eq, decide_eq_false_iff_not, Bool.not_eq_true', Bool.not_eq_false', Bool.and_eq_true, Bool.or_eq_true, Bool.and_eq_false_iff, Bool.or_eq_false_iff, Int.not_le, Int.not_lt] at c1'
        refine RunC.draw 11 fol_ (.cons .here rfl (.cons .here rfl (.cons .here rfl .nil))) ?_
        refine RunA.val (i := 0) rfl (by kernel_rfl) (by kernel_rfl) (Val.fieldAddr rfl fld_26_0) rfl rfl rfl (fun _ _ _ h => h) (.cons .here rfl (.cons .here rfl (.cons .here rfl .nil))) rfl ?_
        refine RunA.val (i := 1) rfl (by kernel_rfl) (by kernel_rfl) (Val.load_agg rfl (.tail _ (.head _)) ty_23 rfl) rfl rfl rfl (fun _ _ _ h => h) (.cons .here rfl (.cons .here rfl (.cons .here rfl .nil))) rfl ?_
        refine RunA.val (i := 2) rfl (by kernel_rfl) (by kernel_rfl) (Val.pure rfl) rfl rfl rfl (fun _ _ _ h => h) (.cons .here rfl (.cons .here rfl (.cons .here rfl .nil))) rfl ?_
        refine RunA.val (i := 3) rfl (by kernel_rfl) (by kernel_rfl) (Val.quoN (a := by_) (b := 5) rfl rfl (by omega) (i64_inN (by omega))) rfl rfl rfl (fun _ _ _ h => h) (.cons .here rfl (.cons .here rfl (.cons .here rfl .nil))) rfl ?_
        refine RunA.val (i := 5) rfl (by kernel_rfl) (by kernel_rfl) (Val.fieldAddr rfl fld_26_1) rfl rfl rfl (fun _ _ _ h => h) (.cons .here rfl (.cons .here rfl (.cons .here rfl .nil))) rfl ?_
        refine RunA.val (i := 6) rfl (by kernel_rfl) (by kernel_rfl) (Val.load_agg rfl (.tail _ (.head _)) ty_23 rfl) rfl rfl rfl (fun _ _ _ h => h) (.cons .here rfl (.cons .here rfl (.cons .here rfl .nil))) rfl ?_
        refine RunA.val (i := 7) rfl (by kernel_rfl) (by kernel_rfl) (Val.pure rfl) rfl rfl rfl (fun _ _ _ h => h) (.cons .here rfl (.cons .here rfl (.cons .here rfl .nil))) rfl ?_
        refine RunA.val (i := 8) rfl (by kernel_rfl) (by kernel_rfl) (Val.quoN (a := by_) (b := 7) rfl rfl (by omega) (i64_inN (by omega))) rfl rfl rfl (fun _ _ _ h => h) (.cons .here rfl (.cons .here rfl (.cons .here rfl .nil))) rfl ?_
        refine RunA.one (i := 4) (by kernel_rfl) (by kernel_rfl) ?_
        refine RunI.callP rfl (isCall_func rfl ent_36) rfl rfl rfl (fun w hm => lnarrow_calls p.focal (by omega) (by_ / 5) (by omega) w) (RunK.toA (.cons .here rfl (.cons .here rfl (.cons .here rfl .nil))) (.cons .here rfl (.cons .here rfl (.cons .here rfl .nil))) rfl ?_)
        refine RunA.val (i := 10) rfl (by kernel_rfl) (by kernel_rfl) (Val.fieldAddr rfl fld_26_0) rfl rfl rfl (fun _ _ _ h => h) (.cons .here rfl (.cons .here rfl (.cons .here rfl .nil))) rfl ?_
        refine RunA.one (i := 9) (by kernel_rfl) (by kernel_rfl) ?_
        refine RunI.callP rfl (isCall_func rfl ent_36) rfl rfl rfl (fun w hm => lnarrow_calls p.base (by omega) (by_ / 7) (by omega) w) (RunK.toA (.cons .here rfl (.cons .here rfl (.cons .here rfl .nil))) (.cons .here rfl (.cons .here rfl (.cons .here rfl .nil))) rfl ?_)
        refine RunA.toB (by kernel_rfl) ?_
        refine RunB.one (i := 11) (by kernel_rfl) ?_
        refine RunI.sto rfl (Sto.store rfl rfl .here ty_23 rfl rfl) rfl rfl (RunK.toB ?_)
        refine RunB.one (i := 12) (by kernel_rfl) ?_
        refine RunI.val rfl (Val.fieldAddr rfl fld_26_1) rfl rfl rfl (RunK.toB ?_)
        refine RunB.one (i := 13) (by kernel_rfl) ?_
        refine RunI.sto rfl (Sto.store rfl rfl .here ty_23 rfl rfl) rfl rfl (RunK.toB ?_)
        refine RunB.done (by kernel_rfl) ?_
        refine RunE.block_normal ?_
        exact RunE.meet { p with focal := narrowS p.focal (by_ / 5), base := narrowS p.base (by_ / 7) } (more_size hp (narrowS_in f2 _) (narrowS_in b2 _)) rfl (Sub.cons (t := 1) rfl (Sub.cons (t := 4) rfl (Sub.cons (t := 8) rfl (Sub.cons (t := 9) rfl (Sub.nil _))))) (.cons .here (by simp only [Pr.cells, Nat.zero_add]; rfl) (.cons (.there .here) rfl (.cons .here rfl .nil)))
      · intro c1
        have c1' := c1; clear c1
        try simp only [decide_eq_true_eq, decide_eq_false_iff_not, Bool.not_eq_true', Bool.not_eq_false', Bool.and_eq_true, Bool.or_eq_true, Bool.and_eq_false_iff, Bool.or_eq_false_iff, Int.not_le, Int.not_lt] at c1'
        refine RunC.seq ?_
        refine RunC.region ?_
        refine RunL.val (Val.pure rfl) rfl rfl rfl ?_
        refine RunL.val (Val.pure rfl) rfl rfl rfl ?_
        refine RunL.nil ?_
        refine RunE.next ?_
        refine RunC.cond rfl ?_ ?_
        · intro c2
          have c2' := c2; clear c2
          try simp only [decide_eq_true_eq, decide_eq_false_iff_not, Bool.not_eq_true', Bool.not_eq_false', Bool.and_eq_true, Bool.or_eq_true, Bool.and_eq_false_iff, Bool.or_eq_false_iff, Int.not_le, Int.not_lt] at c2'
          apply RunC.drawJ (J := J0 _ _ _ _ _ _) 22 fol_ (.cons .here rfl (.cons .here rfl .nil))
          · refine RunA.val (i := 0) rfl (by kernel_rfl) (by kernel_rfl) (Val.pure rfl) rfl rfl rfl (fun _ _ _ h => h) (.cons .here rfl (.cons .here rfl .nil)) rfl ?_
            refine RunA.val (i := 1) rfl (by kernel_rfl) (by kernel_rfl) (Val.pure rfl) rfl rfl rfl (fun _ _ _ h => h) (.cons .here rfl (.cons .here rfl .nil)) rfl ?_
            refine RunA.val (i := 2) rfl (by kernel_rfl) (by kernel_rfl) (Val.pure rfl) rfl rfl rfl (fun _ _ _ h => h) (.cons .here rfl (.cons .here rfl .nil)) rfl ?_
            refine RunA.val (i := 3) rfl (by kernel_rfl) (by kernel_rfl) (Val.pure rfl) rfl rfl rfl (fun _ _ _ h => h) (.cons .here rfl (.cons .here rfl .nil)) rfl ?_
            refine RunA.val (i := 4) rfl (by kernel_rfl) (by kernel_rfl) (Val.fieldAddr rfl fld_47_0) rfl rfl rfl (fun _ _ _ h => h) (.cons .here rfl (.cons .here rfl .nil)) rfl ?_
            refine RunA.val (i := 5) rfl (by kernel_rfl) (by kernel_rfl) (Val.fieldAddr rfl fld_45_0) rfl rfl rfl (fun _ _ _ h => h) (.cons .here rfl (.cons .here rfl .nil)) rfl ?_
            refine RunA.val (i := 7) rfl (by kernel_rfl) (by kernel_rfl) (Val.pure rfl) rfl rfl rfl (fun _ _ _ h => h) (.cons .here rfl (.cons .here rfl .nil)) rfl ?_
            refine RunA.val (i := 8) rfl (by kernel_rfl) (by kernel_rfl) (Val.quoN (a := by_) (b := 5) rfl rfl (by omega) (i64_inN (by omega))) rfl rfl rfl (fun _ _ _ h => h) (.cons .here rfl (.cons .here rfl .nil)) rfl ?_
            refine RunA.val (i := 10) rfl (by kernel_rfl) (by kernel_rfl) (Val.pure rfl) rfl rfl rfl (fun _ _ _ h => h) (.cons .here rfl (.cons .here rfl .nil)) rfl ?_
            refine RunA.val (i := 11) rfl (by kernel_rfl) (by kernel_rfl) (Val.pure rfl) rfl rfl rfl (fun _ _ _ h => h) (.cons .here rfl (.cons .here rfl .nil)) rfl ?_
            refine RunA.val (i := 12) rfl (by kernel_rfl) (by kernel_rfl) (Val.fieldAddr rfl fld_47_1) rfl rfl rfl (fun _ _ _ h => h) (.cons .here rfl (.cons .here rfl .nil)) rfl ?_
            refine RunA.val (i := 13) rfl (by kernel_rfl) (by kernel_rfl) (Val.fieldAddr rfl fld_45_0) rfl rfl rfl (fun _ _ _ h => h) (.cons .here rfl (.cons .here rfl .nil)) rfl ?_
            refine RunA.val (i := 15) rfl (by kernel_rfl) (by kernel_rfl) (Val.pure rfl) rfl rfl rfl (fun _ _ _ h => h) (.cons .here rfl (.cons .here rfl .nil)) rfl ?_
            refine RunA.val (i := 16) rfl (by kernel_rfl) (by kernel_rfl) (Val.quoN (a := by_) (b := 7) rfl rfl (by omega) (i64_inN (by omega))) rfl rfl rfl (fun _ _ _ h => h) (.cons .here rfl (.cons .here rfl .nil)) rfl ?_
            refine RunA.all (rs := [6, 14]) (by kernel_rfl) (by simp) (by kernel_rfl) (fun m hm => ?_)
            simp only [List.mem_cons, List.not_mem_nil, or_false] at hm
            rcases hm with rfl | rfl
            · refine RunI.val rfl (Val.load_gen rfl (fun w hm => (Sl.rowsR (xs := p.things.map Th.cells) (t := rz68) (hm.at (.tail _ (.tail _ (.head _)))) th_rows).subX (by decide) (Mem.refl w) (by simp) ty_23 hj ht (j := 0) (by decide) rfl (by simp))) rfl rfl rfl (RunK.toA (.cons .here rfl (.cons .here rfl .nil)) (.cons .here rfl (.cons .here rfl .nil)) rfl ?_)
              refine RunA.all (rs := [9, 14]) (by kernel_rfl) (by simp) (by kernel_rfl) (fun m hm => ?_)
              simp only [List.mem_cons, List.not_mem_nil, or_false] at hm
              rcases hm with rfl | rfl
              · refine RunI.callP rfl (isCall_func rfl ent_36) rfl rfl rfl (fun w hm => lnarrow_calls t.lx (by unfold Sp.Ok at g1; omega) (by_ / 5) (by omega) w) (RunK.toA (.cons .here rfl (.cons .here rfl .nil)) (.cons .here rfl (.cons .here rfl .nil)) rfl ?_)
                refine RunA.one (i := 14) (by kernel_rfl) (by kernel_rfl) ?_
                refine RunI.val rfl (Val.load_gen rfl (fun w hm => (Sl.rowsR (xs := p.things.map Th.cells) (t := rz68) (hm.at (.tail _ (.tail _ (.head _)))) th_rows).subX (by decide) (Mem.refl w) (by simp) ty_23 hj ht (j := 4) (by decide) rfl (by simp))) rfl rfl rfl (RunK.toA (.cons .here rfl (.cons .here rfl .nil)) (.cons .here rfl (.cons .here rfl .nil)) rfl ?_)
                refine RunA.one (i := 17) (by kernel_rfl) (by kernel_rfl) ?_
                refine RunI.callP rfl (isCall_func rfl ent_36) rfl rfl rfl (fun w hm => lnarrow_calls t.rx (by unfold Sp.Ok at g3; omega) (by_ / 7) (by omega) w) (RunK.toA (.cons .here rfl (.cons .here rfl .nil)) (.cons .here rfl (.cons .here rfl .nil)) rfl ?_)
                refine RunA.val (i := 18) rfl (by kernel_rfl) (by kernel_rfl) (Val.pure rfl) rfl rfl rfl (fun _ _ _ h => h) (.cons .here rfl (.cons .here rfl .nil)) rfl ?_
                refine RunA.val (i := 19) rfl (by kernel_rfl) (by kernel_rfl) (Val.fieldAddr rfl fld_47_0) rfl rfl rfl (fun _ _ _ h => h) (.cons .here rfl (.cons .here rfl .nil)) rfl ?_
                refine RunA.val (i := 20) rfl (by kernel_rfl) (by kernel_rfl) (Val.fieldAddr rfl fld_45_0) rfl rfl rfl (fun _ _ _ h => h) (.cons .here rfl (.cons .here rfl .nil)) rfl ?_
                refine RunA.one (i := 21) (by kernel_rfl) (by kernel_rfl) ?_
                refine RunI.sto rfl (Sto.store (cs := ((p.things).map Th.cells).flatten ++ rz68) (cs' := (((p.things).set j { t with lx := narrowS t.lx (by_ / 5) }).map Th.cells).flatten ++ rz68) rfl rfl (.there (.there .here)) ty_23 rfl (paste_rowE th_len hj ht (j := 0) (by simp) rfl)) rfl rfl (RunK.toA (.cons .here rfl (.cons .here rfl .nil)) (.cons .here rfl (.cons .here rfl .nil)) rfl ?_)
                refine RunA.toB (by kernel_rfl) ?_
                refine RunB.one (i := 22) (by kernel_rfl) ?_
                refine RunI.val rfl (Val.pure rfl) rfl rfl rfl (RunK.toB ?_)
                refine RunB.one (i := 23) (by kernel_rfl) ?_
                refine RunI.val rfl (Val.fieldAddr rfl fld_47_1) rfl rfl rfl (RunK.toB ?_)
                refine RunB.one (i := 24) (by kernel_rfl) ?_
                refine RunI.val rfl (Val.fieldAddr rfl fld_45_0) rfl rfl rfl (RunK.toB ?_)
                refine RunB.one (i := 25) (by kernel_rfl) ?_
                refine RunI.sto rfl (Sto.store (cs := ((p.things.set j { t with lx := narrowS t.lx (by_ / 5) }).map Th.cells).flatten ++ rz68) (cs' := (((p.things.set j { t with lx := narrowS t.lx (by_ / 5) }).set j { t with lx := narrowS t.lx (by_ / 5), rx := narrowS t.rx (by_ / 7) }).map Th.cells).flatten ++ rz68) rfl rfl (.there (.there .here)) ty_23 rfl (paste_rowE th_len (by simpa using hj) (a := { t with lx := narrowS t.lx (by_ / 5) }) (by simp) (j := 4) (by simp) rfl)) rfl rfl (RunK.toB ?_)
                refine RunB.done (by kernel_rfl) ?_
                exact RunE.join0  (Sub.refl _) (Pick.refl _)
              · refine RunI.val rfl (Val.load_gen rfl (fun w hm => (Sl.rowsR (xs := p.things.map Th.cells) (t := rz68) (hm.at (.tail _ (.tail _ (.head _)))) th_rows).subX (by decide) (Mem.refl w) (by simp) ty_23 hj ht (j := 4) (by decide) rfl (by simp))) rfl rfl rfl (RunK.toA (.cons .here rfl (.cons .here rfl .nil)) (.cons .here rfl (.cons .here rfl .nil)) rfl ?_)
                refine RunA.one (i := 9) (by kernel_rfl) (by kernel_rfl) ?_
                refine RunI.callP rfl (isCall_func rfl ent_36) rfl rfl rfl (fun w hm => lnarrow_calls t.lx (by unfold Sp.Ok at g1; omega) (by_ / 5) (by omega) w) (RunK.toA (.cons .here rfl (.cons .here rfl .nil)) (.cons .here rfl (.cons .here rfl .nil)) rfl ?_)
                refine RunA.one (i := 17) (by kernel_rfl) (by kernel_rfl) ?_
                refine RunI.callP rfl (isCall_func rfl ent_36) rfl rfl rfl (fun w hm => lnarrow_calls t.rx (by unfold Sp.Ok at g3; omega) (by_ / 7) (by omega) w) (RunK.toA (.cons .here rfl (.cons .here rfl .nil)) (.cons .here rfl (.cons .here rfl .nil)) rfl ?_)
                refine RunA.val (i := 18) rfl (by kernel_rfl) (by kernel_rfl) (Val.pure rfl) rfl rfl rfl (fun _ _ _ h => h) (.cons .here rfl (.cons .here rfl .nil)) rfl ?_
                refine RunA.val (i := 19) rfl (by kernel_rfl) (by kernel_rfl) (Val.fieldAddr rfl fld_47_0) rfl rfl rfl (fun _ _ _ h => h) (.cons .here rfl (.cons .here rfl .nil)) rfl ?_
                refine RunA.val (i := 20) rfl (by kernel_rfl) (by kernel_rfl) (Val.fieldAddr rfl fld_45_0) rfl rfl rfl (fun _ _ _ h => h) (.cons .here rfl (.cons .here rfl .nil)) rfl ?_
                refine RunA.one (i := 21) (by kernel_rfl) (by kernel_rfl) ?_
                refine RunI.sto rfl (Sto.store (cs := ((p.things).map Th.cells).flatten ++ rz68) (cs' := (((p.things).set j { t with lx := narrowS t.lx (by_ / 5) }).map Th.cells).flatten ++ rz68) rfl rfl (.there (.there .here)) ty_23 rfl (paste_rowE th_len hj ht (j := 0) (by simp) rfl)) rfl rfl (RunK.toA (.cons .here rfl (.cons .here rfl .nil)) (.cons .here rfl (.cons .here rfl .nil)) rfl ?_)
                refine RunA.toB (by kernel_rfl) ?_
                refine RunB.one (i := 22) (by kernel_rfl) ?_
                refine RunI.val rfl (Val.pure rfl) rfl rfl rfl (RunK.toB ?_)
                refine RunB.one (i := 23) (by kernel_rfl) ?_
                refine RunI.val rfl (Val.fieldAddr rfl fld_47_1) rfl rfl rfl (RunK.toB ?_)
                refine RunB.one (i := 24) (by kernel_rfl) ?_
                refine RunI.val rfl (Val.fieldAddr rfl fld_45_0) rfl rfl rfl (RunK.toB ?_)
                refine RunB.one (i := 25) (by kernel_rfl) ?_
                refine RunI.sto rfl (Sto.store (cs := ((p.things.set j { t with lx := narrowS t.lx (by_ / 5) }).map Th.cells).flatten ++ rz68) (cs' := (((p.things.set j { t with lx := narrowS t.lx (by_ / 5) }).set j { t with lx := narrowS t.lx (by_ / 5), rx := narrowS t.rx (by_ / 7) }).map Th.cells).flatten ++ rz68) rfl rfl (.there (.there .here)) ty_23 rfl (paste_rowE th_len (by simpa using hj) (a := { t with lx := narrowS t.lx (by_ / 5) }) (by simp) (j := 4) (by simp) rfl)) rfl rfl (RunK.toB ?_)
                refine RunB.done (by kernel_rfl) ?_
                exact RunE.join0  (Sub.cons (t := 140) rfl (Sub.cons (t := 139) rfl (Sub.cons (t := 138) rfl (Sub.cons (t := 137) rfl (Sub.cons (t := 136) rfl (Sub.cons (t := 135) rfl (Sub.cons (t := 134) rfl (Sub.cons (t := 131) rfl (Sub.cons (t := 126) rfl (Sub.cons (t := 123) rfl (Sub.cons (t := 133) rfl (Sub.cons (t := 132) rfl (Sub.cons (t := 130) rfl (Sub.cons (t := 129) rfl (Sub.cons (t := 128) rfl (Sub.cons (t := 127) rfl (Sub.cons (t := 125) rfl (Sub.cons (t := 124) rfl (Sub.cons (t := 122) rfl (Sub.cons (t := 121) rfl (Sub.cons (t := 120) rfl (Sub.cons (t := 119) rfl (Sub.cons (t := 118) rfl (Sub.cons (t := 117) rfl (Sub.skip rfl (Sub.skip rfl (Sub.skip rfl (Sub.skip rfl (Sub.skip rfl (Sub.skip rfl (Sub.skip rfl (Sub.skip rfl (Sub.skip rfl (Sub.skip rfl (Sub.skip rfl (Sub.skip rfl (Sub.skip rfl (Sub.skip rfl (Sub.skip rfl (Sub.skip rfl (Sub.skip rfl (Sub.skip rfl (Sub.skip rfl (Sub.skip rfl (Sub.skip rfl (Sub.skip rfl (Sub.skip rfl (Sub.skip rfl (Sub.refl _))))))))))))))))))))))))))))))))))))))))))))))))) (.cons .here rfl (.cons .here rfl (.cons .here rfl .nil)))
            · refine RunI.val rfl (Val.load_gen rfl (fun w hm => (Sl.rowsR (xs := p.things.map Th.cells) (t := rz68) (hm.at (.tail _ (.tail _ (.head _)))) th_rows).subX (by decide) (Mem.refl w) (by simp) ty_23 hj ht (j := 4) (by decide) rfl (by simp))) rfl rfl rfl (RunK.toA (.cons .here rfl (.cons .here rfl .nil)) (.cons .here rfl (.cons .here rfl .nil)) rfl ?_)
              refine RunA.one (i := 6) (by kernel_rfl) (by kernel_rfl) ?_
              refine RunI.val rfl (Val.load_gen rfl (fun w hm => (Sl.rowsR (xs := p.things.map Th.cells) (t := rz68) (hm.at (.tail _ (.tail _ (.head _)))) th_rows).subX (by decide) (Mem.refl w) (by simp) ty_23 hj ht (j := 0) (by decide) rfl (by simp))) rfl rfl rfl (RunK.toA (.cons .here rfl (.cons .here rfl .nil)) (.cons .here rfl (.cons .here rfl .nil)) rfl ?_)
              refine RunA.one (i := 9) (by kernel_rfl) (by kernel_rfl) ?_
              refine RunI.callP rfl (isCall_func rfl ent_36) rfl rfl rfl (fun w hm => lnarrow_calls t.lx (by unfold Sp.Ok at g1; omega) (by_ / 5) (by omega) w) (RunK.toA (.cons .here rfl (.cons .here rfl .nil)) (.cons .here rfl (.cons .here rfl .nil)) rfl ?_)
              refine RunA.one (i := 17) (by kernel_rfl) (by kernel_rfl) ?_
              refine RunI.callP rfl (isCall_func rfl ent_36) rfl rfl rfl (fun w hm => lnarrow_calls t.rx (by unfold Sp.Ok at g3; omega) (by_ / 7) (by omega) w) (RunK.toA (.cons .here rfl (.cons .here rfl .nil)) (.cons .here rfl (.cons .here rfl .nil)) rfl ?_)
              refine RunA.val (i := 18) rfl (by kernel_rfl) (by kernel_rfl) (Val.pure rfl) rfl rfl rfl (fun _ _ _ h => h) (.cons .here rfl (.cons .here rfl .nil)) rfl ?_
              refine RunA.val (i := 19) rfl (by kernel_rfl) (by kernel_rfl) (Val.fieldAddr rfl fld_47_0) rfl rfl rfl (fun _ _ _ h => h) (.cons .here rfl (.cons .here rfl .nil)) rfl ?_
              refine RunA.val (i := 20) rfl (by kernel_rfl) (by kernel_rfl) (Val.fieldAddr rfl fld_45_0) rfl rfl rfl (fun _ _ _ h => h) (.cons .here rfl (.cons .here rfl .nil)) rfl ?_
              refine RunA.one (i := 21) (by kernel_rfl) (by kernel_rfl) ?_
              refine RunI.sto rfl (Sto.store (cs := ((p.things).map Th.cells).flatten ++ rz68) (cs' := (((p.things).set j { t with lx := narrowS t.lx (by_ / 5) }).map Th.cells).flatten ++ rz68) rfl rfl (.there (.there .here)) ty_23 rfl (paste_rowE th_len hj ht (j := 0) (by simp) rfl)) rfl rfl (RunK.toA (.cons .here rfl (.cons .here rfl .nil)) (.cons .here rfl (.cons .here rfl .nil)) rfl ?_)
              refine RunA.toB (by kernel_rfl) ?_
              refine RunB.one (i := 22) (by kernel_rfl) ?_
              refine RunI.val rfl (Val.pure rfl) rfl rfl rfl (RunK.toB ?_)
              refine RunB.one (i := 23) (by kernel_rfl) ?_
              refine RunI.val rfl (Val.fieldAddr rfl fld_47_1) rfl rfl rfl (RunK.toB ?_)
              refine RunB.one (i := 24) (by kernel_rfl) ?_
              refine RunI.val rfl (Val.fieldAddr rfl fld_45_0) rfl rfl rfl (RunK.toB ?_)
              refine RunB.one (i := 25) (by kernel_rfl) ?_
              refine RunI.sto rfl (Sto.store (cs := ((p.things.set j { t with lx := narrowS t.lx (by_ / 5) }).map Th.cells).flatten ++ rz68) (cs' := (((p.things.set j { t with lx := narrowS t.lx (by_ / 5) }).set j { t with lx := narrowS t.lx (by_ / 5), rx := narrowS t.rx (by_ / 7) }).map Th.cells).flatten ++ rz68) rfl rfl (.there (.there .here)) ty_23 rfl (paste_rowE th_len (by simpa using hj) (a := { t with lx := narrowS t.lx (by_ / 5) }) (by simp) (j := 4) (by simp) rfl)) rfl rfl (RunK.toB ?_)
              refine RunB.done (by kernel_rfl) ?_
              exact RunE.join0  (Sub.cons (t := 140) rfl (Sub.cons (t := 139) rfl (Sub.cons (t := 138) rfl (Sub.cons (t := 137) rfl (Sub.cons (t := 136) rfl (Sub.cons (t := 135) rfl (Sub.cons (t := 134) rfl (Sub.cons (t := 131) rfl (Sub.cons (t := 126) rfl (Sub.cons (t := 123) rfl (Sub.cons (t := 133) rfl (Sub.cons (t := 132) rfl (Sub.cons (t := 130) rfl (Sub.cons (t := 129) rfl (Sub.cons (t := 128) rfl (Sub.cons (t := 127) rfl (Sub.cons (t := 125) rfl (Sub.cons (t := 124) rfl (Sub.cons (t := 122) rfl (Sub.cons (t := 121) rfl (Sub.cons (t := 120) rfl (Sub.cons (t := 119) rfl (Sub.cons (t := 118) rfl (Sub.cons (t := 117) rfl (Sub.skip rfl (Sub.skip rfl (Sub.skip rfl (Sub.skip rfl (Sub.skip rfl (Sub.skip rfl (Sub.skip rfl (Sub.skip rfl (Sub.skip rfl (Sub.skip rfl (Sub.skip rfl (Sub.skip rfl (Sub.skip rfl (Sub.skip rfl (Sub.skip rfl (Sub.skip rfl (Sub.skip rfl (Sub.skip rfl (Sub.skip rfl (Sub.skip rfl (Sub.skip rfl (Sub.skip rfl (Sub.skip rfl (Sub.skip rfl (Sub.refl _))))))))))))))))))))))))))))))))))))))))))))))))) (.cons .here rfl (.cons .here rfl (.cons .here rfl .nil)))
          refine J0.out ?_
          refine RunE.block_normal ?_
          exact RunE.meet (setT p j { t with lx := narrowS t.lx (by_ / 5), rx := narrowS t.rx (by_ / 7) }) (more_x hp hj hta _ _) rfl (Sub.cons (t := 1) rfl (Sub.cons (t := 4) rfl (Sub.cons (t := 8) rfl (Sub.cons (t := 9) rfl (Sub.nil _))))) (.cons .here (by simp only [Pr.cells, Nat.zero_add, setT, List.length_set]; rfl) (.cons (.there .here) (by simp only [setT, List.set_set]) (.cons .here rfl .nil)))
        · intro c2
          have c2' := c2; clear c2
          try simp only [decide_eq_true_eq, decide_eq_false_iff_not, Bool.not_eq_true', Bool.not_eq_false', Bool.and_eq_true, Bool.or_eq_true, Bool.and_eq_false_iff, Bool.or_eq_false_iff, Int.not_le, Int.not_lt] at c2'
          refine RunC.seq ?_
          refine RunC.region ?_
          refine RunL.val (Val.pure rfl) rfl rfl rfl ?_
          refine RunL.val (Val.pure rfl) rfl rfl rfl ?_
          refine RunL.nil ?_
          refine RunE.next ?_
          refine RunC.cond rfl ?_ ?_
          · intro c3
            have c3' := c3; clear c3
            try simp only [decide_eq_true_eq, decide_eq_false_iff_not, Bool.not_eq_true', Bool.not_eq_false', Bool.and_eq_true, Bool.or_eq_true, Bool.and_eq_false_iff, Bool.or_eq_false_iff, Int.not_le, Int.not_lt] at c3'
            apply RunC.drawJ (J := J0 _ _ _ _ _ _) 22 fol_ (.cons .here rfl (.cons .here rfl .nil))
            · refine RunA.val (i := 0) rfl (by kernel_rfl) (by kernel_rfl) (Val.pure rfl) rfl rfl rfl (fun _ _ _ h => h) (.cons .here rfl (.cons .here rfl .nil)) rfl ?_
              refine RunA.val (i := 1) rfl (by kernel_rfl) (by kernel_rfl) (Val.pure rfl) rfl rfl rfl (fun _ _ _ h => h) (.cons .here rfl (.cons .here rfl .nil)) rfl ?_
              refine RunA.val (i := 2) rfl (by kernel_rfl) (by kernel_rfl) (Val.pure rfl) rfl rfl rfl (fun _ _ _ h => h) (.cons .here rfl (.cons .here rfl .nil)) rfl ?_
              refine RunA.val (i := 3) rfl (by kernel_rfl) (by kernel_rfl) (Val.pure rfl) rfl rfl rfl (fun _ _ _ h => h) (.cons .here rfl (.cons .here rfl .nil)) rfl ?_
              refine RunA.val (i := 4) rfl (by kernel_rfl) (by kernel_rfl) (Val.fieldAddr rfl fld_47_0) rfl rfl rfl (fun _ _ _ h => h) (.cons .here rfl (.cons .here rfl .nil)) rfl ?_
              refine RunA.val (i := 5) rfl (by kernel_rfl) (by kernel_rfl) (Val.fieldAddr rfl fld_45_1) rfl rfl rfl (fun _ _ _ h => h) (.cons .here rfl (.cons .here rfl .nil)) rfl ?_
              refine RunA.val (i := 7) rfl (by kernel_rfl) (by kernel_rfl) (Val.pure rfl) rfl rfl rfl (fun _ _ _ h => h) (.cons .here rfl (.cons .here rfl .nil)) rfl ?_
              refine RunA.val (i := 8) rfl (by kernel_rfl) (by kernel_rfl) (Val.quoN (a := by_) (b := 5) rfl rfl (by omega) (i64_inN (by omega))) rfl rfl rfl (fun _ _ _ h => h) (.cons .here rfl (.cons .here rfl .nil)) rfl ?_
              refine RunA.val (i := 10) rfl (by kernel_rfl) (by kernel_rfl) (Val.pure rfl) rfl rfl rfl (fun _ _ _ h => h) (.cons .here rfl (.cons .here rfl .nil)) rfl ?_
              refine RunA.val (i := 11) rfl (by kernel_rfl) (by kernel_rfl) (Val.pure rfl) rfl rfl rfl (fun _ _ _ h => h) (.cons .here rfl (.cons .here rfl .nil)) rfl ?_
              refine RunA.val (i := 12) rfl (by kernel_rfl) (by kernel_rfl) (Val.fieldAddr rfl fld_47_1) rfl rfl rfl (fun _ _ _ h => h) (.cons .here rfl (.cons .here rfl .nil)) rfl ?_
              refine RunA.val (i := 13) rfl (by kernel_rfl) (by kernel_rfl) (Val.fieldAddr rfl fld_45_1) rfl rfl rfl (fun _ _ _ h => h) (.cons .here rfl (.cons .here rfl .nil)) rfl ?_
              refine RunA.val (i := 15) rfl (by kernel_rfl) (by kernel_rfl) (Val.pure rfl) rfl rfl rfl (fun _ _ _ h => h) (.cons .here rfl (.cons .here rfl .nil)) rfl ?_
              refine RunA.val (i := 16) rfl (by kernel_rfl) (by kernel_rfl) (Val.quoN (a := by_) (b := 7) rfl rfl (by omega) (i64_inN (by omega))) rfl rfl rfl (fun _ _ _ h => h) (.cons .here rfl (.cons .here rfl .nil)) rfl ?_
              refine RunA.all (rs := [6, 14]) (by kernel_rfl) (by simp) (by kernel_rfl) (fun m hm => ?_)
              simp only [List.mem_cons, List.not_mem_nil, or_false] at hm
              rcases hm with rfl | rfl
              · refine RunI.val rfl (Val.load_gen rfl (fun w hm => (Sl.rowsR (xs := p.things.map Th.cells) (t := rz68) (hm.at (.tail _ (.tail _ (.head _)))) th_rows).subX (by decide) (Mem.refl w) (by simp) ty_23 hj ht (j := 2) (by decide) rfl (by simp))) rfl rfl rfl (RunK.toA (.cons .here rfl (.cons .here rfl .nil)) (.cons .here rfl (.cons .here rfl .nil)) rfl ?_)
                refine RunA.all (rs := [9, 14]) (by kernel_rfl) (by simp) (by kernel_rfl) (fun m hm => ?_)
                simp only [List.mem_cons, List.not_mem_nil, or_false] at hm
                rcases hm with rfl | rfl
                · refine RunI.callP rfl (isCall_func rfl ent_36) rfl rfl rfl (fun w hm => lnarrow_calls t.ly (by unfold Sp.Ok at g2; omega) (by_ / 5) (by omega) w) (RunK.toA (.cons .here rfl (.cons .here rfl .nil)) (.cons .here rfl (.cons .here rfl .nil)) rfl ?_)
                  refine RunA.one (i := 14) (by kernel_rfl) (by kernel_rfl) ?_
                  refine RunI.val rfl (Val.load_gen rfl (fun w hm => (Sl.rowsR (xs := p.things.map Th.cells) (t := rz68) (hm.at (.tail _ (.tail _ (.head _)))) th_rows).subX (by decide) (Mem.refl w) (by simp) ty_23 hj ht (j := 6) (by decide) rfl (by simp))) rfl rfl rfl (RunK.toA (.cons .here rfl (.cons .here rfl .nil)) (.cons .here rfl (.cons .here rfl .nil)) rfl ?_)
                  refine RunA.one (i := 17) (by kernel_rfl) (by kernel_rfl) ?_
                  refine RunI.callP rfl (isCall_func rfl ent_36) rfl rfl rfl (fun w hm => lnarrow_calls t.ry (by unfold Sp.Ok at g4; omega) (by_ / 7) (by omega) w) (RunK.toA (.cons .here rfl (.cons .here rfl .nil)) (.cons .here rfl (.cons .here rfl .nil)) rfl ?_)
                  refine RunA.val (i := 18) rfl (by kernel_rfl) (by kernel_rfl) (Val.pure rfl) rfl rfl rfl (fun _ _ _ h => h) (.cons .here rfl (.cons .here rfl .nil)) rfl ?_
                  refine RunA.val (i := 19) rfl (by kernel_rfl) (by kernel_rfl) (Val.fieldAddr rfl fld_47_0) rfl rfl rfl (fun _ _ _ h => h) (.cons .here rfl (.cons .here rfl .nil)) rfl ?_
                  refine RunA.val (i := 20) rfl (by kernel_rfl) (by kernel_rfl) (Val.fieldAddr rfl fld_45_1) rfl rfl rfl (fun _ _ _ h => h) (.cons .here rfl (.cons .here rfl .nil)) rfl ?_
                  refine RunA.one (i := 21) (by kernel_rfl) (by kernel_rfl) ?_
                  refine RunI.sto rfl (Sto.store (cs := ((p.things).map Th.cells).flatten ++ rz68) (cs' := (((p.things).set j { t with ly := narrowS t.ly (by_ / 5) }).map Th.cells).flatten ++ rz68) rfl rfl (.there (.there .here)) ty_23 rfl (paste_rowE th_len hj ht (j := 2) (by simp) rfl)) rfl rfl (RunK.toA (.cons .here rfl (.cons .here rfl .nil)) (.cons .here rfl (.cons .here rfl .nil)) rfl ?_)
                  refine RunA.toB (by kernel_rfl) ?_
                  refine RunB.one (i := 22) (by kernel_rfl) ?_
                  refine RunI.val rfl (Val.pure rfl) rfl rfl rfl (RunK.toB ?_)
                  refine RunB.one (i := 23) (by kernel_rfl) ?_
                  refine RunI.val rfl (Val.fieldAddr rfl fld_47_1) rfl rfl rfl (RunK.toB ?_)
                  refine RunB.one (i := 24) (by kernel_rfl) ?_
                  refine RunI.val rfl (Val.fieldAddr rfl fld_45_1) rfl rfl rfl (RunK.toB ?_)
                  refine RunB.one (i := 25) (by kernel_rfl) ?_
                  refine RunI.sto rfl (Sto.store (cs := ((p.things.set j { t with ly := narrowS t.ly (by_ / 5) }).map Th.cells).flatten ++ rz68) (cs' := (((p.things.set j { t with ly := narrowS t.ly (by_ / 5) }).set j { t with ly := narrowS t.ly (by_ / 5), ry := narrowS t.ry (by_ / 7) }).map Th.cells).flatten ++ rz68) rfl rfl (.there (.there .here)) ty_23 rfl (paste_rowE th_len (by simpa using hj) (a := { t with ly := narrowS t.ly (by_ / 5) }) (by simp) (j := 6) (by simp) rfl)) rfl rfl (RunK.toB ?_)
                  refine RunB.done (by kernel_rfl) ?_
                  exact RunE.join0  (Sub.refl _) (Pick.refl _)
                · refine RunI.val rfl (Val.load_gen rfl (fun w hm => (Sl.rowsR (xs := p.things.map Th.cells) (t := rz68) (hm.at (.tail _ (.tail _ (.head _)))) th_rows).subX (by decide) (Mem.refl w) (by simp) ty_23 hj ht (j := 6) (by decide) rfl (by simp))) rfl rfl rfl (RunK.toA (.cons .here rfl (.cons .here rfl .nil)) (.cons .here rfl (.cons .here rfl .nil)) rfl ?_)
                  refine RunA.one (i := 9) (by kernel_rfl) (by kernel_rfl) ?_
                  refine RunI.callP rfl (isCall_func rfl ent_36) rfl rfl rfl (fun w hm => lnarrow_calls t.ly (by unfold Sp.Ok at g2; omega) (by_ / 5) (by omega) w) (RunK.toA (.cons .here rfl (.cons .here rfl .nil)) (.cons .here rfl (.cons .here rfl .nil)) rfl ?_)
                  refine RunA.one (i := 17) (by kernel_rfl) (by kernel_rfl) ?_
                  refine RunI.callP rfl (isCall_func rfl ent_36) rfl rfl rfl (fun w hm => lnarrow_calls t.ry (by unfold Sp.Ok at g4; omega) (by_ / 7) (by omega) w) (RunK.toA (.cons .here rfl (.cons .here rfl .nil)) (.cons .here rfl (.cons .here rfl .nil)) rfl ?_)
                  refine RunA.val (i := 18) rfl (by kernel_rfl) (by kernel_rfl) (Val.pure rfl) rfl rfl rfl (fun _ _ _ h => h) (.cons .here rfl (.cons .here rfl .nil)) rfl ?_
                  refine RunA.val (i := 19) rfl (by kernel_rfl) (by kernel_rfl) (Val.fieldAddr rfl fld_47_0) rfl rfl rfl (fun _ _ _ h => h) (.cons .here rfl (.cons .here rfl .nil)) rfl ?_
                  refine RunA.val (i := 20) rfl (by kernel_rfl) (by kernel_rfl) (Val.fieldAddr rfl fld_45_1) rfl rfl rfl (fun _ _ _ h => h) (.cons .here rfl (.cons .here rfl .nil)) rfl ?_
                  refine RunA.one (i := 21) (by kernel_rfl) (by kernel_rfl) ?_
                  refine RunI.sto rfl (Sto.store (cs := ((p.things).map Th.cells).flatten ++ rz68) (cs' := (((p.things).set j { t with ly := narrowS t.ly (by_ / 5) }).map Th.cells).flatten ++ rz68) rfl rfl (.there (.there .here)) ty_23 rfl (paste_rowE th_len hj ht (j := 2) (by simp) rfl)) rfl rfl (RunK.toA (.cons .here rfl (.cons .here rfl .nil)) (.cons .here rfl (.cons .here rfl .nil)) rfl ?_)
                  refine RunA.toB (by kernel_rfl) ?_
                  refine RunB.one (i := 22) (by kernel_rfl) ?_
                  refine RunI.val rfl (Val.pure rfl) rfl rfl rfl (RunK.toB ?_)
                  refine RunB.one (i := 23) (by kernel_rfl) ?_
                  refine RunI.val rfl (Val.fieldAddr rfl fld_47_1) rfl rfl rfl (RunK.toB ?_)
                  refine RunB.one (i := 24) (by kernel_rfl) ?_
                  refine RunI.val rfl (Val.fieldAddr rfl fld_45_1) rfl rfl rfl (RunK.toB ?_)
                  refine RunB.one (i := 25) (by kernel_rfl) ?_
                  refine RunI.sto rfl (Sto.store (cs := ((p.things.set j { t with ly := narrowS t.ly (by_ / 5) }).map Th.cells).flatten ++ rz68) (cs' := (((p.things.set j { t with ly := narrowS t.ly (by_ / 5) }).set j { t with ly := narrowS t.ly (by_ / 5), ry := narrowS t.ry (by_ / 7) }).map Th.cells).flatten ++ rz68) rfl rfl (.there (.there .here)) ty_23 rfl (paste_rowE th_len (by simpa using hj) (a := { t with ly := narrowS t.ly (by_ / 5) }) (by simp) (j := 6) (by simp) rfl)) rfl rfl (RunK.toB ?_)
                  refine RunB.done (by kernel_rfl) ?_
                  exact RunE.join0  (Sub.cons (t := 166) rfl (Sub.cons (t := 165) rfl (Sub.cons (t := 164) rfl (Sub.cons (t := 163) rfl (Sub.cons (t := 162) rfl (Sub.cons (t := 161) rfl (Sub.cons (t := 160) rfl (Sub.cons (t := 157) rfl (Sub.cons (t := 152) rfl (Sub.cons (t := 149) rfl (Sub.cons (t := 159) rfl (Sub.cons (t := 158) rfl (Sub.cons (t := 156) rfl (Sub.cons (t := 155) rfl (Sub.cons (t := 154) rfl (Sub.cons (t := 153) rfl (Sub.cons (t := 151) rfl (Sub.cons (t := 150) rfl (Sub.cons (t := 148) rfl (Sub.cons (t := 147) rfl (Sub.cons (t := 146) rfl (Sub.cons (t := 145) rfl (Sub.cons (t := 144) rfl (Sub.cons (t := 143) rfl (Sub.skip rfl (Sub.skip rfl (Sub.skip rfl (Sub.skip rfl (Sub.skip rfl (Sub.skip rfl (Sub.skip rfl (Sub.skip rfl (Sub.skip rfl (Sub.skip rfl (Sub.skip rfl (Sub.skip rfl (Sub.skip rfl (Sub.skip rfl (Sub.skip rfl (Sub.skip rfl (Sub.skip rfl (Sub.skip rfl (Sub.skip rfl (Sub.skip rfl (Sub.skip rfl (Sub.skip rfl (Sub.skip rfl (Sub.skip rfl (Sub.refl _))))))))))))))))))))))))))))))))))))))))))))))))) (.cons .here rfl (.cons .here rfl (.cons .here rfl .nil)))
              · refine RunI.val rfl (Val.load_gen rfl (fun w hm => (Sl.rowsR (xs := p.things.map Th.cells) (t := rz68) (hm.at (.tail _ (.tail _ (.head _)))) th_rows).subX (by decide) (Mem.refl w) (by simp) ty_23 hj ht (j := 6) (by decide) rfl (by simp))) rfl rfl rfl (RunK.toA (.cons .here rfl (.cons .here rfl .nil)) (.cons .here rfl (.cons .here rfl .nil)) rfl ?_)
                refine RunA.one (i := 6) (by kernel_rfl) (by kernel_rfl) ?_
                refine RunI.val rfl (Val.load_gen rfl (fun w hm => (Sl.rowsR (xs := p.things.map Th.cells) (t := rz68) (hm.at (.tail _ (.tail _ (.head _)))) th_rows).subX (by decide) (Mem.refl w) (by simp) ty_23 hj ht (j := 2) (by decide) rfl (by simp))) rfl rfl rfl (RunK.toA (.cons .here rfl (.cons .here rfl .nil)) (.cons .here rfl (.cons .here rfl .nil)) rfl ?_)
                refine RunA.one (i := 9) (by kernel_rfl) (by kernel_rfl) ?_
                refine RunI.callP rfl (isCall_func rfl ent_36) rfl rfl rfl (fun w hm => lnarrow_calls t.ly (by unfold Sp.Ok at g2; omega) (by_ / 5) (by omega) w) (RunK.toA (.cons .here rfl (.cons .here rfl .nil)) (.cons .here rfl (.cons .here rfl .nil)) rfl ?_)
                refine RunA.one (i := 17) (by kernel_rfl) (by kernel_rfl) ?_
                refine RunI.callP rfl (isCall_func rfl ent_36) rfl rfl rfl (fun w hm => lnarrow_calls t.ry (by unfold Sp.Ok at g4; omega) (by_ / 7) (by omega) w) (RunK.toA (.cons .here rfl (.cons .here rfl .nil)) (.cons .here rfl (.cons .here rfl .nil)) rfl ?_)
                refine RunA.val (i := 18) rfl (by kernel_rfl) (by kernel_rfl) (Val.pure rfl) rfl rfl rfl (fun _ _ _ h => h) (.cons .here rfl (.cons .here rfl .nil)) rfl ?_
                refine RunA.val (i := 19) rfl (by kernel_rfl) (by kernel_rfl) (Val.fieldAddr rfl fld_47_0) rfl rfl rfl (fun _ _ _ h => h) (.cons .here rfl (.cons .here rfl .nil)) rfl ?_
                refine RunA.val (i := 20) rfl (by kernel_rfl) (by kernel_rfl) (Val.fieldAddr rfl fld_45_1) rfl rfl rfl (fun _ _ _ h => h) (.cons .here rfl (.cons .here rfl .nil)) rfl ?_
                refine RunA.one (i := 21) (by kernel_rfl) (by kernel_rfl) ?_
                refine RunI.sto rfl (Sto.store (cs := ((p.things).map Th.cells).flatten ++ rz68) (cs' := (((p.things).set j { t with ly := narrowS t.ly (by_ / 5) }).map Th.cells).flatten ++ rz68) rfl rfl (.there (.there .here)) ty_23 rfl (paste_rowE th_len hj ht (j := 2) (by simp) rfl)) rfl rfl (RunK.toA (.cons .here rfl (.cons .here rfl .nil)) (.cons .here rfl (.cons .here rfl .nil)) rfl ?_)
                refine RunA.toB (by kernel_rfl) ?_
                refine RunB.one (i := 22) (by kernel_rfl) ?_
                refine RunI.val rfl (Val.pure rfl) rfl rfl rfl (RunK.toB ?_)
                refine RunB.one (i := 23) (by kernel_rfl) ?_
                refine RunI.val rfl (Val.fieldAddr rfl fld_47_1) rfl rfl rfl (RunK.toB ?_)
                refine RunB.one (i := 24) (by kernel_rfl) ?_
                refine RunI.val rfl (Val.fieldAddr rfl fld_45_1) rfl rfl rfl (RunK.toB ?_)
                refine RunB.one (i := 25) (by kernel_rfl) ?_
                refine RunI.sto rfl (Sto.store (cs := ((p.things.set j { t with ly := narrowS t.ly (by_ / 5) }).map Th.cells).flatten ++ rz68) (cs' := (((p.things.set j { t with ly := narrowS t.ly (by_ / 5) }).set j { t with ly := narrowS t.ly (by_ / 5), ry := narrowS t.ry (by_ / 7) }).map Th.cells).flatten ++ rz68) rfl rfl (.there (.there .here)) ty_23 rfl (paste_rowE th_len (by simpa using hj) (a := { t with ly := narrowS t.ly (by_ / 5) }) (by simp) (j := 6) (by simp) rfl)) rfl rfl (RunK.toB ?_)
                refine RunB.done (by kernel_rfl) ?_
                exact RunE.join0  (Sub.cons (t := 166) rfl (Sub.cons (t := 165) rfl (Sub.cons (t := 164) rfl (Sub.cons (t := 163) rfl (Sub.cons (t := 162) rfl (Sub.cons (t := 161) rfl (Sub.cons (t := 160) rfl (Sub.cons (t := 157) rfl (Sub.cons (t := 152) rfl (Sub.cons (t := 149) rfl (Sub.cons (t := 159) rfl (Sub.cons (t := 158) rfl (Sub.cons (t := 156) rfl (Sub.cons (t := 155) rfl (Sub.cons (t := 154) rfl (Sub.cons (t := 153) rfl (Sub.cons (t := 151) rfl (Sub.cons (t := 150) rfl (Sub.cons (t := 148) rfl (Sub.cons (t := 147) rfl (Sub.cons (t := 146) rfl (Sub.cons (t := 145) rfl (Sub.cons (t := 144) rfl (Sub.cons (t := 143) rfl (Sub.skip rfl (Sub.skip rfl (Sub.skip rfl (Sub.skip rfl (Sub.skip rfl (Sub.skip rfl (Sub.skip rfl (Sub.skip rfl (Sub.skip rfl (Sub.skip rfl (Sub.skip rfl (Sub.skip rfl (Sub.skip rfl (Sub.skip rfl (Sub.skip rfl (Sub.skip rfl (Sub.skip rfl (Sub.skip rfl (Sub.skip rfl (Sub.skip rfl (Sub.skip rfl (Sub.skip rfl (Sub.skip rfl (Sub.skip rfl (Sub.refl _))))))))))))))))))))))))))))))))))))))))))))))))) (.cons .here rfl (.cons .here rfl (.cons .here rfl .nil)))
            refine J0.out ?_
            refine RunE.block_normal ?_
            exact RunE.meet (setT p j { t with ly := narrowS t.ly (by_ / 5), ry := narrowS t.ry (by_ / 7) }) (more_y hp hj hta _ _) rfl (Sub.cons (t := 1) rfl (Sub.cons (t := 4) rfl (Sub.cons (t := 8) rfl (Sub.cons (t := 9) rfl (Sub.nil _))))) (.cons .here (by simp only [Pr.cells, Nat.zero_add, setT, List.length_set]; rfl) (.cons (.there .here) (by simp only [setT, List.set_set]) (.cons .here rfl .nil)))
          · intro c3
            have c3' := c3; clear c3
            try simp only [decide_eq_true_eq, decide_eq_false_iff_not, Bool.not_eq_true', Bool.not_eq_false', Bool.and_eq_true, Bool.or_eq_true, Bool.and_eq_false_iff, Bool.or_eq_false_iff, Int.not_le, Int.not_lt] at c3'
            refine RunC.seq ?_
            refine RunC.region ?_
            refine RunL.val (Val.pure rfl) rfl rfl rfl ?_
            refine RunL.val (Val.pure rfl) rfl rfl rfl ?_
            refine RunL.nil ?_
            refine RunE.next ?_
            refine RunC.cond rfl ?_ ?_
            · intro c4
              have c4' := c4; clear c4
              try simp only [decide_eq_true_eq, decide_eq_false_iff_not, Bool.not_eq_true', Bool.not_eq_false', Bool.and_eq_true, Bool.or_eq_true, Bool.and_eq_false_iff, Bool.or_eq_false_iff, Int.not_le, Int.not_lt] at c4'
              refine RunC.region ?_
              refine RunL.val (Val.fieldAddr rfl fld_26_2) rfl rfl rfl ?_
              refine RunL.val (Val.load_one rfl (.tail _ (.head _)) ty_3 rfl) rfl rfl rfl ?_
              refine RunL.val (Val.pure rfl) rfl rfl rfl ?_
              refine RunL.val (Val.quoN (a := by_) (b := 5) rfl rfl (by omega) (i64_inN (by omega))) rfl rfl rfl ?_
              refine RunL.val (Val.sub' rfl rfl (IntWalk.i64_in _ ⟨by omega, by omega⟩)) rfl rfl rfl ?_
              refine RunL.val (Val.max rfl rfl) rfl rfl rfl ?_
              refine RunL.val (Val.fieldAddr rfl fld_26_2) rfl rfl rfl ?_
              refine RunL.sto (Sto.store rfl rfl .here ty_3 rfl rfl) rfl rfl ?_
              refine RunL.nil ?_
              refine RunE.block_normal ?_
              exact RunE.meet { p with tilt := max 0 (p.tilt - (by_ / 5 : Nat)) } (more_tilt hp (by omega) (by omega)) rfl (Sub.cons (t := 1) rfl (Sub.cons (t := 4) rfl (Sub.cons (t := 8) rfl (Sub.cons (t := 9) rfl (Sub.nil _))))) (.cons .here (by simp only [Pr.cells, Nat.zero_add]; rfl) (.cons (.there .here) rfl (.cons .here rfl .nil)))
            · intro c4
              have c4' := c4; clear c4
              try simp only [decide_eq_true_eq, decide_eq_false_iff_not, Bool.not_eq_true', Bool.not_eq_false', Bool.and_eq_true, Bool.or_eq_true, Bool.and_eq_false_iff, Bool.or_eq_false_iff, Int.not_le, Int.not_lt] at c4'
              refine RunC.seq ?_
              refine RunC.region ?_
              refine RunL.val (Val.pure rfl) rfl rfl rfl ?_
              refine RunL.val (Val.pure rfl) rfl rfl rfl ?_
              refine RunL.val (Val.fieldAddr rfl fld_47_2) rfl rfl rfl ?_
              refine RunL.val (Val.load_gen rfl (fun w hm => (Sl.rowsR (xs := p.things.map Th.cells) (t := rz68) (hm.at (.tail _ (.tail _ (.head _)))) th_rows).cellX (Mem.refl w) (by simp) ty_3 hj ht (j := 8) (by decide) rfl)) rfl rfl rfl ?_
              refine RunL.val (Val.pure rfl) rfl rfl rfl ?_
              refine RunL.val (Val.pure rfl) rfl rfl rfl ?_
              refine RunL.andPart (dj := 85) (dp := 90) 5 rfl (fun g85 => by
                have g85' := g85
                try simp only [decide_eq_true_eq, decide_eq_false_iff_not, Bool.not_eq_true', Bool.not_eq_false', Bool.and_eq_true, Bool.or_eq_true, Bool.and_eq_false_iff, Bool.or_eq_false_iff, Int.not_le, Int.not_lt] at g85'
                refine RunL.val (Val.fieldAddr rfl fld_26_3) rfl rfl rfl ?_
                refine RunL.val (Val.load_one rfl (.tail _ (.head _)) ty_3 rfl) rfl rfl rfl ?_
                iterate 3 refine RunL.val (Val.pure rfl) rfl rfl rfl ?_
                exact RunL.segEnd (Sub.cons rfl (Sub.skip rfl (Sub.skip rfl (Sub.skip rfl (Sub.skip rfl (Sub.skip rfl (Sub.same rfl (by rw [g85]) (Sub.refl _)))))))) (List.Sublist.refl _)
              ) (fun g85 => by
                have g85' := g85
                try simp only [decide_eq_true_eq, decide_eq_false_iff_not, Bool.not_eq_true', Bool.not_eq_false', Bool.and_eq_true, Bool.or_eq_true, Bool.and_eq_false_iff, Bool.or_eq_false_iff, Int.not_le, Int.not_lt] at g85'
                iterate 4 refine RunL.no rfl rfl rfl ?_
                refine RunL.val (Val.pure rfl) rfl rfl rfl ?_
                exact RunL.segEnd (Sub.cons rfl (Sub.skip rfl (Sub.skip rfl (Sub.skip rfl (Sub.skip rfl (Sub.skip rfl (Sub.same rfl (by rw [g85]) (Sub.refl _)))))))) (List.Sublist.refl _)
              ) ?_
              refine RunL.val (Val.pure rfl) rfl rfl rfl ?_
              refine RunL.andPart (dj := 91) (dp := 96) 5 rfl (fun g91 => by
                have g91' := g91
                try simp only [decide_eq_true_eq, decide_eq_false_iff_not, Bool.not_eq_true', Bool.not_eq_false', Bool.and_eq_true, Bool.or_eq_true, Bool.and_eq_false_iff, Bool.or_eq_false_iff, Int.not_le, Int.not_lt] at g91'
                refine RunL.val (Val.pure rfl) rfl rfl rfl ?_
                refine RunL.val (Val.fieldAddr rfl fld_26_4) rfl rfl rfl ?_
                refine RunL.val (Val.load_one rfl (.tail _ (.head _)) ty_3 rfl) rfl rfl rfl ?_
                refine RunL.val (Val.pure rfl) rfl rfl rfl ?_
                refine RunL.val (Val.pure rfl) rfl rfl rfl ?_
                exact RunL.segEnd (Sub.cons rfl (Sub.skip rfl (Sub.skip rfl (Sub.skip rfl (Sub.skip rfl (Sub.skip rfl (Sub.same rfl (by rw [g91]) (Sub.refl _)))))))) (List.Sublist.refl _)
              ) (fun g91 => by
                have g91' := g91
                try simp only [decide_eq_true_eq, decide_eq_false_iff_not, Bool.not_eq_true', Bool.not_eq_false', Bool.and_eq_true, Bool.or_eq_true, Bool.and_eq_false_iff, Bool.or_eq_false_iff, Int.not_le, Int.not_lt] at g91'
                iterate 4 refine RunL.no rfl rfl rfl ?_
                refine RunL.val (Val.pure rfl) rfl rfl rfl ?_
                exact RunL.segEnd (Sub.cons rfl (Sub.skip rfl (Sub.skip rfl (Sub.skip rfl (Sub.skip rfl (Sub.skip rfl (Sub.same rfl (by rw [g91]) (Sub.refl _)))))))) (List.Sublist.refl _)
              ) ?_
              refine RunL.nil ?_
              refine RunE.next ?_
              refine RunC.cond rfl ?_ ?_
              · intro c5
                have c5' := c5; clear c5
                try simp only [decide_eq_true_eq, decide_eq_false_iff_not, Bool.not_eq_true', Bool.not_eq_false', Bool.and_eq_true, Bool.or_eq_true, Bool.and_eq_false_iff, Bool.or_eq_false_iff, Int.not_le, Int.not_lt] at c5'
                refine RunC.region ?_
                iterate 3 refine RunL.val (Val.pure rfl) rfl rfl rfl ?_
                refine RunL.val (Val.fieldAddr rfl fld_47_2) rfl rfl rfl ?_
                refine RunL.sto (Sto.store (cs := ((p.things).map Th.cells).flatten ++ rz68) (cs' := (((p.things).set j { t with far := far }).map Th.cells).flatten ++ rz68) rfl rfl (.there (.there .here)) ty_3 rfl (paste_rowE th_len hj ht (j := 8) (by simp) rfl)) rfl rfl ?_
                refine RunL.nil ?_
                refine RunE.block_normal ?_
                exact RunE.meet (setT p j { t with far := far }) (more_far hp hj hta c5'.1.1 c5'.1.2 c5'.2) rfl (Sub.cons (t := 1) rfl (Sub.cons (t := 4) rfl (Sub.cons (t := 8) rfl (Sub.cons (t := 9) rfl (Sub.nil _))))) (.cons .here (by simp only [Pr.cells, Nat.zero_add, setT, List.length_set]; rfl) (.cons (.there .here) rfl (.cons .here rfl .nil)))
              · intro c5
                have c5' := c5; clear c5
                try simp only [decide_eq_true_eq, decide_eq_false_iff_not, Bool.not_eq_true', Bool.not_eq_false', Bool.and_eq_true, Bool.or_eq_true, Bool.and_eq_false_iff, Bool.or_eq_false_iff, Int.not_le, Int.not_lt] at c5'
                refine RunC.skip ?_
                refine RunE.block_normal ?_
                exact RunE.meet p (more_refl hp) rfl (Sub.cons (t := 1) rfl (Sub.cons (t := 4) rfl (Sub.cons (t := 8) rfl (Sub.cons (t := 9) rfl (Sub.nil _))))) (.cons .here (by simp only [Pr.cells, Nat.zero_add]; rfl) (.cons (.there .here) rfl (.cons .here rfl .nil)))
    · intro x xI
      have hxl : x.things.length ≤ 100000000000 := by rw [xI.len]; omega
      refine RunC.seq ?_
      refine RunC.region ?_
      refine RunL.val (Val.pure rfl) rfl rfl rfl ?_
      refine RunL.nil ?_
      refine RunE.next ?_
      refine RunC.seq ?_
      refine RunC.region ?_
      refine RunL.val (Val.load_agg rfl (.tail _ (.tail _ (.head _))) ty_26 rfl) rfl rfl rfl ?_
      refine RunL.callP (isCall_func rfl ent_17) rfl rfl rfl (fun w hm => Power_calls p q b o cap w (hS.mono (by decide) hm (by simp)) hl2) ?_
      iterate 3 refine RunL.val (Val.pure rfl) rfl rfl rfl ?_
      refine RunL.new (New.alloc zero_23) rfl rfl rfl (fun b13 => ?_)
      refine RunL.sto (Sto.store rfl rfl .here ty_23 rfl rfl) rfl rfl ?_
      refine RunL.val (Val.pure rfl) rfl rfl rfl ?_
      refine RunL.nil ?_
      refine RunE.next ?_
      refine RunC.seq ?_
      refine RunC.region ?_
      refine RunL.val (Val.load_agg rfl (.tail _ (.head _)) ty_26 rfl) rfl rfl rfl ?_
      refine RunL.callP (isCall_func rfl ent_17) rfl rfl rfl (fun w hm => Power_calls x _ bz68 0 cz68 w (Sl.rowsR (hm.at (.tail _ (.tail _ (.head _)))) th_rows) hxl) ?_
      iterate 3 refine RunL.val (Val.pure rfl) rfl rfl rfl ?_
      refine RunL.new (New.alloc zero_23) rfl rfl rfl (fun b15 => ?_)
      refine RunL.sto (Sto.store rfl rfl .here ty_23 rfl rfl) rfl rfl ?_
      refine RunL.val (Val.pure rfl) rfl rfl rfl ?_
      refine RunL.nil ?_
      refine RunE.next ?_
      refine RunC.seq ?_
      refine RunC.region ?_
      refine RunL.val (Val.load_agg rfl (.tail _ (.tail _ (.tail _ (.tail _ (.head _))))) ty_26 rfl) rfl rfl rfl ?_
      refine RunL.val (Val.pure rfl) rfl rfl rfl ?_
      refine RunL.callP (isCall_func rfl ent_13) rfl rfl rfl (fun w hm => Shift_calls p _ q b o cap w (hS.mono (by decide) hm (by simp)) hl2) ?_
      iterate 3 refine RunL.val (Val.pure rfl) rfl rfl rfl ?_
      refine RunL.new (New.alloc zero_23) rfl rfl rfl (fun b17 => ?_)
      refine RunL.sto (Sto.store rfl rfl .here ty_23 rfl rfl) rfl rfl ?_
      refine RunL.val (Val.pure rfl) rfl rfl rfl ?_
      refine RunL.nil ?_
      refine RunE.next ?_
      refine RunC.seq ?_
      refine RunC.region ?_
      refine RunL.val (Val.load_agg rfl (.tail _ (.tail _ (.tail _ (.head _)))) ty_26 rfl) rfl rfl rfl ?_
      refine RunL.val (Val.pure rfl) rfl rfl rfl ?_
      refine RunL.callP (isCall_func rfl ent_13) rfl rfl rfl (fun w hm => Shift_calls x _ _ bz68 0 cz68 w (Sl.rowsR (hm.at (.tail _ (.tail _ (.tail _ (.tail _ (.head _)))))) th_rows) hxl) ?_
      iterate 3 refine RunL.val (Val.pure rfl) rfl rfl rfl ?_
      refine RunL.new (New.alloc zero_23) rfl rfl rfl (fun b19 => ?_)
      refine RunL.sto (Sto.store rfl rfl .here ty_23 rfl rfl) rfl rfl ?_
      refine RunL.val (Val.pure rfl) rfl rfl rfl ?_
      refine RunL.nil ?_
      refine RunE.next ?_
      refine RunC.seq ?_
      refine RunC.seq ?_
      refine RunC.region ?_
      iterate 3 refine RunL.val (Val.pure rfl) rfl rfl rfl ?_
      refine RunL.orPart (dj := 200) (dp := 203) 3 rfl (fun g200 => by
        have g200' := g200
        try simp only [decide_eq_true_eq, decide_eq_false_iff_not, Bool.not_eq_true', Bool.not_eq_false', Bool.and_eq_true, Bool.or_eq_true, Bool.and_eq_false_iff, Bool.or_eq_false_iff, Int.not_le, Int.not_lt] at g200'
        iterate 3 refine RunL.val (Val.pure rfl) rfl rfl rfl ?_
        exact RunL.segEnd (Sub.cons rfl (Sub.skip rfl (Sub.skip rfl (Sub.skip rfl (Sub.same rfl (by rw [g200]) (Sub.refl _)))))) (List.Sublist.refl _)
      ) (fun g200 => by
        have g200' := g200
        try simp only [decide_eq_true_eq, decide_eq_false_iff_not, Bool.not_eq_true', Bool.not_eq_false', Bool.and_eq_true, Bool.or_eq_true, Bool.and_eq_false_iff, Bool.or_eq_false_iff, Int.not_le, Int.not_lt] at g200'
        refine RunL.no rfl rfl rfl ?_
        refine RunL.no rfl rfl rfl ?_
        refine RunL.val (Val.pure rfl) rfl rfl rfl ?_
        exact RunL.segEnd (Sub.cons rfl (Sub.skip rfl (Sub.skip rfl (Sub.skip rfl (Sub.same rfl (by rw [g200]) (Sub.refl _)))))) (List.Sublist.refl _)
      ) ?_
      refine RunL.val (Val.pure rfl) rfl rfl rfl ?_
      refine RunL.orPart (dj := 204) (dp := 210) 6 rfl (fun g204 => by
        have g204' := g204
        try simp only [decide_eq_true_eq, decide_eq_false_iff_not, Bool.not_eq_true', Bool.not_eq_false', Bool.and_eq_true, Bool.or_eq_true, Bool.and_eq_false_iff, Bool.or_eq_false_iff, Int.not_le, Int.not_lt] at g204'
        refine RunL.val (Val.pure rfl) rfl rfl rfl ?_
        refine RunL.val (Val.load_agg rfl (.head _) ty_23 rfl) rfl rfl rfl ?_
        refine RunL.val (Val.load_agg rfl (.tail _ (.head _)) ty_23 rfl) rfl rfl rfl ?_
        refine RunL.callP (isCall_value rfl rfl ent_37) rfl rfl rfl (fun w hm => lin_calls _ _ w) ?_
        refine RunL.val (Val.pure rfl) rfl rfl rfl ?_
        refine RunL.val (Val.pure rfl) rfl rfl rfl ?_
        exact RunL.segEnd (Sub.cons rfl (Sub.skip rfl (Sub.skip rfl (Sub.skip rfl (Sub.skip rfl (Sub.skip rfl (Sub.skip rfl (Sub.same rfl (by rw [g204]) (Sub.refl _))))))))) (List.Sublist.refl _)
      ) (fun g204 => by
        have g204' := g204
        try simp only [decide_eq_true_eq, decide_eq_false_iff_not, Bool.not_eq_true', Bool.not_eq_false', Bool.and_eq_true, Bool.or_eq_true, Bool.and_eq_false_iff, Bool.or_eq_false_iff, Int.not_le, Int.not_lt] at g204'
        iterate 5 refine RunL.no rfl rfl rfl ?_
        refine RunL.val (Val.pure rfl) rfl rfl rfl ?_
        exact RunL.segEnd (Sub.cons rfl (Sub.skip rfl (Sub.skip rfl (Sub.skip rfl (Sub.skip rfl (Sub.skip rfl (Sub.skip rfl (Sub.same rfl (by rw [g204]) (Sub.refl _))))))))) (List.Sublist.refl _)
      ) ?_
      refine RunL.val (Val.pure rfl) rfl rfl rfl ?_
      refine RunL.orPart (dj := 211) (dp := 218) 7 rfl (fun g211 => by
        have g211' := g211
        try simp only [decide_eq_true_eq, decide_eq_false_iff_not, Bool.not_eq_true', Bool.not_eq_false', Bool.and_eq_true, Bool.or_eq_true, Bool.and_eq_false_iff, Bool.or_eq_false_iff, Int.not_le, Int.not_lt] at g211'
        iterate 3 refine RunL.val (Val.pure rfl) rfl rfl rfl ?_
        refine RunL.andPart (dj := 214) (dp := 217) 3 rfl (fun g214 => by
          have g214' := g214
          try simp only [decide_eq_true_eq, decide_eq_false_iff_not, Bool.not_eq_true', Bool.not_eq_false', Bool.and_eq_true, Bool.or_eq_true, Bool.and_eq_false_iff, Bool.or_eq_false_iff, Int.not_le, Int.not_lt] at g214'
          iterate 3 refine RunL.val (Val.pure rfl) rfl rfl rfl ?_
          exact RunL.segEnd (Sub.cons rfl (Sub.skip rfl (Sub.skip rfl (Sub.skip rfl (Sub.same rfl (by rw [g214]) (Sub.refl _)))))) (List.Sublist.refl _)
        ) (fun g214 => by
          have g214' := g214
          try simp only [decide_eq_true_eq, decide_eq_false_iff_not, Bool.not_eq_true', Bool.not_eq_false', Bool.and_eq_true, Bool.or_eq_true, Bool.and_eq_false_iff, Bool.or_eq_false_iff, Int.not_le, Int.not_lt] at g214'
          refine RunL.no rfl rfl rfl ?_
          refine RunL.no rfl rfl rfl ?_
          refine RunL.val (Val.pure rfl) rfl rfl rfl ?_
          exact RunL.segEnd (Sub.cons rfl (Sub.skip rfl (Sub.skip rfl (Sub.skip rfl (Sub.same rfl (by rw [g214]) (Sub.refl _)))))) (List.Sublist.refl _)
        ) ?_
        refine RunL.val (Val.pure rfl) rfl rfl rfl ?_
        exact RunL.segEnd (Sub.cons rfl (Sub.skip rfl (Sub.skip rfl (Sub.skip rfl (Sub.skip rfl (Sub.skip rfl (Sub.same rfl (by rw [g211]) (Sub.refl _)))))))) (List.Sublist.refl _)
      ) (fun g211 => by
        have g211' := g211
        try simp only [decide_eq_true_eq, decide_eq_false_iff_not, Bool.not_eq_true', Bool.not_eq_false', Bool.and_eq_true, Bool.or_eq_true, Bool.and_eq_false_iff, Bool.or_eq_false_iff, Int.not_le, Int.not_lt] at g211'
        iterate 6 refine RunL.no rfl rfl rfl ?_
        refine RunL.val (Val.pure rfl) rfl rfl rfl ?_
        exact RunL.segEnd (Sub.cons rfl (Sub.skip rfl (Sub.skip rfl (Sub.skip rfl (Sub.skip rfl (Sub.skip rfl (Sub.skip rfl (Sub.skip rfl (Sub.same rfl (by rw [g211]) (Sub.refl _)))))))))) (List.Sublist.refl _)
      ) ?_
      refine RunL.val (Val.pure rfl) rfl rfl rfl ?_
      refine RunL.orPart (dj := 219) (dp := 226) 7 rfl (fun g219 => by
        have g219' := g219
        try simp only [decide_eq_true_eq, decide_eq_false_iff_not, Bool.not_eq_true', Bool.not_eq_false', Bool.and_eq_true, Bool.or_eq_true, Bool.and_eq_false_iff, Bool.or_eq_false_iff, Int.not_le, Int.not_lt] at g219'
        iterate 3 refine RunL.val (Val.pure rfl) rfl rfl rfl ?_
        refine RunL.andPart (dj := 222) (dp := 225) 3 rfl (fun g222 => by
          have g222' := g222
          try simp only [decide_eq_true_eq, decide_eq_false_iff_not, Bool.not_eq_true', Bool.not_eq_false', Bool.and_eq_true, Bool.or_eq_true, Bool.and_eq_false_iff, Bool.or_eq_false_iff, Int.not_le, Int.not_lt] at g222'
          iterate 3 refine RunL.val (Val.pure rfl) rfl rfl rfl ?_
          exact RunL.segEnd (Sub.cons rfl (Sub.skip rfl (Sub.skip rfl (Sub.skip rfl (Sub.same rfl (by rw [g222]) (Sub.refl _)))))) (List.Sublist.refl _)
        ) (fun g222 => by
          have g222' := g222
          try simp only [decide_eq_true_eq, decide_eq_false_iff_not, Bool.not_eq_true', Bool.not_eq_false', Bool.and_eq_true, Bool.or_eq_true, Bool.and_eq_false_iff, Bool.or_eq_false_iff, Int.not_le, Int.not_lt] at g222'
          refine RunL.no rfl rfl rfl ?_
          refine RunL.no rfl rfl rfl ?_
          refine RunL.val (Val.pure rfl) rfl rfl rfl ?_
          exact RunL.segEnd (Sub.cons rfl (Sub.skip rfl (Sub.skip rfl (Sub.skip rfl (Sub.same rfl (by rw [g222]) (Sub.refl _)))))) (List.Sublist.refl _)
        ) ?_
        refine RunL.val (Val.pure rfl) rfl rfl rfl ?_
        exact RunL.segEnd (Sub.cons rfl (Sub.skip rfl (Sub.skip rfl (Sub.skip rfl (Sub.skip rfl (Sub.skip rfl (Sub.same rfl (by rw [g219]) (Sub.refl _)))))))) (List.Sublist.refl _)
      ) (fun g219 => by
        have g219' := g219
        try simp only [decide_eq_true_eq, decide_eq_false_iff_not, Bool.not_eq_true', Bool.not_eq_false', Bool.and_eq_true, Bool.or_eq_true, Bool.and_eq_false_iff, Bool.or_eq_false_iff, Int.not_le, Int.not_lt] at g219'
        iterate 6 refine RunL.no rfl rfl rfl ?_
        refine RunL.val (Val.pure rfl) rfl rfl rfl ?_
        exact RunL.segEnd (Sub.cons rfl (Sub.skip rfl (Sub.skip rfl (Sub.skip rfl (Sub.skip rfl (Sub.skip rfl (Sub.skip rfl (Sub.skip rfl (Sub.same rfl (by rw [g219]) (Sub.refl _)))))))))) (List.Sublist.refl _)
      ) ?_
      refine RunL.nil ?_
      refine RunE.next ?_
      refine RunC.cond rfl (fun h => absurd h (by rw [more_c6 hp xI hi]; exact Bool.false_ne_true)) ?_
      intro c6
      clear c6
      refine RunC.skip ?_
      refine RunE.next ?_
      refine RunC.seq ?_
      refine RunC.seq ?_
      refine RunC.region ?_
      refine RunL.val (Val.pure rfl) rfl rfl rfl ?_
      refine RunL.val (Val.pure rfl) rfl rfl rfl ?_
      refine RunL.nil ?_
      refine RunE.next ?_
      refine RunC.cond rfl ?_ ?_
      · intro c7
        have c7' := c7; clear c7
        try simp only [decide_eq_true_eq, decide_eq_false_iff_not, Bool.not_eq_true', Bool.not_eq_false', Bool.and_eq_true, Bool.or_eq_true, Bool.and_eq_false_iff, Bool.or_eq_false_iff, Int.not_le, Int.not_lt] at c7'
        refine RunC.seq ?_
        refine RunC.region ?_
        refine RunL.callP (isCall_func rfl ent_12) rfl rfl rfl (fun w hm => awake_calls w) ?_
        refine RunL.val (Val.pure rfl) rfl rfl rfl ?_
        refine RunL.nil ?_
        refine RunE.next ?_
        refine RunC.ret ?_
        refine RunE.pass_ret ?_
        exact RunE.retP (.r1 rfl (.tmp rfl)) (by first | rfl | simp)
      · intro c7
        have c7' := c7; clear c7
        try simp only [decide_eq_true_eq, decide_eq_false_iff_not, Bool.not_eq_true', Bool.not_eq_false', Bool.and_eq_true, Bool.or_eq_true, Bool.and_eq_false_iff, Bool.or_eq_false_iff, Int.not_le, Int.not_lt] at c7'
        have hbx : isB (allS x) = true := (power_ok xI.ok).1 c7'
        have hbp := xI.isB hp hbx
        have fx1 : (fewestX p).1 = ((bestS p (allS p) : Nat) : Int) := by rw [few_ok hp hbp]
        have fx2 : (fewestX x).1 = ((bestS x (allS x) : Nat) : Int) := by rw [few_ok xI.ok hbx]
        refine RunC.skip ?_
        refine RunE.next ?_
        refine RunC.seq ?_
        refine RunC.region ?_
        refine RunL.val (Val.load_agg rfl (.tail _ (.tail _ (.tail _ (.tail _ (.tail _ (.tail _ (.head _))))))) ty_26 rfl) rfl rfl rfl ?_
        refine RunL.val (Val.pure rfl) rfl rfl rfl ?_
        refine RunL.callP (isCall_func rfl ent_21) rfl rfl rfl (fun w hm => Why_calls p _ q b o cap w (hS.mono (by decide) hm (by simp)) hl2) ?_
        iterate 5 refine RunL.val (Val.pure rfl) rfl rfl rfl ?_
        refine RunL.nil ?_
        refine RunE.next ?_
        refine RunC.seq ?_
        refine RunC.region ?_
        refine RunL.val (Val.load_agg rfl (.tail _ (.tail _ (.tail _ (.tail _ (.head _))))) ty_26 rfl) rfl rfl rfl ?_
        refine RunL.val (Val.pure rfl) rfl rfl rfl ?_
        refine RunL.callP (isCall_func rfl ent_21) rfl rfl rfl (fun w hm => Why_calls x _ _ bz68 0 cz68 w (Sl.rowsR (hm.at (.tail _ (.tail _ (.tail _ (.tail _ (.tail _ (.head _))))))) th_rows) hxl) ?_
        iterate 5 refine RunL.val (Val.pure rfl) rfl rfl rfl ?_
        refine RunL.nil ?_
        refine RunE.next ?_
        refine RunC.seq ?_
        refine RunC.region ?_
        refine RunL.val (Val.load_agg rfl (.tail _ (.tail _ (.tail _ (.tail _ (.tail _ (.tail _ (.head _))))))) ty_26 rfl) rfl rfl rfl ?_
        refine RunL.val (Val.pure rfl) rfl rfl rfl ?_
        refine RunL.callP (isCall_func rfl ent_23) rfl rfl rfl (fun w hm => Distance_calls p _ q b o cap w (hS.mono (by decide) hm (by simp)) hl2) ?_
        iterate 3 refine RunL.val (Val.pure rfl) rfl rfl rfl ?_
        refine RunL.new (New.alloc zero_23) rfl rfl rfl (fun b25 => ?_)
        refine RunL.sto (Sto.store rfl rfl .here ty_23 rfl rfl) rfl rfl ?_
        refine RunL.val (Val.pure rfl) rfl rfl rfl ?_
        refine RunL.nil ?_
        refine RunE.next ?_
        refine RunC.seq ?_
        refine RunC.region ?_
        refine RunL.val (Val.load_agg rfl (.tail _ (.tail _ (.tail _ (.tail _ (.tail _ (.head _)))))) ty_26 rfl) rfl rfl rfl ?_
        refine RunL.val (Val.pure rfl) rfl rfl rfl ?_
        refine RunL.callP (isCall_func rfl ent_23) rfl rfl rfl (fun w hm => Distance_calls x _ _ bz68 0 cz68 w (Sl.rowsR (hm.at (.tail _ (.tail _ (.tail _ (.tail _ (.tail _ (.tail _ (.head _)))))))) th_rows) hxl) ?_
        iterate 3 refine RunL.val (Val.pure rfl) rfl rfl rfl ?_
        refine RunL.new (New.alloc zero_23) rfl rfl rfl (fun b27 => ?_)
        refine RunL.sto (Sto.store rfl rfl .here ty_23 rfl rfl) rfl rfl ?_
        refine RunL.val (Val.pure rfl) rfl rfl rfl ?_
        refine RunL.nil ?_
        refine RunE.next ?_
        refine RunC.seq ?_
        refine RunC.region ?_
        refine RunL.val (Val.load_agg rfl (.tail _ (.tail _ (.tail _ (.tail _ (.tail _ (.tail _ (.tail _ (.tail _ (.head _))))))))) ty_26 rfl) rfl rfl rfl ?_
        refine RunL.callP (isCall_func rfl ent_25) rfl rfl rfl (fun w hm => Fewest_calls p q b o cap w (hS.mono (by decide) hm (by simp)) hl2) ?_
        iterate 4 refine RunL.val (Val.pure rfl) rfl rfl rfl ?_
        refine RunL.new (New.alloc zero_23) rfl rfl rfl (fun b30 => ?_)
        refine RunL.val (Val.pure rfl) rfl rfl rfl ?_
        refine RunL.sto (Sto.store rfl rfl .here ty_23 rfl rfl) rfl rfl ?_
        refine RunL.val (Val.pure rfl) rfl rfl rfl ?_
        refine RunL.nil ?_
        refine RunE.next ?_
        refine RunC.seq ?_
        refine RunC.region ?_
        refine RunL.val (Val.load_agg rfl (.tail _ (.tail _ (.tail _ (.tail _ (.tail _ (.tail _ (.tail _ (.head _)))))))) ty_26 rfl) rfl rfl rfl ?_
        refine RunL.callP (isCall_func rfl ent_25) rfl rfl rfl (fun w hm => Fewest_calls x _ bz68 0 cz68 w (Sl.rowsR (hm.at (.tail _ (.tail _ (.tail _ (.tail _ (.tail _ (.tail _ (.tail _ (.tail _ (.head _)))))))))) th_rows) hxl) ?_
        iterate 4 refine RunL.val (Val.pure rfl) rfl rfl rfl ?_
        refine RunL.new (New.alloc zero_23) rfl rfl rfl (fun b33 => ?_)
        refine RunL.val (Val.pure rfl) rfl rfl rfl ?_
        refine RunL.sto (Sto.store rfl rfl .here ty_23 rfl rfl) rfl rfl ?_
        refine RunL.val (Val.pure rfl) rfl rfl rfl ?_
        refine RunL.nil ?_
        refine RunE.next ?_
        refine RunC.seq ?_
        refine RunC.seq ?_
        refine RunC.region ?_
        refine RunL.val (Val.pure rfl) rfl rfl rfl ?_
        refine RunL.val (Val.load_agg rfl (.tail _ (.tail _ (.tail _ (.tail _ (.tail _ (.tail _ (.head _))))))) ty_23 rfl) rfl rfl rfl ?_
        refine RunL.val (Val.load_agg rfl (.tail _ (.tail _ (.tail _ (.tail _ (.tail _ (.tail _ (.tail _ (.head _)))))))) ty_23 rfl) rfl rfl rfl ?_
        refine RunL.callP (isCall_value rfl rfl ent_37) rfl rfl rfl (fun w hm => lin_calls _ _ w) ?_
        refine RunL.val (Val.pure rfl) rfl rfl rfl ?_
        refine RunL.val (Val.pure rfl) rfl rfl rfl ?_
        refine RunL.orPart (dj := 271) (dp := 274) 3 rfl (fun g271 => by
          have g271' := g271
          try simp only [decide_eq_true_eq, decide_eq_false_iff_not, Bool.not_eq_true', Bool.not_eq_false', Bool.and_eq_true, Bool.or_eq_true, Bool.and_eq_false_iff, Bool.or_eq_false_iff, Int.not_le, Int.not_lt] at g271'
          iterate 3 refine RunL.val (Val.pure rfl) rfl rfl rfl ?_
          exact RunL.segEnd (Sub.cons rfl (Sub.skip rfl (Sub.skip rfl (Sub.skip rfl (Sub.same rfl (by rw [g271]) (Sub.refl _)))))) (List.Sublist.refl _)
        ) (fun g271 => by
          have g271' := g271
          try simp only [decide_eq_true_eq, decide_eq_false_iff_not, Bool.not_eq_true', Bool.not_eq_false', Bool.and_eq_true, Bool.or_eq_true, Bool.and_eq_false_iff, Bool.or_eq_false_iff, Int.not_le, Int.not_lt] at g271'
          refine RunL.no rfl rfl rfl ?_
          refine RunL.no rfl rfl rfl ?_
          refine RunL.val (Val.pure rfl) rfl rfl rfl ?_
          exact RunL.segEnd (Sub.cons rfl (Sub.skip rfl (Sub.skip rfl (Sub.skip rfl (Sub.same rfl (by rw [g271]) (Sub.refl _)))))) (List.Sublist.refl _)
        ) ?_
        refine RunL.val (Val.pure rfl) rfl rfl rfl ?_
        refine RunL.orPart (dj := 275) (dp := 278) 3 rfl (fun g275 => by
          have g275' := g275
          try simp only [decide_eq_true_eq, decide_eq_false_iff_not, Bool.not_eq_true', Bool.not_eq_false', Bool.and_eq_true, Bool.or_eq_true, Bool.and_eq_false_iff, Bool.or_eq_false_iff, Int.not_le, Int.not_lt] at g275'
          iterate 3 refine RunL.val (Val.pure rfl) rfl rfl rfl ?_
          exact RunL.segEnd (Sub.cons rfl (Sub.skip rfl (Sub.skip rfl (Sub.skip rfl (Sub.same rfl (by rw [g275]) (Sub.refl _)))))) (List.Sublist.refl _)
        ) (fun g275 => by
          have g275' := g275
          try simp only [decide_eq_true_eq, decide_eq_false_iff_not, Bool.not_eq_true', Bool.not_eq_false', Bool.and_eq_true, Bool.or_eq_true, Bool.and_eq_false_iff, Bool.or_eq_false_iff, Int.not_le, Int.not_lt] at g275'
          refine RunL.no rfl rfl rfl ?_
          refine RunL.no rfl rfl rfl ?_
          refine RunL.val (Val.pure rfl) rfl rfl rfl ?_
          exact RunL.segEnd (Sub.cons rfl (Sub.skip rfl (Sub.skip rfl (Sub.skip rfl (Sub.same rfl (by rw [g275]) (Sub.refl _)))))) (List.Sublist.refl _)
        ) ?_
        refine RunL.val (Val.pure rfl) rfl rfl rfl ?_
        refine RunL.orPart (dj := 279) (dp := 286) 7 rfl (fun g279 => by
          have g279' := g279
          try simp only [decide_eq_true_eq, decide_eq_false_iff_not, Bool.not_eq_true', Bool.not_eq_false', Bool.and_eq_true, Bool.or_eq_true, Bool.and_eq_false_iff, Bool.or_eq_false_iff, Int.not_le, Int.not_lt] at g279'
          iterate 3 refine RunL.val (Val.pure rfl) rfl rfl rfl ?_
          refine RunL.andPart (dj := 282) (dp := 285) 3 rfl (fun g282 => by
            have g282' := g282
            try simp only [decide_eq_true_eq, decide_eq_false_iff_not, Bool.not_eq_true', Bool.not_eq_false', Bool.and_eq_true, Bool.or_eq_true, Bool.and_eq_false_iff, Bool.or_eq_false_iff, Int.not_le, Int.not_lt] at g282'
            iterate 3 refine RunL.val (Val.pure rfl) rfl rfl rfl ?_
            exact RunL.segEnd (Sub.cons rfl (Sub.skip rfl (Sub.skip rfl (Sub.skip rfl (Sub.same rfl (by rw [g282]) (Sub.refl _)))))) (List.Sublist.refl _)
          ) (fun g282 => by
            have g282' := g282
            try simp only [decide_eq_true_eq, decide_eq_false_iff_not, Bool.not_eq_true', Bool.not_eq_false', Bool.and_eq_true, Bool.or_eq_true, Bool.and_eq_false_iff, Bool.or_eq_false_iff, Int.not_le, Int.not_lt] at g282'
            refine RunL.no rfl rfl rfl ?_
            refine RunL.no rfl rfl rfl ?_
            refine RunL.val (Val.pure rfl) rfl rfl rfl ?_
            exact RunL.segEnd (Sub.cons rfl (Sub.skip rfl (Sub.skip rfl (Sub.skip rfl (Sub.same rfl (by rw [g282]) (Sub.refl _)))))) (List.Sublist.refl _)
          ) ?_
          refine RunL.val (Val.pure rfl) rfl rfl rfl ?_
          exact RunL.segEnd (Sub.cons rfl (Sub.skip rfl (Sub.skip rfl (Sub.skip rfl (Sub.skip rfl (Sub.skip rfl (Sub.same rfl (by rw [g279]) (Sub.refl _)))))))) (List.Sublist.refl _)
        ) (fun g279 => by
          have g279' := g279
          try simp only [decide_eq_true_eq, decide_eq_false_iff_not, Bool.not_eq_true', Bool.not_eq_false', Bool.and_eq_true, Bool.or_eq_true, Bool.and_eq_false_iff, Bool.or_eq_false_iff, Int.not_le, Int.not_lt] at g279'
          iterate 6 refine RunL.no rfl rfl rfl ?_
          refine RunL.val (Val.pure rfl) rfl rfl rfl ?_
          exact RunL.segEnd (Sub.cons rfl (Sub.skip rfl (Sub.skip rfl (Sub.skip rfl (Sub.skip rfl (Sub.skip rfl (Sub.skip rfl (Sub.skip rfl (Sub.same rfl (by rw [g279]) (Sub.refl _)))))))))) (List.Sublist.refl _)
        ) ?_
        refine RunL.val (Val.pure rfl) rfl rfl rfl ?_
        refine RunL.orPart (dj := 287) (dp := 301) 14 rfl (fun g287 => by
          have g287' := g287
          try simp only [decide_eq_true_eq, decide_eq_false_iff_not, Bool.not_eq_true', Bool.not_eq_false', Bool.and_eq_true, Bool.or_eq_true, Bool.and_eq_false_iff, Bool.or_eq_false_iff, Int.not_le, Int.not_lt] at g287'
          iterate 3 refine RunL.val (Val.pure rfl) rfl rfl rfl ?_
          refine RunL.andPart (dj := 290) (dp := 300) 10 rfl (fun g290 => by
            have g290' := g290
            try simp only [decide_eq_true_eq, decide_eq_false_iff_not, Bool.not_eq_true', Bool.not_eq_false', Bool.and_eq_true, Bool.or_eq_true, Bool.and_eq_false_iff, Bool.or_eq_false_iff, Int.not_le, Int.not_lt] at g290'
            iterate 3 refine RunL.val (Val.pure rfl) rfl rfl rfl ?_
            refine RunL.orPart (dj := 293) (dp := 299) 6 rfl (fun g293 => by
              have g293' := g293
              try simp only [decide_eq_true_eq, decide_eq_false_iff_not, Bool.not_eq_true', Bool.not_eq_false', Bool.and_eq_true, Bool.or_eq_true, Bool.and_eq_false_iff, Bool.or_eq_false_iff, Int.not_le, Int.not_lt] at g293'
              refine RunL.val (Val.pure rfl) rfl rfl rfl ?_
              refine RunL.val (Val.load_agg rfl (.tail _ (.tail _ (.head _))) ty_23 rfl) rfl rfl rfl ?_
              refine RunL.val (Val.load_agg rfl (.tail _ (.tail _ (.tail _ (.head _)))) ty_23 rfl) rfl rfl rfl ?_
              refine RunL.callP (isCall_value rfl rfl ent_37) rfl rfl rfl (fun w hm => lin_calls _ _ w) ?_
              refine RunL.val (Val.pure rfl) rfl rfl rfl ?_
              refine RunL.val (Val.pure rfl) rfl rfl rfl ?_
              exact RunL.segEnd (Sub.cons rfl (Sub.skip rfl (Sub.skip rfl (Sub.skip rfl (Sub.skip rfl (Sub.skip rfl (Sub.skip rfl (Sub.same rfl (by rw [g293]) (Sub.refl _))))))))) (List.Sublist.refl _)
            ) (fun g293 => by
              have g293' := g293
              try simp only [decide_eq_true_eq, decide_eq_false_iff_not, Bool.not_eq_true', Bool.not_eq_false', Bool.and_eq_true, Bool.or_eq_true, Bool.and_eq_false_iff, Bool.or_eq_false_iff, Int.not_le, Int.not_lt] at g293'
              iterate 5 refine RunL.no rfl rfl rfl ?_
              refine RunL.val (Val.pure rfl) rfl rfl rfl ?_
              exact RunL.segEnd (Sub.cons rfl (Sub.skip rfl (Sub.skip rfl (Sub.skip rfl (Sub.skip rfl (Sub.skip rfl (Sub.skip rfl (Sub.same rfl (by rw [g293]) (Sub.refl _))))))))) (List.Sublist.refl _)
            ) ?_
            refine RunL.val (Val.pure rfl) rfl rfl rfl ?_
            exact RunL.segEnd (Sub.cons rfl (Sub.skip rfl (Sub.skip rfl (Sub.skip rfl (Sub.skip rfl (Sub.skip rfl (Sub.same rfl (by rw [g290]) (Sub.refl _)))))))) (List.Sublist.refl _)
          ) (fun g290 => by
            have g290' := g290
            try simp only [decide_eq_true_eq, decide_eq_false_iff_not, Bool.not_eq_true', Bool.not_eq_false', Bool.and_eq_true, Bool.or_eq_true, Bool.and_eq_false_iff, Bool.or_eq_false_iff, Int.not_le, Int.not_lt] at g290'
            iterate 9 refine RunL.no rfl rfl rfl ?_
            refine RunL.val (Val.pure rfl) rfl rfl rfl ?_
            exact RunL.segEnd (Sub.cons rfl (Sub.skip rfl (Sub.skip rfl (Sub.skip rfl (Sub.skip rfl (Sub.skip rfl (Sub.skip rfl (Sub.skip rfl (Sub.skip rfl (Sub.skip rfl (Sub.skip rfl (Sub.same rfl (by rw [g290]) (Sub.refl _))))))))))))) (List.Sublist.refl _)
          ) ?_
          refine RunL.val (Val.pure rfl) rfl rfl rfl ?_
          exact RunL.segEnd (Sub.cons rfl (Sub.skip rfl (Sub.skip rfl (Sub.skip rfl (Sub.skip rfl (Sub.skip rfl (Sub.same rfl (by rw [g287]) (Sub.refl _)))))))) (List.Sublist.refl _)
        ) (fun g287 => by
          have g287' := g287
          try simp only [decide_eq_true_eq, decide_eq_false_iff_not, Bool.not_eq_true', Bool.not_eq_false', Bool.and_eq_true, Bool.or_eq_true, Bool.and_eq_false_iff, Bool.or_eq_false_iff, Int.not_le, Int.not_lt] at g287'
          iterate 13 refine RunL.no rfl rfl rfl ?_
          refine RunL.val (Val.pure rfl) rfl rfl rfl ?_
          exact RunL.segEnd (Sub.cons rfl (Sub.skip rfl (Sub.skip rfl (Sub.skip rfl (Sub.skip rfl (Sub.skip rfl (Sub.skip rfl (Sub.skip rfl (Sub.skip rfl (Sub.skip rfl (Sub.skip rfl (Sub.skip rfl (Sub.skip rfl (Sub.skip rfl (Sub.skip rfl (Sub.same rfl (by rw [g287]) (Sub.refl _))))))))))))))))) (List.Sublist.refl _)
        ) ?_
        refine RunL.val (Val.pure rfl) rfl rfl rfl ?_
        refine RunL.orPart (dj := 302) (dp := 305) 3 rfl (fun g302 => by
          have g302' := g302
          try simp only [decide_eq_true_eq, decide_eq_false_iff_not, Bool.not_eq_true', Bool.not_eq_false', Bool.and_eq_true, Bool.or_eq_true, Bool.and_eq_false_iff, Bool.or_eq_false_iff, Int.not_le, Int.not_lt] at g302'
          iterate 3 refine RunL.val (Val.pure rfl) rfl rfl rfl ?_
          exact RunL.segEnd (Sub.cons rfl (Sub.skip rfl (Sub.skip rfl (Sub.skip rfl (Sub.same rfl (by rw [g302]) (Sub.refl _)))))) (List.Sublist.refl _)
        ) (fun g302 => by
          have g302' := g302
          try simp only [decide_eq_true_eq, decide_eq_false_iff_not, Bool.not_eq_true', Bool.not_eq_false', Bool.and_eq_true, Bool.or_eq_true, Bool.and_eq_false_iff, Bool.or_eq_false_iff, Int.not_le, Int.not_lt] at g302'
          refine RunL.no rfl rfl rfl ?_
          refine RunL.no rfl rfl rfl ?_
          refine RunL.val (Val.pure rfl) rfl rfl rfl ?_
          exact RunL.segEnd (Sub.cons rfl (Sub.skip rfl (Sub.skip rfl (Sub.skip rfl (Sub.same rfl (by rw [g302]) (Sub.refl _)))))) (List.Sublist.refl _)
        ) ?_
        refine RunL.val (Val.pure rfl) rfl rfl rfl ?_
        refine RunL.orPart (dj := 306) (dp := 309) 3 rfl (fun g306 => by
          have g306' := g306
          try simp only [decide_eq_true_eq, decide_eq_false_iff_not, Bool.not_eq_true', Bool.not_eq_false', Bool.and_eq_true, Bool.or_eq_true, Bool.and_eq_false_iff, Bool.or_eq_false_iff, Int.not_le, Int.not_lt] at g306'
          iterate 3 refine RunL.val (Val.pure rfl) rfl rfl rfl ?_
          exact RunL.segEnd (Sub.cons rfl (Sub.skip rfl (Sub.skip rfl (Sub.skip rfl (Sub.same rfl (by rw [g306]) (Sub.refl _)))))) (List.Sublist.refl _)
        ) (fun g306 => by
          have g306' := g306
          try simp only [decide_eq_true_eq, decide_eq_false_iff_not, Bool.not_eq_true', Bool.not_eq_false', Bool.and_eq_true, Bool.or_eq_true, Bool.and_eq_false_iff, Bool.or_eq_false_iff, Int.not_le, Int.not_lt] at g306'
          refine RunL.no rfl rfl rfl ?_
          refine RunL.no rfl rfl rfl ?_
          refine RunL.val (Val.pure rfl) rfl rfl rfl ?_
          exact RunL.segEnd (Sub.cons rfl (Sub.skip rfl (Sub.skip rfl (Sub.skip rfl (Sub.same rfl (by rw [g306]) (Sub.refl _)))))) (List.Sublist.refl _)
        ) ?_
        refine RunL.val (Val.pure rfl) rfl rfl rfl ?_
        refine RunL.orPart (dj := 310) (dp := 313) 3 rfl (fun g310 => by
          have g310' := g310
          try simp only [decide_eq_true_eq, decide_eq_false_iff_not, Bool.not_eq_true', Bool.not_eq_false', Bool.and_eq_true, Bool.or_eq_true, Bool.and_eq_false_iff, Bool.or_eq_false_iff, Int.not_le, Int.not_lt] at g310'
          iterate 3 refine RunL.val (Val.pure rfl) rfl rfl rfl ?_
          exact RunL.segEnd (Sub.cons rfl (Sub.skip rfl (Sub.skip rfl (Sub.skip rfl (Sub.same rfl (by rw [g310]) (Sub.refl _)))))) (List.Sublist.refl _)
        ) (fun g310 => by
          have g310' := g310
          try simp only [decide_eq_true_eq, decide_eq_false_iff_not, Bool.not_eq_true', Bool.not_eq_false', Bool.and_eq_true, Bool.or_eq_true, Bool.and_eq_false_iff, Bool.or_eq_false_iff, Int.not_le, Int.not_lt] at g310'
          refine RunL.no rfl rfl rfl ?_
          refine RunL.no rfl rfl rfl ?_
          refine RunL.val (Val.pure rfl) rfl rfl rfl ?_
          exact RunL.segEnd (Sub.cons rfl (Sub.skip rfl (Sub.skip rfl (Sub.skip rfl (Sub.same rfl (by rw [g310]) (Sub.refl _)))))) (List.Sublist.refl _)
        ) ?_
        refine RunL.val (Val.pure rfl) rfl rfl rfl ?_
        refine RunL.orPart (dj := 314) (dp := 317) 3 rfl (fun g314 => by
          have g314' := g314
          try simp only [decide_eq_true_eq, decide_eq_false_iff_not, Bool.not_eq_true', Bool.not_eq_false', Bool.and_eq_true, Bool.or_eq_true, Bool.and_eq_false_iff, Bool.or_eq_false_iff, Int.not_le, Int.not_lt] at g314'
          iterate 3 refine RunL.val (Val.pure rfl) rfl rfl rfl ?_
          exact RunL.segEnd (Sub.cons rfl (Sub.skip rfl (Sub.skip rfl (Sub.skip rfl (Sub.same rfl (by rw [g314]) (Sub.refl _)))))) (List.Sublist.refl _)
        ) (fun g314 => by
          have g314' := g314
          try simp only [decide_eq_true_eq, decide_eq_false_iff_not, Bool.not_eq_true', Bool.not_eq_false', Bool.and_eq_true, Bool.or_eq_true, Bool.and_eq_false_iff, Bool.or_eq_false_iff, Int.not_le, Int.not_lt] at g314'
          refine RunL.no rfl rfl rfl ?_
          refine RunL.no rfl rfl rfl ?_
          refine RunL.val (Val.pure rfl) rfl rfl rfl ?_
          exact RunL.segEnd (Sub.cons rfl (Sub.skip rfl (Sub.skip rfl (Sub.skip rfl (Sub.same rfl (by rw [g314]) (Sub.refl _)))))) (List.Sublist.refl _)
        ) ?_
        refine RunL.nil ?_
        refine RunE.next ?_
        refine RunC.cond rfl (fun h => absurd h (by rw [more_c8 hp xI hbx hi]; exact Bool.false_ne_true)) ?_
        intro c8
        clear c8
        simp only [fx1, fx2]
        refine RunC.skip ?_
        refine RunE.next ?_
        refine RunC.seq ?_
        refine RunC.region ?_
        refine RunL.val (Val.pure rfl) rfl rfl rfl ?_
        refine RunL.callP (isCall_func rfl ent_31) rfl rfl rfl (fun w hm => rCount_calls (bestS x (allS x)) (best_lt xI.ok hbx) w) ?_
        refine RunL.val (Val.pure rfl) rfl rfl rfl ?_
        refine RunL.callP (isCall_func rfl ent_31) rfl rfl rfl (fun w hm => rCount_calls (bestS p (allS p)) (best_lt hp hbp) w) ?_
        refine RunL.val (Val.pure rfl) rfl rfl rfl ?_
        refine RunL.val (Val.pure rfl) rfl rfl rfl ?_
        refine RunL.andPart (dj := 323) (dp := 325) 2 rfl (fun g323 => by
          have g323' := g323
          try simp only [decide_eq_true_eq, decide_eq_false_iff_not, Bool.not_eq_true', Bool.not_eq_false', Bool.and_eq_true, Bool.or_eq_true, Bool.and_eq_false_iff, Bool.or_eq_false_iff, Int.not_le, Int.not_lt] at g323'
          refine RunL.callP (isCall_func rfl ent_12) rfl rfl rfl (fun w hm => awake_calls w) ?_
          refine RunL.val (Val.pure rfl) rfl rfl rfl ?_
          exact RunL.segEnd (Sub.cons rfl (Sub.skip rfl (Sub.skip rfl (Sub.same rfl (by rw [g323]) (Sub.refl _))))) (List.Sublist.refl _)
        ) (fun g323 => by
          have g323' := g323
          try simp only [decide_eq_true_eq, decide_eq_false_iff_not, Bool.not_eq_true', Bool.not_eq_false', Bool.and_eq_true, Bool.or_eq_true, Bool.and_eq_false_iff, Bool.or_eq_false_iff, Int.not_le, Int.not_lt] at g323'
          refine RunL.no rfl rfl rfl ?_
          refine RunL.val (Val.pure rfl) rfl rfl rfl ?_
          exact RunL.segEnd (Sub.cons rfl (Sub.skip rfl (Sub.skip rfl (Sub.same rfl (by rw [g323]) (Sub.refl _))))) (List.Sublist.refl _)
        ) ?_
        refine RunL.val (Val.pure rfl) rfl rfl rfl ?_
        refine RunL.nil ?_
        refine RunE.next ?_
        refine RunC.ret ?_
        exact RunE.retP (.r1 rfl (.tmp rfl)) (by have h := xI.few hp hbx; simp; omega)
end Go.Proofs.Ythppnhjggdebbaa
