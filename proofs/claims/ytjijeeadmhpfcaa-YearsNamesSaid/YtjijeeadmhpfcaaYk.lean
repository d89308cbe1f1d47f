/- Walk of package years: Fastest. -/
import Derived.Test.YtjijeeadmhpfcaaYj
set_option linter.unusedSimpArgs false
set_option linter.unusedVariables false
namespace Go.Proofs.Ytjijeeadmhpfcaa
open Go Go.Eng Go.Pw1

theorem yFastest_calls (g : Gl) (a : Ga) (W : World) (hG : GIn W g a) : Calls Try.prog 25 #[g.v a] W (Pure (.tuple #[.int .i64 (gFastest g).1, .int .i64 (gFastest g).2]) W) := by
  refine calls_start_marks Try.func25 rfl rfl ?_
  refine RunC.seq ?_
  refine RunC.region ?_
  refine RunL.new (New.box rfl) rfl rfl rfl (fun b1 => ?_)
  refine RunL.new (New.alloc zero_3) rfl rfl rfl (fun b2 => ?_)
  refine RunL.new (New.alloc zero_31) rfl rfl rfl (fun b3 => ?_)
  refine RunL.nil ?_
  refine RunE.next ?_
  refine RunC.seq ?_
  refine RunC.region ?_
  refine RunL.val (Val.pure rfl) rfl rfl rfl ?_
  refine RunL.deferC rfl ?_
  refine RunL.nil ?_
  refine RunE.next ?_
  refine RunC.seq ?_
  refine RunC.region ?_
  refine RunL.val (Val.load_agg rfl (.tail _ (.tail _ (.head _))) ty_28 rfl) rfl rfl rfl ?_
  refine RunL.callTN (isCall_func rfl ent_35) rfl rfl rfl (fun w hm => yopen_calls g a _ w (hG.mono hm)) (fun e15 he15 => ?_) (fun a15 ha15 b15 => ?_)
  · refine RunE.pass_panic ?_
    exact RunE.panMC yFastest_catches ent_65 .here (.r2 rfl (.one rfl (.tail _ (.head _)) ty_3 rfl) (.one rfl (.head _) ty_31 rfl)) (by simp [gFastest, he15])
  obtain ⟨hpf, hps, hll⟩ := openG_pairs ha15
  have hlen := hpf.len
  refine RunL.val (Val.pure rfl) rfl rfl rfl ?_
  refine RunL.nil ?_
  refine RunE.next ?_
  refine RunC.seq ?_
  refine RunC.region ?_
  refine RunL.new (New.alloc zero_3) rfl rfl rfl (fun b5 => ?_)
  refine RunL.new (New.alloc zero_4) rfl rfl rfl (fun b6 => ?_)
  refine RunL.sto (Sto.store rfl rfl (.there .here) ty_3 rfl rfl) rfl rfl ?_
  refine RunL.sto (Sto.store rfl rfl .here ty_4 rfl rfl) rfl rfl ?_
  refine RunL.nil ?_
  refine RunE.next ?_
  refine RunC.seq ?_
  refine RunC.seq ?_
  refine RunC.region ?_
  refine RunL.val (Val.pure rfl) rfl rfl rfl ?_
  refine RunL.callN (isCall_func rfl ent_56) rfl rfl rfl (fun w hm => yseen_calls b15 w) (fun b17 => ?_)
  refine RunL.nil ?_
  refine RunE.next ?_
  refine RunC.block ?_
  refine RunC.rangeH (α := Sn g) (Y := Nat) (N := 100) (S := fun xs => xs = seenA g g.f.things.length) (Sp := fun _ => True) [(b17, _), (b15, _), (b3, _), (b2, _), (b1, _)] (fun x => [.int .i64 (x.1 : Int), z2v (farG g x.1)]) (fun pre => [(b5, .cells [.int .i64 (leastF g (vals pre)).1].toArray 3 (0, 0)), (b6, .cells [.bool (leastF g (vals pre)).2].toArray 4 (0, 0))]) (fun x y q => (8, .pointer (some ⟨y, 0, none⟩)) :: q) (fun x y => [(y, .cells (z2c (farG g x.1)).toArray 72 (0, 0))]) (fun _ _ _ => False) (Sub.cons (t := 2) rfl (Sub.cons (t := 4) rfl (Sub.cons (t := 5) rfl (Sub.cons (t := 6) rfl (Sub.nil _))))) (.cons (.there (.there .here)) rfl (.cons (.there .here) rfl (.cons .here rfl (.cons .here rfl (.cons .here rfl (.cons .here rfl (.cons .here rfl .nil))))))) (fun _ => rfl) (fun _ _ _ hb => by simp only [List.mem_cons, List.not_mem_nil, or_false, Prod.mk.injEq] at hb; rcases hb with ⟨_, rfl⟩ | ⟨_, rfl⟩ <;> rfl) (fun _ _ _ _ hb => by simp only [List.mem_cons, List.not_mem_nil, or_false, Prod.mk.injEq] at hb; obtain ⟨_, rfl⟩ := hb; rfl) (fun _ => rfl) rfl rfl ent_81 (fun w hm => seen_stops g a b15 b17 w _ hlen ⟨hm.at (.tail _ (.tail _ (.tail _ (.head _)))), hm.at (.tail _ (.tail _ (.head _))), hG.mono hm⟩ ⟨hm.apart (.tail _ (.head _)), hm.apart (.head _), fun hx => hm.oldApart (hG.s1.lt0 (by decide) hx), fun hx => hm.oldApart (hG.s2.lt0 (by decide) hx)⟩) ?_ ?_ ?_ ?_
  · intro l1 pre x V1 hV1
    refine RunCR.regionP ?_
    refine RunL.new (New.alloc zero_72) rfl rfl rfl (fun b8 => ?_)
    refine RunL.sto (Sto.store rfl rfl .here ty_72 rfl rfl) rfl rfl ?_
    refine RunL.nil ?_
    exact RunE.asg b8 rfl (Sub.consE (t := 8) rfl rfl (Sub.cons (t := 2) rfl (Sub.cons (t := 4) rfl (Sub.cons (t := 5) rfl (Sub.cons (t := 6) rfl (Sub.nil _)))))) (.cons .here rfl .nil)
  · intro l1 pre x y W1 hlen1 hI1 hL1 hAp1
    have hv1_b17 := hI1.at (.tail _ (.tail _ (.head _)))
    have hn1_b17 := hAp1 _ (.inl ⟨_, (.head _)⟩)
    have hv1_b15 := hI1.at (.tail _ (.tail _ (.tail _ (.head _))))
    have hn1_b15 := hAp1 _ (.inl ⟨_, (.tail _ (.head _))⟩)
    have hv1_b3 := hI1.at (.tail _ (.tail _ (.tail _ (.tail _ (.head _)))))
    have hn1_b3 := hAp1 _ (.inl ⟨_, (.tail _ (.tail _ (.head _)))⟩)
    have hv1_b2 := hI1.at (.tail _ (.tail _ (.tail _ (.tail _ (.tail _ (.head _))))))
    have hn1_b2 := hAp1 _ (.inl ⟨_, (.tail _ (.tail _ (.tail _ (.head _))))⟩)
    have hv1_b1 := hI1.at (.tail _ (.tail _ (.tail _ (.tail _ (.tail _ (.tail _ (.head _)))))))
    have hn1_b1 := hAp1 _ (.inl ⟨_, (.tail _ (.tail _ (.tail _ (.tail _ (.head _)))))⟩)
    obtain ⟨hz1, hz2, hz3, hz4⟩ := farG_ok g x.1
    refine RunCR.block ?_
    refine RunCR.seq ?_
    refine RunCR.regionP ?_
    refine RunL.val (Val.indexAddr_arr rfl rfl arr_72 (by decide) (by decide)) rfl rfl rfl ?_
    refine RunL.val (Val.load_agg rfl (.tail _ (.tail _ (.head _))) ty_64 rfl) rfl rfl rfl ?_
    refine RunL.val (Val.pure rfl) rfl rfl rfl ?_
    refine RunL.val (Val.pure rfl) rfl rfl rfl ?_
    refine RunL.nil ?_
    refine RunER.next ?_
    refine RunCR.seq ?_
    refine RunCR.regionP ?_
    refine RunL.val (Val.pure rfl) rfl rfl rfl ?_
    refine RunL.val (Val.indexAddr_arr rfl rfl arr_72 (by decide) (by decide)) rfl rfl rfl ?_
    refine RunL.val (Val.load_agg rfl (.tail _ (.tail _ (.head _))) ty_64 rfl) rfl rfl rfl ?_
    refine RunL.callP (isCall_value rfl rfl ent_57) rfl rfl rfl (fun w hm => yless_calls (farG g x.1).2 (farG g x.1).1 (by omega) w) ?_
    refine RunL.new (New.alloc zero_64) rfl rfl rfl (fun b10 => ?_)
    refine RunL.sto (Sto.store rfl rfl .here ty_64 rfl rfl) rfl rfl ?_
    refine RunL.nil ?_
    refine RunER.next ?_
    refine RunCR.seq ?_
    refine RunCR.regionP ?_
    refine RunL.val (Val.load_one rfl (.tail _ (.head _)) ty_4 rfl) rfl rfl rfl ?_
    refine RunL.val (Val.pure rfl) rfl rfl rfl ?_
    refine RunL.val (Val.pure rfl) rfl rfl rfl ?_
    refine RunL.orPart (dj := 29) (dp := 34) 5 rfl (fun g29 => by
      have g29' := g29
      try simp only [decide_eq_true_eq, decide_eq_false_iff_not, Bool.not_eq_true', Bool.not_eq_false', Bool.and_eq_true, Bool.or_eq_true, Bool.and_eq_false_iff, Bool.or_eq_false_iff, Int.not_le, Int.not_lt] at g29'
      refine RunL.val (Val.fieldAddr rfl fld_64_1) rfl rfl rfl ?_
      refine RunL.val (Val.load_one rfl (.tail _ (.tail _ (.tail _ (.head _)))) ty_3 rfl) rfl rfl rfl ?_
      refine RunL.val (Val.load_one rfl (.head _) ty_3 rfl) rfl rfl rfl ?_
      refine RunL.val (Val.pure rfl) rfl rfl rfl ?_
      refine RunL.val (Val.pure rfl) rfl rfl rfl ?_
      exact RunL.segEnd (Sub.cons rfl (Sub.skip rfl (Sub.skip rfl (Sub.skip rfl (Sub.skip rfl (Sub.skip rfl (Sub.same rfl (by rw [g29]) (Sub.refl _)))))))) (List.Sublist.refl _)
    ) (fun g29 => by
      have g29' := g29
      try simp only [decide_eq_true_eq, decide_eq_false_iff_not, Bool.not_eq_true', Bool.not_eq_false', Bool.and_eq_true, Bool.or_eq_true, Bool.and_eq_false_iff, Bool.or_eq_false_iff, Int.not_le, Int.not_lt] at g29'
      iterate 4 refine RunL.no rfl rfl rfl ?_
      refine RunL.val (Val.pure rfl) rfl rfl rfl ?_
      exact RunL.segEnd (Sub.cons rfl (Sub.skip rfl (Sub.skip rfl (Sub.skip rfl (Sub.skip rfl (Sub.skip rfl (Sub.same rfl (by rw [g29]) (Sub.refl _)))))))) (List.Sublist.refl _)
    ) ?_
    refine RunL.nil ?_
    refine RunER.next ?_
    refine RunCR.cond rfl ?_ ?_
    · intro c0
      have c0' := c0; clear c0
      try simp only [decide_eq_true_eq, decide_eq_false_iff_not, Bool.not_eq_true', Bool.not_eq_false', Bool.and_eq_true, Bool.or_eq_true, Bool.and_eq_false_iff, Bool.or_eq_false_iff, Int.not_le, Int.not_lt] at c0'
      have hs0 : (!(leastF g (vals pre)).2 || decide ((mvZ g x.1).2 < (leastF g (vals pre)).1)) = true := by
        simp only [Bool.or_eq_true, Bool.not_eq_true', decide_eq_true_eq]; exact c0'
      refine RunCR.regionP ?_
      refine RunL.val (Val.fieldAddr rfl fld_64_1) rfl rfl rfl ?_
      refine RunL.val (Val.load_one rfl (.tail _ (.tail _ (.tail _ (.head _)))) ty_3 rfl) rfl rfl rfl ?_
      refine RunL.sto (Sto.store_chg rfl rfl .here ty_3 rfl rfl) rfl rfl ?_
      refine RunL.sto (Sto.store_chg rfl rfl (.there .here) ty_4 rfl rfl) rfl rfl ?_
      refine RunL.nil ?_
      refine RunE.block_normal ?_
      exact RunE.bodyX [(y, _)] (by simp only [vals_snoc, leastF_snoc, hs0, if_true, if_false, Bool.false_eq_true]; rfl)
    · intro c0
      have c0' := c0; clear c0
      try simp only [decide_eq_true_eq, decide_eq_false_iff_not, Bool.not_eq_true', Bool.not_eq_false', Bool.and_eq_true, Bool.or_eq_true, Bool.and_eq_false_iff, Bool.or_eq_false_iff, Int.not_le, Int.not_lt] at c0'
      have hs0 : (!(leastF g (vals pre)).2 || decide ((mvZ g x.1).2 < (leastF g (vals pre)).1)) = false := by
        simp only [Bool.or_eq_false_iff, Bool.not_eq_false', decide_eq_false_iff_not]; exact ⟨c0'.1, Int.not_lt.2 c0'.2⟩
      refine RunCR.skip ?_
      refine RunE.block_normal ?_
      exact RunE.bodyX [(y, _)] (by simp only [vals_snoc, leastF_snoc, hs0, if_true, if_false, Bool.false_eq_true]; rfl)
  · intro xs bD0 hXS
    obtain rfl := hXS
    rw [show vals (seenA g g.f.things.length) = seenL g from seenA_vals g _]
    refine RunE.block_normal ?_
    refine RunE.next ?_
    refine RunC.seq ?_
    refine RunC.seq ?_
    refine RunC.region ?_
    refine RunL.val (Val.pure rfl) rfl rfl rfl ?_
    refine RunL.callN (isCall_func rfl ent_56) rfl rfl rfl (fun w hm => yseen_calls b15 w) (fun b38 => ?_)
    refine RunL.nil ?_
    refine RunE.next ?_
    refine RunC.block ?_
    refine RunC.rangeH (α := Sn g) (Y := Nat) (N := 100) (S := fun xs => xs = seenA g g.f.things.length) (Sp := fun _ => True) [(b38, _), (bD0, _), (b5, _), (b6, _), (b17, _), (b15, _), (b3, _), (b1, _)] (fun x => [.int .i64 (x.1 : Int), z2v (farG g x.1)]) (fun pre => [(b2, .cells [.int .i64 ((setL (fun i => decide ((mvZ g i).1 ≤ (leastF g (seenL g)).1)) (vals pre) : Nat) : Int)].toArray 3 (0, 0))]) (fun x y q => (11, .int .i64 (x.1 : Int)) :: (12, .pointer (some ⟨y, 0, none⟩)) :: q) (fun x y => [(y, .cells (z2c (farG g x.1)).toArray 72 (0, 0))]) (fun _ _ _ => False) (Sub.cons (t := 2) rfl (Sub.cons (t := 4) rfl (Sub.cons (t := 5) rfl (Sub.nil _)))) (.cons (.there (.there (.there (.there (.there (.there (.there .here))))))) rfl (.cons .here rfl (.cons .here rfl (.cons .here rfl (.cons .here rfl (.cons .here rfl (.cons .here rfl (.cons .here rfl (.cons .here rfl .nil))))))))) (fun _ => rfl) (fun _ _ _ hb => by simp only [List.mem_cons, List.not_mem_nil, or_false, Prod.mk.injEq] at hb; obtain ⟨_, rfl⟩ := hb; rfl) (fun _ _ _ _ hb => by simp only [List.mem_cons, List.not_mem_nil, or_false, Prod.mk.injEq] at hb; obtain ⟨_, rfl⟩ := hb; rfl) (fun _ => rfl) rfl rfl ent_81 (fun w hm => seen_stops g a b15 b38 w _ hlen ⟨hm.at (.tail _ (.tail _ (.tail _ (.tail _ (.tail _ (.tail _ (.head _))))))), hm.at (.tail _ (.head _)), hG.mono hm⟩ ⟨hm.apart (.tail _ (.tail _ (.tail _ (.tail _ (.tail _ (.head _)))))), hm.apart (.head _), fun hx => hm.oldApart (hG.s1.lt0 (by decide) hx), fun hx => hm.oldApart (hG.s2.lt0 (by decide) hx)⟩) ?_ ?_ ?_ ?_
    · intro l1 pre x V1 hV1
      refine RunCR.seq ?_
      refine RunCR.regionP ?_
      refine RunL.val (Val.pure rfl) rfl rfl rfl ?_
      refine RunL.nil ?_
      refine RunER.next ?_
      refine RunCR.regionP ?_
      refine RunL.new (New.alloc zero_72) rfl rfl rfl (fun b12 => ?_)
      refine RunL.sto (Sto.store rfl rfl .here ty_72 rfl rfl) rfl rfl ?_
      refine RunL.nil ?_
      exact RunE.asg b12 rfl (Sub.consE (t := 11) rfl rfl (Sub.consE (t := 12) rfl rfl (Sub.cons (t := 2) rfl (Sub.cons (t := 4) rfl (Sub.cons (t := 5) rfl (Sub.nil _)))))) (.cons .here rfl .nil)
    · intro l1 pre x y W1 hlen1 hI1 hL1 hAp1
      have hv1_b38 := hI1.at (.tail _ (.head _))
      have hn1_b38 := hAp1 _ (.inl ⟨_, (.head _)⟩)
      have hv1_bD0 := hI1.at (.tail _ (.tail _ (.head _)))
      have hn1_bD0 := hAp1 _ (.inl ⟨_, (.tail _ (.head _))⟩)
      have hv1_b5 := hI1.at (.tail _ (.tail _ (.tail _ (.head _))))
      have hn1_b5 := hAp1 _ (.inl ⟨_, (.tail _ (.tail _ (.head _)))⟩)
      have hv1_b6 := hI1.at (.tail _ (.tail _ (.tail _ (.tail _ (.head _)))))
      have hn1_b6 := hAp1 _ (.inl ⟨_, (.tail _ (.tail _ (.tail _ (.head _))))⟩)
      have hv1_b17 := hI1.at (.tail _ (.tail _ (.tail _ (.tail _ (.tail _ (.head _))))))
      have hn1_b17 := hAp1 _ (.inl ⟨_, (.tail _ (.tail _ (.tail _ (.tail _ (.head _)))))⟩)
      have hv1_b15 := hI1.at (.tail _ (.tail _ (.tail _ (.tail _ (.tail _ (.tail _ (.head _)))))))
      have hn1_b15 := hAp1 _ (.inl ⟨_, (.tail _ (.tail _ (.tail _ (.tail _ (.tail _ (.head _))))))⟩)
      have hv1_b3 := hI1.at (.tail _ (.tail _ (.tail _ (.tail _ (.tail _ (.tail _ (.tail _ (.head _))))))))
      have hn1_b3 := hAp1 _ (.inl ⟨_, (.tail _ (.tail _ (.tail _ (.tail _ (.tail _ (.tail _ (.head _)))))))⟩)
      have hv1_b1 := hI1.at (.tail _ (.tail _ (.tail _ (.tail _ (.tail _ (.tail _ (.tail _ (.tail _ (.head _)))))))))
      have hn1_b1 := hAp1 _ (.inl ⟨_, (.tail _ (.tail _ (.tail _ (.tail _ (.tail _ (.tail _ (.tail _ (.head _))))))))⟩)
      obtain ⟨hz1, hz2, hz3, hz4⟩ := farG_ok g x.1
      have hx12 := sn_lt hlen x
      have hp1 := setL_lt12 (p := fun i => decide ((mvZ g i).1 ≤ (leastF g (seenL g)).1)) hlen pre
      have h2x : 2 ^ x.1 < 2 ^ 12 := Nat.pow_lt_pow_right (by decide) hx12
      refine RunCR.block ?_
      refine RunCR.seq ?_
      refine RunCR.draw 7 fol_ .nil ?_
      refine RunA.val (i := 0) rfl (by kernel_rfl) (by kernel_rfl) (Val.indexAddr_arr rfl rfl arr_72 (by decide) (by decide)) rfl rfl rfl (fun _ _ _ h => h) .nil rfl ?_
      refine RunA.val (i := 1) rfl (by kernel_rfl) (by kernel_rfl) (Val.load_agg rfl (.tail _ (.head _)) ty_64 rfl) rfl rfl rfl (fun _ _ _ h => h) .nil rfl ?_
      refine RunA.val (i := 2) rfl (by kernel_rfl) (by kernel_rfl) (Val.indexAddr_arr rfl rfl arr_72 (by decide) (by decide)) rfl rfl rfl (fun _ _ _ h => h) .nil rfl ?_
      refine RunA.val (i := 3) rfl (by kernel_rfl) (by kernel_rfl) (Val.load_agg rfl (.tail _ (.head _)) ty_64 rfl) rfl rfl rfl (fun _ _ _ h => h) .nil rfl ?_
      refine RunA.val (i := 6) rfl (by kernel_rfl) (by kernel_rfl) (Val.oload_one rfl hv1_b5 (notin_of rfl hn1_b5) ty_3 rfl) rfl rfl rfl (fun _ _ _ h => h) .nil rfl ?_
      refine RunA.one (i := 4) (by kernel_rfl) (by kernel_rfl) ?_
      refine RunI.callP rfl (isCall_func rfl ent_57) rfl rfl rfl (fun w hm => yless_calls (farG g x.1).2 (farG g x.1).1 (by omega) w) (RunK.toA .nil .nil rfl ?_)
      refine RunA.val (i := 5) rfl (by kernel_rfl) (by kernel_rfl) (Val.field rfl field1_64_0 rfl) rfl rfl rfl (fun _ _ _ h => h) .nil rfl ?_
      refine RunA.toB (by kernel_rfl) ?_
      refine RunB.one (i := 7) (by kernel_rfl) ?_
      refine RunI.val rfl (Val.pure rfl) rfl rfl rfl (RunK.toB ?_)
      refine RunB.done (by kernel_rfl) ?_
      refine RunER.next ?_
      refine RunCR.cond rfl ?_ ?_
      · intro c1
        have c1' := c1; clear c1
        try simp only [decide_eq_true_eq, decide_eq_false_iff_not, Bool.not_eq_true', Bool.not_eq_false', Bool.and_eq_true, Bool.or_eq_true, Bool.and_eq_false_iff, Bool.or_eq_false_iff, Int.not_le, Int.not_lt] at c1'
        have hs1 : decide ((mvZ g x.1).1 ≤ (leastF g (seenL g)).1) = true := decide_eq_true c1'
        refine RunCR.draw 3 fol_ .nil ?_
        refine RunA.val (i := 0) rfl (by kernel_rfl) (by kernel_rfl) (Val.load_one rfl (.head _) ty_3 rfl) rfl rfl rfl (fun _ _ _ h => h) .nil rfl ?_
        refine RunA.val (i := 1) rfl (by kernel_rfl) (by kernel_rfl) (Val.pure rfl) rfl rfl rfl (fun _ _ _ h => h) .nil rfl ?_
        refine RunA.val (i := 2) rfl (by kernel_rfl) (by kernel_rfl) (Val.shl1 (b := x.1) rfl rfl (by show x.1 ≤ 64; omega) (i64_inN (n := 2 ^ x.1) (by omega))) rfl rfl rfl (fun _ _ _ h => h) .nil rfl ?_
        refine RunA.toB (by kernel_rfl) ?_
        refine RunB.one (i := 3) (by kernel_rfl) ?_
        refine RunI.val rfl (Val.or (a := setL _ (vals pre)) (b := 2 ^ x.1) rfl rfl (by show _ < 18446744073709551616; omega) (by show _ < 18446744073709551616; omega) (i64_inN (Nat.lt_trans (or_lt12 hp1 hx12) (by decide)))) rfl rfl rfl (RunK.toB ?_)
        refine RunB.one (i := 4) (by kernel_rfl) ?_
        refine RunI.sto rfl (Sto.store_chg rfl rfl .here ty_3 rfl rfl) rfl rfl (RunK.toB ?_)
        refine RunB.done (by kernel_rfl) ?_
        refine RunE.block_normal ?_
        exact RunE.bodyX [(y, _)] (by simp only [vals_snoc, setL_snoc, hs1, if_true, if_false, Bool.false_eq_true]; rfl)
      · intro c1
        have c1' := c1; clear c1
        try simp only [decide_eq_true_eq, decide_eq_false_iff_not, Bool.not_eq_true', Bool.not_eq_false', Bool.and_eq_true, Bool.or_eq_true, Bool.and_eq_false_iff, Bool.or_eq_false_iff, Int.not_le, Int.not_lt] at c1'
        have hs1 : decide ((mvZ g x.1).1 ≤ (leastF g (seenL g)).1) = false := decide_eq_false (Int.not_le.2 c1')
        refine RunCR.skip ?_
        refine RunE.block_normal ?_
        exact RunE.bodyX [(y, _)] (by simp only [vals_snoc, setL_snoc, hs1, if_true, if_false, Bool.false_eq_true]; rfl)
    · intro xs bD1 hXS
      obtain rfl := hXS
      rw [show vals (seenA g g.f.things.length) = seenL g from seenA_vals g _]
      refine RunE.block_normal ?_
      refine RunE.next ?_
      refine RunC.seq ?_
      refine RunC.region ?_
      refine RunL.val (Val.load_one rfl (.tail _ (.head _)) ty_3 rfl) rfl rfl rfl ?_
      refine RunL.sto (Sto.store rfl rfl (.there .here) ty_3 rfl rfl) rfl rfl ?_
      refine RunL.sto (Sto.store rfl rfl (.there (.there (.there (.there (.there (.there (.there (.there .here)))))))) ty_31 rfl rfl) rfl rfl ?_
      refine RunL.nil ?_
      refine RunE.next ?_
      refine RunC.ret ?_
      exact RunE.outMC [bD1, bD0] yFastest_catches ent_65 (.cons .here rfl (.cons (.there (.there .here)) rfl (.cons .here rfl (.cons .here rfl (.cons .here rfl (.cons .here rfl (.cons .here rfl (.cons .here rfl (.cons .here rfl (.cons .here rfl .nil)))))))))) (.r2 rfl (.one rfl (.head _) ty_3 rfl) (.one rfl (.tail _ (.tail _ (.tail _ (.tail _ (.tail _ (.tail _ (.head _))))))) ty_31 rfl)) (out_pure (by simp only [gFastest, ha15]))
    · intro c pre V' bD1 hSp hNm hSt
      exact hSt.elim
  · intro c pre V' bD0 hSp hNm hSt
    exact hSt.elim
end Go.Proofs.Ytjijeeadmhpfcaa
