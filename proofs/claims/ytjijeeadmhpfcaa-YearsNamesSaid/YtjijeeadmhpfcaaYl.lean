/- Walk of package years: Alike. -/
import Derived.Test.YtjijeeadmhpfcaaYk
import Derived.Test.YtjijeeadmhpfcaaPi
import Derived.Test.YtjijeeadmhpfcaaMore4
set_option linter.unusedSimpArgs false
set_option linter.unusedVariables false
namespace Go.Proofs.Ytjijeeadmhpfcaa
open Go Go.Eng Go.Pw1

theorem offer_calls (best s : Nat) (hb : best < 4096) (hs : s < 4096) (b : Nat) (W : World) (hB : W.heap[b]? = some (.cells [.int .i64 (best : Int)].toArray 3 (0, 0))) :
    Calls Try.prog 54 #[.int .i64 (s : Int), .pointer (some ⟨b, 0, none⟩)] W (TurnsX b (.cells [.int .i64 (offerS best s : Int)].toArray 3 (0, 0)) (fun _ : Unit => .tuple #[]) (fun _ => True) W) := by
  refine calls_start_chg hB Try.func54 rfl rfl ?_
  refine RunC.seq ?_
  refine RunC.draw 5 fol_ .nil ?_
  refine RunA.val (i := 0) rfl (by kernel_rfl) (by kernel_rfl) (Val.pure rfl) rfl rfl rfl (fun _ _ _ h => h) .nil rfl ?_
  refine RunA.val (i := 1) rfl (by kernel_rfl) (by kernel_rfl) (Val.convInt rfl und_3 und_82 (u64_in (n := s) (by omega))) rfl rfl rfl (fun _ _ _ h => h) .nil rfl ?_
  refine RunA.val (i := 3) rfl (by kernel_rfl) (by kernel_rfl) (Val.load_one rfl (.head _) ty_3 rfl) rfl rfl rfl (fun _ _ _ h => h) .nil rfl ?_
  refine RunA.val (i := 4) rfl (by kernel_rfl) (by kernel_rfl) (Val.convInt rfl und_3 und_82 (u64_in (n := best) (by omega))) rfl rfl rfl (fun _ _ _ h => h) .nil rfl ?_
  refine RunA.one (i := 2) (by kernel_rfl) (by kernel_rfl) ?_
  refine RunI.callP rfl (isCall_func rfl ent_55) rfl rfl rfl (fun w hm => ones_calls s hs w) (RunK.toA .nil .nil rfl ?_)
  refine RunA.toB (by kernel_rfl) ?_
  refine RunB.one (i := 5) (by kernel_rfl) ?_
  refine RunI.callP rfl (isCall_func rfl ent_55) rfl rfl rfl (fun w hm => ones_calls best hb w) (RunK.toB ?_)
  refine RunB.one (i := 6) (by kernel_rfl) ?_
  refine RunI.val rfl (Val.pure rfl) rfl rfl rfl (RunK.toB ?_)
  refine RunB.one (i := 7) (by kernel_rfl) ?_
  refine RunI.val rfl (Val.pure rfl) rfl rfl rfl (RunK.toB ?_)
  refine RunB.done (by kernel_rfl) ?_
  refine RunE.next ?_
  refine RunC.seq ?_
  refine RunC.region ?_
  iterate 4 refine RunL.val (Val.pure rfl) rfl rfl rfl ?_
  refine RunL.orPart (dj := 14) (dp := 23) 9 rfl (fun g14 => by
    have g14' := g14
    try simp only [decide_eq_true_eq, decide_eq_false_iff_not, Bool.not_eq_true', Bool.not_eq_false', Bool.and_eq_true, Bool.or_eq_true, Bool.and_eq_false_iff, Bool.or_eq_false_iff, Int.not_le, Int.not_lt] at g14'
    iterate 4 refine RunL.val (Val.pure rfl) rfl rfl rfl ?_
    refine RunL.andPart (dj := 18) (dp := 22) 4 rfl (fun g18 => by
      have g18' := g18
      try simp only [decide_eq_true_eq, decide_eq_false_iff_not, Bool.not_eq_true', Bool.not_eq_false', Bool.and_eq_true, Bool.or_eq_true, Bool.and_eq_false_iff, Bool.or_eq_false_iff, Int.not_le, Int.not_lt] at g18'
      refine RunL.val (Val.pure rfl) rfl rfl rfl ?_
      refine RunL.val (Val.load_one rfl (.head _) ty_3 rfl) rfl rfl rfl ?_
      refine RunL.val (Val.pure rfl) rfl rfl rfl ?_
      refine RunL.val (Val.pure rfl) rfl rfl rfl ?_
      exact RunL.segEnd (Sub.cons rfl (Sub.skip rfl (Sub.skip rfl (Sub.skip rfl (Sub.skip rfl (Sub.same rfl (by rw [g18]) (Sub.refl _))))))) (List.Sublist.refl _)
    ) (fun g18 => by
      have g18' := g18
      try simp only [decide_eq_true_eq, decide_eq_false_iff_not, Bool.not_eq_true', Bool.not_eq_false', Bool.and_eq_true, Bool.or_eq_true, Bool.and_eq_false_iff, Bool.or_eq_false_iff, Int.not_le, Int.not_lt] at g18'
      iterate 3 refine RunL.no rfl rfl rfl ?_
      refine RunL.val (Val.pure rfl) rfl rfl rfl ?_
      exact RunL.segEnd (Sub.cons rfl (Sub.skip rfl (Sub.skip rfl (Sub.skip rfl (Sub.skip rfl (Sub.same rfl (by rw [g18]) (Sub.refl _))))))) (List.Sublist.refl _)
    ) ?_
    refine RunL.val (Val.pure rfl) rfl rfl rfl ?_
    exact RunL.segEnd (Sub.cons rfl (Sub.skip rfl (Sub.skip rfl (Sub.skip rfl (Sub.skip rfl (Sub.skip rfl (Sub.skip rfl (Sub.same rfl (by rw [g14]) (Sub.refl _))))))))) (List.Sublist.refl _)
  ) (fun g14 => by
    have g14' := g14
    try simp only [decide_eq_true_eq, decide_eq_false_iff_not, Bool.not_eq_true', Bool.not_eq_false', Bool.and_eq_true, Bool.or_eq_true, Bool.and_eq_false_iff, Bool.or_eq_false_iff, Int.not_le, Int.not_lt] at g14'
    iterate 8 refine RunL.no rfl rfl rfl ?_
    refine RunL.val (Val.pure rfl) rfl rfl rfl ?_
    exact RunL.segEnd (Sub.cons rfl (Sub.skip rfl (Sub.skip rfl (Sub.skip rfl (Sub.skip rfl (Sub.skip rfl (Sub.skip rfl (Sub.skip rfl (Sub.skip rfl (Sub.skip rfl (Sub.same rfl (by rw [g14]) (Sub.refl _)))))))))))) (List.Sublist.refl _)
  ) ?_
  refine RunL.nil ?_
  refine RunE.next ?_
  refine RunC.cond rfl ?_ ?_
  · intro c0
    have c0' := c0; clear c0
    try simp only [decide_eq_true_eq, decide_eq_false_iff_not, Bool.not_eq_true', Bool.not_eq_false', Bool.and_eq_true, Bool.or_eq_true, Bool.and_eq_false_iff, Bool.or_eq_false_iff, Int.not_le, Int.not_lt] at c0'
    have ho : offerS best s = s := by
      unfold offerS
      rw [if_pos (by omega)]
    refine RunC.region ?_
    refine RunL.val (Val.pure rfl) rfl rfl rfl ?_
    refine RunL.sto (Sto.store_chg rfl rfl .here ty_3 rfl rfl) rfl rfl ?_
    refine RunL.nil ?_
    exact RunE.fin (chg := [(b, _)]) (.r0 rfl) (fun _ hm => ⟨(), trivial, rfl, by rw [ho]; exact hm.drop⟩)
  · intro c0
    have c0' := c0; clear c0
    try simp only [decide_eq_true_eq, decide_eq_false_iff_not, Bool.not_eq_true', Bool.not_eq_false', Bool.and_eq_true, Bool.or_eq_true, Bool.and_eq_false_iff, Bool.or_eq_false_iff, Int.not_le, Int.not_lt] at c0'
    have ho : offerS best s = best := by
      unfold offerS
      rw [if_neg (by omega)]
    refine RunC.skip ?_
    exact RunE.fin (chg := [(b, _)]) (.r0 rfl) (fun _ hm => ⟨(), trivial, rfl, by rw [ho]; exact hm.drop⟩)
theorem alikeS_lt {g : Gl} (hlen : g.f.things.length ≤ 12) (even : Int) (i : Nat) : alikeS g even i < 4096 := by
  refine setL_lt (m := 12) (fun j hj => ?_)
  have := (seenL_mem.1 hj).1
  omega
theorem alikeL_lt {g : Gl} (hlen : g.f.things.length ≤ 12) (even : Int) (l : List Nat) : alikeL g even l < 4096 := by
  have key : ∀ (l : List Nat) (b : Nat), b < 4096 → l.foldl (fun b i => offerS b (alikeS g even i)) b < 4096 := by
    intro l
    induction l with
    | nil => intro b hb; exact hb
    | cons i l ih =>
      intro b hb
      refine ih _ ?_
      show offerS b (alikeS g even i) < 4096
      unfold offerS
      split
      · exact alikeS_lt hlen even i
      · exact hb
  exact key l 0 (by decide)
theorem setL_ltS {g : Gl} {p : Nat → Bool} (hlen : g.f.things.length ≤ 12) (pre : List (Sn g)) : setL p (vals pre) < 4096 := setL_lt12 hlen pre
set_option maxHeartbeats 1000000 in
theorem yAlike_calls (g : Gl) (a : Ga) (even : Int) (W : World) (hG : GIn W g a) : Calls Try.prog 20 #[g.v a, .int .i64 even] W (Pure (.tuple #[.int .i64 (gAlike g even).1, .int .i64 (gAlike g even).2]) W) := by
  refine calls_start_marks Try.func20 rfl rfl ?_
  refine RunC.seq ?_
  refine RunC.region ?_
  refine RunL.new (New.box rfl) rfl rfl rfl (fun b2 => ?_)
  refine RunL.new (New.box rfl) rfl rfl rfl (fun b3 => ?_)
  refine RunL.new (New.alloc zero_3) rfl rfl rfl (fun b4 => ?_)
  refine RunL.new (New.alloc zero_31) rfl rfl rfl (fun b5 => ?_)
  refine RunL.nil ?_
  refine RunE.next ?_
  refine RunC.seq ?_
  refine RunC.region ?_
  refine RunL.val (Val.pure rfl) rfl rfl rfl ?_
  refine RunL.deferC rfl ?_
  refine RunL.nil ?_
  refine RunE.next ?_
  refine RunC.seq ?_
  refine RunC.drawPX (X := Nat × Nat) 5 (n0 := [(b5, _), (b4, _), (b3, _), (b2, _)]) (fun y q => (6, .pointer (some ⟨y.1, 0, none⟩)) :: q) (fun y => []) (fun y => [(y.1, .cells [.pointer (some ⟨y.2, 0, none⟩)].toArray 65 (0, 0)), (y.2, .cells (g.cells a).toArray 110 (0, 0))]) (fun y => []) (fun y => openG g (within even 0 1073741824) = .ok ()) fol_ (.cons .here rfl (.cons .here rfl (.cons .here rfl (.cons .here rfl .nil)))) (Sub.cons (t := 2) rfl (Sub.cons (t := 3) rfl (Sub.cons (t := 4) rfl (Sub.cons (t := 5) rfl (Sub.nil _))))) (.cons .here rfl (.cons .here rfl (.cons .here rfl (.cons .here rfl .nil)))) ?_ ?_
  · refine RunA.val (i := 0) rfl (by kernel_rfl) (by kernel_rfl) (Val.load_agg rfl (.tail _ (.tail _ (.tail _ (.head _)))) ty_28 rfl) rfl rfl rfl (PanQ.back rfl) (.cons .here rfl (.cons .here rfl (.cons .here rfl (.cons .here rfl .nil)))) rfl ?_
    refine RunA.val (i := 1) rfl (by kernel_rfl) (by kernel_rfl) (Val.load_one rfl (.tail _ (.tail _ (.head _))) ty_3 rfl) rfl rfl rfl (PanQ.back rfl) (.cons .here rfl (.cons .here rfl (.cons .here rfl (.cons .here rfl .nil)))) rfl ?_
    refine RunA.all (rs := [2, 4]) (by kernel_rfl) (by simp) (by kernel_rfl) (fun m hm => ?_)
    simp only [List.mem_cons, List.not_mem_nil, or_false] at hm
    rcases hm with rfl | rfl
    · refine RunI.callP rfl (isCall_func rfl ent_53) rfl rfl rfl (fun w hm => ywithin_calls _ _ _ w) (RunK.toA (.cons .here rfl (.cons .here rfl (.cons .here rfl (.cons .here rfl .nil)))) (.cons .here rfl (.cons .here rfl (.cons .here rfl (.cons .here rfl .nil)))) rfl ?_)
      refine RunA.all (rs := [3, 4]) (by kernel_rfl) (by simp) (by kernel_rfl) (fun m hm => ?_)
      simp only [List.mem_cons, List.not_mem_nil, or_false] at hm
      rcases hm with rfl | rfl
      · refine RunI.callTN rfl (isCall_func rfl ent_35) rfl rfl rfl (fun w hm => yopen_calls g a _ w (hG.mono hm)) (fun e19 he19 => ?_) (fun a19 ha19 b19 => (RunK.toA (.cons .here rfl (.cons .here rfl (.cons .here rfl (.cons .here rfl (.cons .here rfl .nil))))) (.cons (.there .here) rfl (.cons (.there .here) rfl (.cons (.there .here) rfl (.cons (.there .here) rfl .nil)))) rfl ?_))
        · refine RunE.panQ_panic (Sub.skip rfl (Sub.skip rfl (Sub.skip rfl (Sub.refl _)))) (.cons .here rfl (.cons .here rfl (.cons .here rfl (.cons .here rfl .nil)))) ?_
          refine RunE.seg_panic ?_
          refine RunE.pass_panic ?_
          exact RunE.panMC yAlike_catches ent_52 .here (.r2 rfl (.one rfl (.tail _ (.head _)) ty_3 rfl) (.one rfl (.head _) ty_31 rfl)) (by simp [gAlike, he19])
        refine RunA.one (i := 4) (by kernel_rfl) (by kernel_rfl) ?_
        refine RunI.new rfl (New.alloc zero_65) rfl rfl rfl (fun b6 => (RunK.toA (.cons .here rfl (.cons .here rfl (.cons .here rfl (.cons .here rfl (.cons .here rfl (.cons .here rfl .nil)))))) (.cons (.there .here) rfl (.cons (.there .here) rfl (.cons (.there .here) rfl (.cons (.there .here) rfl (.cons (.there .here) rfl .nil))))) rfl ?_))
        refine RunA.toB (by kernel_rfl) ?_
        refine RunB.one (i := 5) (by kernel_rfl) ?_
        refine RunI.sto rfl (Sto.store rfl rfl .here ty_65 rfl rfl) rfl rfl (RunK.toB ?_)
        refine RunB.done (by kernel_rfl) ?_
        refine RunE.panQ_normal ?_
        exact RunE.joinX (b6, b19) ha19 rfl (Sub.consE (t := 6) rfl rfl (Sub.cons (t := 2) rfl (Sub.cons (t := 3) rfl (Sub.cons (t := 4) rfl (Sub.cons (t := 5) rfl (Sub.nil _)))))) (.cons .here rfl (.cons .here rfl (.cons .here rfl (.cons .here rfl (.cons .here rfl (.cons .here rfl .nil))))))
      · refine RunI.new rfl (New.alloc zero_65) rfl rfl rfl (fun b6 => (RunK.toA (.cons .here rfl (.cons .here rfl (.cons .here rfl (.cons .here rfl (.cons .here rfl .nil))))) (.cons (.there .here) rfl (.cons (.there .here) rfl (.cons (.there .here) rfl (.cons (.there .here) rfl .nil)))) rfl ?_))
        refine RunA.one (i := 3) (by kernel_rfl) (by kernel_rfl) ?_
        refine RunI.callTN rfl (isCall_func rfl ent_35) rfl rfl rfl (fun w hm => yopen_calls g a _ w (hG.mono hm)) (fun e19 he19 => ?_) (fun a19 ha19 b19 => (RunK.toA (.cons .here rfl (.cons .here rfl (.cons .here rfl (.cons .here rfl (.cons .here rfl (.cons .here rfl .nil)))))) (.cons (.there .here) rfl (.cons (.there .here) rfl (.cons (.there .here) rfl (.cons (.there .here) rfl (.cons (.there .here) rfl .nil))))) rfl ?_))
        · refine RunE.panQ_panic (Sub.skip rfl (Sub.skip rfl (Sub.skip rfl (Sub.skip rfl (Sub.refl _))))) (.cons (.there .here) rfl (.cons (.there .here) rfl (.cons (.there .here) rfl (.cons (.there .here) rfl .nil)))) ?_
          refine RunE.seg_panic ?_
          refine RunE.pass_panic ?_
          exact RunE.panMC yAlike_catches ent_52 .here (.r2 rfl (.one rfl (.tail _ (.head _)) ty_3 rfl) (.one rfl (.head _) ty_31 rfl)) (by simp [gAlike, he19])
        refine RunA.toB (by kernel_rfl) ?_
        refine RunB.one (i := 5) (by kernel_rfl) ?_
        refine RunI.sto rfl (Sto.store rfl rfl (.there .here) ty_65 rfl rfl) rfl rfl (RunK.toB ?_)
        refine RunB.done (by kernel_rfl) ?_
        refine RunE.panQ_normal ?_
        exact RunE.joinX (b6, b19) ha19 rfl (Sub.consE (t := 6) rfl rfl (Sub.cons (t := 2) rfl (Sub.cons (t := 3) rfl (Sub.cons (t := 4) rfl (Sub.cons (t := 5) rfl (Sub.nil _)))))) (.cons (.there .here) rfl (.cons .here rfl (.cons .here rfl (.cons .here rfl (.cons .here rfl (.cons .here rfl .nil))))))
    · refine RunI.new rfl (New.alloc zero_65) rfl rfl rfl (fun b6 => (RunK.toA (.cons .here rfl (.cons .here rfl (.cons .here rfl (.cons .here rfl (.cons .here rfl .nil))))) (.cons (.there .here) rfl (.cons (.there .here) rfl (.cons (.there .here) rfl (.cons (.there .here) rfl .nil)))) rfl ?_))
      refine RunA.one (i := 2) (by kernel_rfl) (by kernel_rfl) ?_
      refine RunI.callP rfl (isCall_func rfl ent_53) rfl rfl rfl (fun w hm => ywithin_calls _ _ _ w) (RunK.toA (.cons .here rfl (.cons .here rfl (.cons .here rfl (.cons .here rfl (.cons .here rfl .nil))))) (.cons .here rfl (.cons .here rfl (.cons .here rfl (.cons .here rfl (.cons .here rfl .nil))))) rfl ?_)
      refine RunA.one (i := 3) (by kernel_rfl) (by kernel_rfl) ?_
      refine RunI.callTN rfl (isCall_func rfl ent_35) rfl rfl rfl (fun w hm => yopen_calls g a _ w (hG.mono hm)) (fun e19 he19 => ?_) (fun a19 ha19 b19 => (RunK.toA (.cons .here rfl (.cons .here rfl (.cons .here rfl (.cons .here rfl (.cons .here rfl (.cons .here rfl .nil)))))) (.cons (.there .here) rfl (.cons (.there .here) rfl (.cons (.there .here) rfl (.cons (.there .here) rfl (.cons (.there .here) rfl .nil))))) rfl ?_))
      · refine RunE.panQ_panic (Sub.skip rfl (Sub.skip rfl (Sub.skip rfl (Sub.skip rfl (Sub.refl _))))) (.cons (.there .here) rfl (.cons (.there .here) rfl (.cons (.there .here) rfl (.cons (.there .here) rfl .nil)))) ?_
        refine RunE.seg_panic ?_
        refine RunE.pass_panic ?_
        exact RunE.panMC yAlike_catches ent_52 .here (.r2 rfl (.one rfl (.tail _ (.head _)) ty_3 rfl) (.one rfl (.head _) ty_31 rfl)) (by simp [gAlike, he19])
      refine RunA.toB (by kernel_rfl) ?_
      refine RunB.one (i := 5) (by kernel_rfl) ?_
      refine RunI.sto rfl (Sto.store rfl rfl (.there .here) ty_65 rfl rfl) rfl rfl (RunK.toB ?_)
      refine RunB.done (by kernel_rfl) ?_
      refine RunE.panQ_normal ?_
      exact RunE.joinX (b6, b19) ha19 rfl (Sub.consE (t := 6) rfl rfl (Sub.cons (t := 2) rfl (Sub.cons (t := 3) rfl (Sub.cons (t := 4) rfl (Sub.cons (t := 5) rfl (Sub.nil _)))))) (.cons (.there .here) rfl (.cons .here rfl (.cons .here rfl (.cons .here rfl (.cons .here rfl (.cons .here rfl .nil))))))
  · intro y yI
    obtain ⟨b6, b19⟩ := y
    have ha19 := yI
    obtain ⟨hpf, hps, hll⟩ := openG_pairs ha19
    have hlen := hpf.len
    have hev : 0 ≤ even ∧ even ≤ 1073741824 := by
      have hv := (openG_ok ha19).2
      simp only [within, Bool.and_eq_true, decide_eq_true_eq] at hv
      exact hv
    refine RunE.next ?_
    refine RunC.seq ?_
    refine RunC.region ?_
    refine RunL.val (Val.pure rfl) rfl rfl rfl ?_
    refine RunL.new (New.alloc zero_83) rfl rfl rfl (fun b7 => ?_)
    refine RunL.sto (Sto.store rfl rfl .here ty_83 rfl rfl) rfl rfl ?_
    refine RunL.nil ?_
    refine RunE.next ?_
    refine RunC.seq ?_
    refine RunC.seq ?_
    refine RunC.region ?_
    refine RunL.val (Val.load_one rfl (.tail _ (.head _)) ty_65 rfl) rfl rfl rfl ?_
    refine RunL.callN (isCall_func rfl ent_56) rfl rfl rfl (fun w hm => yseen_calls b19 w) (fun b22 => ?_)
    refine RunL.nil ?_
    refine RunE.next ?_
    refine RunC.block ?_
    refine RunC.rangeH (α := Sn g) (Y := Nat) (N := 100) (S := fun xs => xs = seenA g g.f.things.length) (Sp := fun _ => True) [(b22, _), (b7, _), (b6, _), (b19, _), (b5, _), (b3, _), (b2, _)] (fun x => [.int .i64 (x.1 : Int), z2v (farG g x.1)]) (fun pre => [(b4, .cells [.int .i64 ((alikeL g even (vals pre) : Nat) : Int)].toArray 3 (0, 0))]) (fun x y q => (9, .pointer (some ⟨y, 0, none⟩)) :: q) (fun x y => [(y, .cells (z2c (farG g x.1)).toArray 72 (0, 0))]) (fun _ _ _ => False) (Sub.cons (t := 3) rfl (Sub.cons (t := 4) rfl (Sub.cons (t := 6) rfl (Sub.cons (t := 7) rfl (Sub.nil _))))) (.cons (.there (.there (.there (.there (.there .here))))) rfl (.cons .here rfl (.cons .here rfl (.cons .here rfl (.cons .here rfl (.cons .here rfl (.cons .here rfl (.cons .here rfl .nil)))))))) (fun _ => rfl) (fun _ _ _ hb => by simp only [List.mem_cons, List.not_mem_nil, or_false, Prod.mk.injEq] at hb; obtain ⟨_, rfl⟩ := hb; rfl) (fun _ _ _ _ hb => by simp only [List.mem_cons, List.not_mem_nil, or_false, Prod.mk.injEq] at hb; obtain ⟨_, rfl⟩ := hb; rfl) (fun _ => rfl) rfl rfl ent_81 (fun w hm => seen_stops g a b19 b22 w _ hlen ⟨hm.at (.tail _ (.tail _ (.tail _ (.tail _ (.head _))))), hm.at (.tail _ (.head _)), hG.mono hm⟩ ⟨hm.apart (.tail _ (.tail _ (.tail _ (.head _)))), hm.apart (.head _), fun hx => hm.oldApart (hG.s1.lt0 (by decide) hx), fun hx => hm.oldApart (hG.s2.lt0 (by decide) hx)⟩) ?_ ?_ ?_ ?_
    · intro l1 pre x V1 hV1
      refine RunCR.regionP ?_
      refine RunL.new (New.alloc zero_72) rfl rfl rfl (fun b9 => ?_)
      refine RunL.sto (Sto.store rfl rfl .here ty_72 rfl rfl) rfl rfl ?_
      refine RunL.nil ?_
      exact RunE.asg b9 rfl (Sub.consE (t := 9) rfl rfl (Sub.cons (t := 3) rfl (Sub.cons (t := 4) rfl (Sub.cons (t := 6) rfl (Sub.cons (t := 7) rfl (Sub.nil _)))))) (.cons .here rfl .nil)
    · intro l1 pre x y W1 hlen1 hI1 hL1 hAp1
      have hv1_b22 := hI1.at (.tail _ (.head _))
      have hn1_b22 := hAp1 _ (.inl ⟨_, (.head _)⟩)
      have hv1_b7 := hI1.at (.tail _ (.tail _ (.head _)))
      have hn1_b7 := hAp1 _ (.inl ⟨_, (.tail _ (.head _))⟩)
      have hv1_b6 := hI1.at (.tail _ (.tail _ (.tail _ (.head _))))
      have hn1_b6 := hAp1 _ (.inl ⟨_, (.tail _ (.tail _ (.head _)))⟩)
      have hv1_b19 := hI1.at (.tail _ (.tail _ (.tail _ (.tail _ (.head _)))))
      have hn1_b19 := hAp1 _ (.inl ⟨_, (.tail _ (.tail _ (.tail _ (.head _))))⟩)
      have hv1_b5 := hI1.at (.tail _ (.tail _ (.tail _ (.tail _ (.tail _ (.head _))))))
      have hn1_b5 := hAp1 _ (.inl ⟨_, (.tail _ (.tail _ (.tail _ (.tail _ (.head _)))))⟩)
      have hv1_b3 := hI1.at (.tail _ (.tail _ (.tail _ (.tail _ (.tail _ (.tail _ (.head _)))))))
      have hn1_b3 := hAp1 _ (.inl ⟨_, (.tail _ (.tail _ (.tail _ (.tail _ (.tail _ (.head _))))))⟩)
      have hv1_b2 := hI1.at (.tail _ (.tail _ (.tail _ (.tail _ (.tail _ (.tail _ (.tail _ (.head _))))))))
      have hn1_b2 := hAp1 _ (.inl ⟨_, (.tail _ (.tail _ (.tail _ (.tail _ (.tail _ (.tail _ (.head _)))))))⟩)
      obtain ⟨hz1, hz2, hz3, hz4⟩ := farG_ok g x.1
      have hG1 : ∀ {c nw : Blks} {w : World}, Mem W1 c nw w → c.map (·.1) = _ → GIn w g a := fun hm hc => hG.mono (hI1.flat hm (fun b hb => by rw [hc]; exact hAp1 b (.inr hb)))
      have hGW1 : GIn W1 g a := hG.mono (hI1.flat (Mem.refl W1) (by simp))
      refine RunCR.block ?_
      refine RunCR.seq ?_
      refine RunCR.regionP ?_
      refine RunL.val (Val.indexAddr_arr rfl rfl arr_72 (by decide) (by decide)) rfl rfl rfl ?_
      refine RunL.val (Val.load_agg rfl (.tail _ (.head _)) ty_64 rfl) rfl rfl rfl ?_
      refine RunL.val (Val.indexAddr_arr rfl rfl arr_72 (by decide) (by decide)) rfl rfl rfl ?_
      refine RunL.val (Val.load_agg rfl (.tail _ (.head _)) ty_64 rfl) rfl rfl rfl ?_
      refine RunL.callP (isCall_func rfl ent_57) rfl rfl rfl (fun w hm => yless_calls (farG g x.1).2 (farG g x.1).1 (by omega) w) ?_
      refine RunL.val (Val.field rfl field1_64_1 rfl) rfl rfl rfl ?_
      refine RunL.new (New.alloc zero_3) rfl rfl rfl (fun b10 => ?_)
      refine RunL.sto (Sto.store rfl rfl .here ty_3 rfl rfl) rfl rfl ?_
      refine RunL.nil ?_
      refine RunER.next ?_
      refine RunCR.seq ?_
      refine RunCR.regionP ?_
      refine RunL.new (New.alloc zero_3) rfl rfl rfl (fun b11 => ?_)
      refine RunL.sto (Sto.store rfl rfl .here ty_3 rfl rfl) rfl rfl ?_
      refine RunL.nil ?_
      refine RunER.next ?_
      refine RunCR.seq ?_
      refine RunCR.seq ?_
      refine RunCR.regionP ?_
      refine RunL.val (Val.oload_one rfl hv1_b6 (notin_of rfl hn1_b6) ty_65 rfl) rfl rfl rfl ?_
      refine RunL.callN (isCall_func rfl ent_56) rfl rfl rfl (fun w hm => yseen_calls b19 w) (fun b32 => ?_)
      refine RunL.nil ?_
      refine RunER.next ?_
      refine RunCR.block ?_
      refine RunCR.rangeN (α := Sn g) (Y := Nat) (N := 100) (S := fun xs => xs = seenA g g.f.things.length) (Sp := fun _ => True) [(b32, _), (b10, _)] (fun x2 => [.int .i64 (x2.1 : Int), z2v (farG g x2.1)]) (fun pre => [(b11, .cells [.int .i64 ((setL (fun k => decide ((mvZ g x.1).2 ≤ (mvZ g k).2) && decide ((mvZ g k).1 ≤ (mvZ g x.1).2 + even)) (vals pre) : Nat) : Int)].toArray 3 (0, 0))]) (fun x2 y2 q => (12, .int .i64 (x2.1 : Int)) :: (13, .pointer (some ⟨y2, 0, none⟩)) :: q) (fun x2 y2 => [(y2, .cells (z2c (farG g x2.1)).toArray 72 (0, 0))]) (fun _ _ _ => False) hL1 rfl (Sub.cons (t := 3) rfl (Sub.cons (t := 10) rfl (Sub.cons (t := 11) rfl (Sub.nil _)))) (.cons (.there .here) rfl (.cons .here rfl (.cons .here rfl .nil))) (fun _ => rfl) (fun _ _ _ hb => by simp only [List.mem_cons, List.not_mem_nil, or_false, Prod.mk.injEq] at hb; obtain ⟨_, rfl⟩ := hb; rfl) (fun _ _ _ _ hb => by simp only [List.mem_cons, List.not_mem_nil, or_false, Prod.mk.injEq] at hb; obtain ⟨_, rfl⟩ := hb; rfl) (fun _ => rfl) rfl rfl ent_81 (fun w hm => seen_stops g a b19 b32 w _ hlen ⟨hm.old_at hv1_b19 (notin_of rfl hn1_b19), hm.at (.tail _ (.tail _ (.tail _ (.head _)))), hG1 hm rfl⟩ ⟨hm.oldApart (Array.getElem?_eq_some_iff.1 hv1_b19).1, hm.apart (.head _), fun hx => hm.oldApart (hGW1.s1.lt0 (by decide) hx), fun hx => hm.oldApart (hGW1.s2.lt0 (by decide) hx)⟩) ?_ ?_ ?_ ?_
      · intro l2 pre x2 V2 hV2
        refine RunCR.seq ?_
        refine RunCR.regionP ?_
        refine RunL.val (Val.pure rfl) rfl rfl rfl ?_
        refine RunL.nil ?_
        refine RunER.next ?_
        refine RunCR.regionP ?_
        refine RunL.new (New.alloc zero_72) rfl rfl rfl (fun b13 => ?_)
        refine RunL.sto (Sto.store rfl rfl .here ty_72 rfl rfl) rfl rfl ?_
        refine RunL.nil ?_
        exact RunE.asg b13 rfl (Sub.consE (t := 12) rfl rfl (Sub.consE (t := 13) rfl rfl (Sub.cons (t := 3) rfl (Sub.cons (t := 10) rfl (Sub.cons (t := 11) rfl (Sub.nil _)))))) (.cons .here rfl .nil)
      · intro l2 pre x2 y2 W2 hlen2 hI2 hL2 hAp2
        have hv2_b32 := hI2.at (.tail _ (.tail _ (.tail _ (.head _))))
        have hn2_b32 := hAp2 _ (.inl ⟨_, (.tail _ (.tail _ (.head _)))⟩)
        have hv2_b10 := hI2.at (.tail _ (.tail _ (.tail _ (.tail _ (.head _)))))
        have hn2_b10 := hAp2 _ (.inl ⟨_, (.tail _ (.tail _ (.tail _ (.head _))))⟩)
        have hv2_b4 := hI2.at (.head _)
        have hn2_b4 := hAp2 _ (.inl ⟨_, (.head _)⟩)
        have hv2_y := hI2.at (.tail _ (.head _))
        have hn2_y := hAp2 _ (.inl ⟨_, (.tail _ (.head _))⟩)
        have hv2_b22 := hI2.old_at hv1_b22 (notin_of rfl hn1_b22)
        have hn2_b22 := hAp2 _ (.inr (Array.getElem?_eq_some_iff.1 hv1_b22).1)
        have hv2_b7 := hI2.old_at hv1_b7 (notin_of rfl hn1_b7)
        have hn2_b7 := hAp2 _ (.inr (Array.getElem?_eq_some_iff.1 hv1_b7).1)
        have hv2_b6 := hI2.old_at hv1_b6 (notin_of rfl hn1_b6)
        have hn2_b6 := hAp2 _ (.inr (Array.getElem?_eq_some_iff.1 hv1_b6).1)
        have hv2_b19 := hI2.old_at hv1_b19 (notin_of rfl hn1_b19)
        have hn2_b19 := hAp2 _ (.inr (Array.getElem?_eq_some_iff.1 hv1_b19).1)
        have hv2_b5 := hI2.old_at hv1_b5 (notin_of rfl hn1_b5)
        have hn2_b5 := hAp2 _ (.inr (Array.getElem?_eq_some_iff.1 hv1_b5).1)
        have hv2_b3 := hI2.old_at hv1_b3 (notin_of rfl hn1_b3)
        have hn2_b3 := hAp2 _ (.inr (Array.getElem?_eq_some_iff.1 hv1_b3).1)
        have hv2_b2 := hI2.old_at hv1_b2 (notin_of rfl hn1_b2)
        have hn2_b2 := hAp2 _ (.inr (Array.getElem?_eq_some_iff.1 hv1_b2).1)
        obtain ⟨hy1, hy2, hy3, hy4⟩ := farG_ok g x2.1
        have hx12 := sn_lt hlen x2
        have hp1 := setL_lt12 (p := fun k => decide ((mvZ g x.1).2 ≤ (mvZ g k).2) && decide ((mvZ g k).1 ≤ (mvZ g x.1).2 + even)) hlen pre
        have h2x : 2 ^ x2.1 < 2 ^ 12 := Nat.pow_lt_pow_right (by decide) hx12
        refine RunCR.block ?_
        refine RunCR.seq ?_
        refine RunCR.regionP ?_
        refine RunL.val (Val.indexAddr_arr rfl rfl arr_72 (by decide) (by decide)) rfl rfl rfl ?_
        refine RunL.val (Val.load_agg rfl (.tail _ (.head _)) ty_64 rfl) rfl rfl rfl ?_
        refine RunL.val (Val.indexAddr_arr rfl rfl arr_72 (by decide) (by decide)) rfl rfl rfl ?_
        refine RunL.val (Val.load_agg rfl (.tail _ (.head _)) ty_64 rfl) rfl rfl rfl ?_
        refine RunL.callP (isCall_func rfl ent_57) rfl rfl rfl (fun w hm => yless_calls (farG g x2.1).2 (farG g x2.1).1 (by omega) w) ?_
        refine RunL.new (New.alloc zero_64) rfl rfl rfl (fun b14 => ?_)
        refine RunL.sto (Sto.store rfl rfl .here ty_64 rfl rfl) rfl rfl ?_
        refine RunL.nil ?_
        refine RunER.next ?_
        refine RunCR.seq ?_
        refine RunCR.regionP ?_
        refine RunL.val (Val.fieldAddr rfl fld_64_1) rfl rfl rfl ?_
        refine RunL.val (Val.load_one rfl (.tail _ (.tail _ (.head _))) ty_3 rfl) rfl rfl rfl ?_
        refine RunL.val (Val.oload_one rfl hv2_b10 (notin_of rfl hn2_b10) ty_3 rfl) rfl rfl rfl ?_
        refine RunL.val (Val.pure rfl) rfl rfl rfl ?_
        refine RunL.val (Val.pure rfl) rfl rfl rfl ?_
        refine RunL.andPart (dj := 44) (dp := 51) 7 rfl (fun g44 => by
          have g44' := g44
          try simp only [decide_eq_true_eq, decide_eq_false_iff_not, Bool.not_eq_true', Bool.not_eq_false', Bool.and_eq_true, Bool.or_eq_true, Bool.and_eq_false_iff, Bool.or_eq_false_iff, Int.not_le, Int.not_lt] at g44'
          refine RunL.val (Val.fieldAddr rfl fld_64_0) rfl rfl rfl ?_
          refine RunL.val (Val.load_one rfl (.tail _ (.tail _ (.head _))) ty_3 rfl) rfl rfl rfl ?_
          refine RunL.val (Val.oload_one rfl hv2_b10 (notin_of rfl hn2_b10) ty_3 rfl) rfl rfl rfl ?_
          refine RunL.val (Val.oload_one rfl hv2_b3 (notin_of rfl hn2_b3) ty_3 rfl) rfl rfl rfl ?_
          refine RunL.val (Val.add rfl rfl (IntWalk.i64_in _ (by have := movedZ_bd (farG_ok g x.1); simp only [movedZ] at this; omega))) rfl rfl rfl ?_
          refine RunL.val (Val.pure rfl) rfl rfl rfl ?_
          refine RunL.val (Val.pure rfl) rfl rfl rfl ?_
          exact RunL.segEnd (Sub.cons rfl (Sub.skip rfl (Sub.skip rfl (Sub.skip rfl (Sub.skip rfl (Sub.skip rfl (Sub.skip rfl (Sub.skip rfl (Sub.same rfl (by rw [g44]) (Sub.refl _)))))))))) (List.Sublist.refl _)
        ) (fun g44 => by
          have g44' := g44
          try simp only [decide_eq_true_eq, decide_eq_false_iff_not, Bool.not_eq_true', Bool.not_eq_false', Bool.and_eq_true, Bool.or_eq_true, Bool.and_eq_false_iff, Bool.or_eq_false_iff, Int.not_le, Int.not_lt] at g44'
          iterate 6 refine RunL.no rfl rfl rfl ?_
          refine RunL.val (Val.pure rfl) rfl rfl rfl ?_
          exact RunL.segEnd (Sub.cons rfl (Sub.skip rfl (Sub.skip rfl (Sub.skip rfl (Sub.skip rfl (Sub.skip rfl (Sub.skip rfl (Sub.skip rfl (Sub.same rfl (by rw [g44]) (Sub.refl _)))))))))) (List.Sublist.refl _)
        ) ?_
        refine RunL.nil ?_
        refine RunER.next ?_
        refine RunCR.cond rfl ?_ ?_
        · intro c0
          have c0' := c0; clear c0
          try simp only [decide_eq_true_eq, decide_eq_false_iff_not, Bool.not_eq_true', Bool.not_eq_false', Bool.and_eq_true, Bool.or_eq_true, Bool.and_eq_false_iff, Bool.or_eq_false_iff, Int.not_le, Int.not_lt] at c0'
          have hs0 : (decide ((mvZ g x.1).2 ≤ (mvZ g x2.1).2) && decide ((mvZ g x2.1).1 ≤ (mvZ g x.1).2 + even)) = true := by
            simp only [Bool.and_eq_true, decide_eq_true_eq]; exact c0'
          refine RunCR.draw 3 fol_ (.cons .here rfl .nil) ?_
          refine RunA.val (i := 0) rfl (by kernel_rfl) (by kernel_rfl) (Val.load_one rfl (.head _) ty_3 rfl) rfl rfl rfl (fun _ _ _ h => h) (.cons .here rfl .nil) rfl ?_
          refine RunA.val (i := 1) rfl (by kernel_rfl) (by kernel_rfl) (Val.pure rfl) rfl rfl rfl (fun _ _ _ h => h) (.cons .here rfl .nil) rfl ?_
          refine RunA.val (i := 2) rfl (by kernel_rfl) (by kernel_rfl) (Val.shl1 (b := x2.1) rfl rfl (by show x2.1 ≤ 64; omega) (i64_inN (n := 2 ^ x2.1) (by omega))) rfl rfl rfl (fun _ _ _ h => h) (.cons .here rfl .nil) rfl ?_
          refine RunA.toB (by kernel_rfl) ?_
          refine RunB.one (i := 3) (by kernel_rfl) ?_
          refine RunI.val rfl (Val.or (a := setL _ (vals pre)) (b := 2 ^ x2.1) rfl rfl (by show _ < 18446744073709551616; omega) (by show _ < 18446744073709551616; omega) (i64_inN (Nat.lt_trans (or_lt12 hp1 hx12) (by decide)))) rfl rfl rfl (RunK.toB ?_)
          refine RunB.one (i := 4) (by kernel_rfl) ?_
          refine RunI.sto rfl (Sto.store_chg rfl rfl .here ty_3 rfl rfl) rfl rfl (RunK.toB ?_)
          refine RunB.done (by kernel_rfl) ?_
          refine RunE.block_normal ?_
          exact RunE.bodyX [(y2, _)] (by simp only [vals_snoc, setL_snoc, hs0, if_true, if_false, Bool.false_eq_true]; rfl)
        · intro c0
          have c0' := c0; clear c0
          try simp only [decide_eq_true_eq, decide_eq_false_iff_not, Bool.not_eq_true', Bool.not_eq_false', Bool.and_eq_true, Bool.or_eq_true, Bool.and_eq_false_iff, Bool.or_eq_false_iff, Int.not_le, Int.not_lt] at c0'
          have hs0 : (decide ((mvZ g x.1).2 ≤ (mvZ g x2.1).2) && decide ((mvZ g x2.1).1 ≤ (mvZ g x.1).2 + even)) = false := by
            simp only [Bool.and_eq_false_iff, decide_eq_false_iff_not, Int.not_le]; exact c0'
          refine RunCR.skip ?_
          refine RunE.block_normal ?_
          exact RunE.bodyX [(y2, _)] (by simp only [vals_snoc, setL_snoc, hs0, if_true, if_false, Bool.false_eq_true]; rfl)
      · intro xs hXS
        obtain rfl := hXS
        rw [show vals (seenA g g.f.things.length) = seenL g from seenA_vals g _]
        refine RunE.block_normal ?_
        refine RunER.next ?_
        refine RunCR.regionP ?_
        refine RunL.val (Val.oload_one rfl hv1_b7 (notin_of rfl hn1_b7) ty_83 rfl) rfl rfl rfl ?_
        refine RunL.val (Val.load_one rfl (.tail _ (.tail _ (.head _))) ty_3 rfl) rfl rfl rfl ?_
        refine RunL.callX_chg (isCall_value rfl rfl ent_54) rfl rfl rfl .here (fun w hm => offer_calls _ (alikeS g even x.1) (alikeL_lt hlen even (vals pre)) (alikeS_lt hlen even x.1) b4 w (hm.at (.head _))) (fun x58 hx58 => ?_)
        refine RunL.nil ?_
        refine RunE.block_normal ?_
        exact RunE.bodyX [(y, _)] (by simp only [vals_snoc, alikeL_snoc]; rfl)
      · intro c pre V' hSp hNm hSt
        exact hSt.elim
    · intro xs bD0 hXS
      obtain rfl := hXS
      rw [show vals (seenA g g.f.things.length) = seenL g from seenA_vals g _]
      refine RunE.block_normal ?_
      refine RunE.next ?_
      refine RunC.seq ?_
      refine RunC.region ?_
      refine RunL.val (Val.load_one rfl (.tail _ (.head _)) ty_3 rfl) rfl rfl rfl ?_
      refine RunL.sto (Sto.store rfl rfl (.there .here) ty_3 rfl rfl) rfl rfl ?_
      refine RunL.sto (Sto.store rfl rfl (.there (.there (.there (.there (.there (.there .here)))))) ty_31 rfl rfl) rfl rfl ?_
      refine RunL.nil ?_
      refine RunE.next ?_
      refine RunC.ret ?_
      exact RunE.outMC [bD0] yAlike_catches ent_52 (.cons .here rfl (.cons .here rfl (.cons .here rfl (.cons .here rfl (.cons .here rfl (.cons .here rfl (.cons .here rfl (.cons .here rfl (.cons .here rfl .nil))))))))) (.r2 rfl (.one rfl (.head _) ty_3 rfl) (.one rfl (.tail _ (.tail _ (.tail _ (.tail _ (.tail _ (.head _)))))) ty_31 rfl)) (out_pure (by simp only [gAlike, ha19]))
    · intro c pre V' bD0 hSp hNm hSt
      exact hSt.elim
end Go.Proofs.Ytjijeeadmhpfcaa
