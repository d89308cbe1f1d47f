/- Walks of package years: Heights, Rate, and the day on which a thing is there. -/
import Derived.Test.YtjijeeadmhpfcaaYg
set_option linter.unusedSimpArgs false
set_option linter.unusedVariables false
namespace Go.Proofs.Ytjijeeadmhpfcaa
open Go Go.Eng Go.Pw1

theorem yHeights_calls (g : Gl) (a : Ga) (n : Int) (W : World) (hG : GIn W g a) : Calls Try.prog 13 #[g.v a, .int .i64 n] W (Pure (.tuple #[b2v (gHeights g n).1.1, b2v (gHeights g n).1.2, .int .i64 (gHeights g n).2]) W) := by
  refine calls_start_defers Try.func13 rfl rfl ?_
  refine RunC.seq ?_
  refine RunC.region ?_
  refine RunL.new (New.box rfl) rfl rfl rfl (fun b2 => ?_)
  refine RunL.new (New.alloc zero_23) rfl rfl rfl (fun b4 => ?_)
  refine RunL.new (New.alloc zero_23) rfl rfl rfl (fun b5 => ?_)
  refine RunL.new (New.alloc zero_31) rfl rfl rfl (fun b6 => ?_)
  refine RunL.nil ?_
  refine RunE.next ?_
  refine RunC.seq ?_
  refine RunC.region ?_
  refine RunL.val (Val.pure rfl) rfl rfl rfl ?_
  refine RunL.deferC rfl ?_
  refine RunL.nil ?_
  refine RunE.next ?_
  refine RunC.seq ?_
  refine RunC.drawP 4 fol_ (.cons .here rfl (.cons .here rfl (.cons .here rfl (.cons .here rfl .nil)))) ?_
  refine RunA.val (i := 0) rfl (by kernel_rfl) (by kernel_rfl) (Val.load_agg rfl (.tail _ (.tail _ (.tail _ (.head _)))) ty_28 rfl) rfl rfl rfl (PanQ.back rfl) (.cons .here rfl (.cons .here rfl (.cons .here rfl (.cons .here rfl .nil)))) rfl ?_
  refine RunA.val (i := 1) rfl (by kernel_rfl) (by kernel_rfl) (Val.load_agg rfl (.tail _ (.tail _ (.tail _ (.head _)))) ty_28 rfl) rfl rfl rfl (PanQ.back rfl) (.cons .here rfl (.cons .here rfl (.cons .here rfl (.cons .here rfl .nil)))) rfl ?_
  refine RunA.val (i := 2) rfl (by kernel_rfl) (by kernel_rfl) (Val.pure rfl) rfl rfl rfl (PanQ.back rfl) (.cons .here rfl (.cons .here rfl (.cons .here rfl (.cons .here rfl .nil)))) rfl ?_
  refine RunA.one (i := 3) (by kernel_rfl) (by kernel_rfl) ?_
  refine RunI.callP rfl (isCall_func rfl ent_36) rfl rfl rfl (fun w hm => yisThing_calls g a n hG.l1 w) (RunK.toA (.cons .here rfl (.cons .here rfl (.cons .here rfl (.cons .here rfl .nil)))) (.cons .here rfl (.cons .here rfl (.cons .here rfl (.cons .here rfl .nil)))) rfl ?_)
  refine RunA.toB (by kernel_rfl) ?_
  refine RunB.one (i := 4) (by kernel_rfl) ?_
  refine RunI.callTN rfl (isCall_func rfl ent_35) rfl rfl rfl (fun w hm => yopen_calls g a _ w (hG.mono hm)) (fun e16 he16 => ?_) (fun a16 ha16 b16 => (RunK.toB ?_))
  · refine RunE.panQ_panic (Sub.skip rfl (Sub.skip rfl (Sub.skip rfl (Sub.skip rfl (Sub.refl _))))) (.cons .here rfl (.cons .here rfl (.cons .here rfl (.cons .here rfl .nil)))) ?_
    refine RunE.pass_panic ?_
    exact RunE.panDC yHeights_catches ent_40 .here (.r3 rfl (.agg rfl (.tail _ (.tail _ (.head _))) ty_23 rfl) (.agg rfl (.tail _ (.head _)) ty_23 rfl) (.one rfl (.head _) ty_31 rfl)) (by simp [gHeights, askG, he16, b2v])
  refine RunB.one (i := 5) (by kernel_rfl) ?_
  refine RunI.val rfl (Val.pure rfl) rfl rfl rfl (RunK.toB ?_)
  refine RunB.done (by kernel_rfl) ?_
  refine RunE.panQ_normal ?_
  refine RunE.next ?_
  refine RunC.seq ?_
  refine RunC.region ?_
  refine RunL.val (Val.pure rfl) rfl rfl rfl ?_
  refine RunL.val (Val.pure rfl) rfl rfl rfl ?_
  refine RunL.callP (isCall_func rfl ent_41) rfl rfl rfl (fun w hm => yfar_calls g a n _ w (hm.at (.head _)) (hG.mono hm)) ?_
  iterate 3 refine RunL.val (Val.pure rfl) rfl rfl rfl ?_
  refine RunL.new (New.alloc zero_72) rfl rfl rfl (fun b8 => ?_)
  refine RunL.sto (Sto.store rfl rfl .here ty_72 rfl rfl) rfl rfl ?_
  refine RunL.val (Val.pure rfl) rfl rfl rfl ?_
  refine RunL.nil ?_
  refine RunE.next ?_
  refine RunC.seq ?_
  refine RunC.region ?_
  refine RunL.val (Val.pure rfl) rfl rfl rfl ?_
  refine RunL.callT (isCall_func rfl ent_42) rfl rfl rfl (fun w hm => yneed_calls _ _ w) (fun e24 he24 => ?_) (fun v24 hv24 => ?_)
  · obtain ⟨er24, rfl⟩ := need_err he24
    refine RunE.pass_panic ?_
    exact RunE.panDC yHeights_catches ent_40 (.there (.there .here)) (.r3 rfl (.agg rfl (.tail _ (.tail _ (.tail _ (.tail _ (.head _))))) ty_23 rfl) (.agg rfl (.tail _ (.tail _ (.tail _ (.head _)))) ty_23 rfl) (.one rfl (.tail _ (.tail _ (.head _))) ty_31 rfl)) (by simp [gHeights, askG, ha16, er24, b2v])
  obtain ⟨ok24, rfl⟩ := need_ok hv24
  refine RunL.nil ?_
  refine RunE.next ?_
  refine RunC.seq ?_
  refine RunC.region ?_
  refine RunL.val (Val.pure rfl) rfl rfl rfl ?_
  refine RunL.val (Val.pure rfl) rfl rfl rfl ?_
  refine RunL.val (Val.load_agg rfl (.head _) ty_72 rfl) rfl rfl rfl ?_
  refine RunL.callP (isCall_func rfl ent_43) rfl rfl rfl (fun w hm => yheightsG_calls g a n _ _ w (hm.at (.tail _ (.head _))) (hG.mono hm) ok24 (farG_ok g n)) ?_
  refine RunL.new (New.alloc zero_72) rfl rfl rfl (fun b10 => ?_)
  refine RunL.sto (Sto.store rfl rfl .here ty_72 rfl rfl) rfl rfl ?_
  refine RunL.nil ?_
  refine RunE.next ?_
  refine RunC.seq ?_
  refine RunC.drawN 5 fol_ (.cons .here rfl (.cons .here rfl (.cons .here rfl (.cons .here rfl (.cons .here rfl (.cons (.there .here) rfl .nil)))))) ?_
  refine RunA.val (i := 0) rfl (by kernel_rfl) (by kernel_rfl) (Val.indexAddr_arr rfl rfl arr_72 (by decide) (by decide)) rfl rfl rfl (fun _ _ _ h => h) (.cons .here rfl (.cons .here rfl (.cons .here rfl (.cons .here rfl (.cons .here rfl (.cons (.there .here) rfl .nil)))))) rfl ?_
  refine RunA.val (i := 1) rfl (by kernel_rfl) (by kernel_rfl) (Val.load_agg rfl (.head _) ty_64 rfl) rfl rfl rfl (fun _ _ _ h => h) (.cons .here rfl (.cons .here rfl (.cons .here rfl (.cons .here rfl (.cons .here rfl (.cons (.there .here) rfl .nil)))))) rfl ?_
  refine RunA.val (i := 2) rfl (by kernel_rfl) (by kernel_rfl) (Val.indexAddr_arr rfl rfl arr_72 (by decide) (by decide)) rfl rfl rfl (fun _ _ _ h => h) (.cons .here rfl (.cons .here rfl (.cons .here rfl (.cons .here rfl (.cons .here rfl (.cons (.there .here) rfl .nil)))))) rfl ?_
  refine RunA.val (i := 3) rfl (by kernel_rfl) (by kernel_rfl) (Val.load_agg rfl (.head _) ty_64 rfl) rfl rfl rfl (fun _ _ _ h => h) (.cons .here rfl (.cons .here rfl (.cons .here rfl (.cons .here rfl (.cons .here rfl (.cons (.there .here) rfl .nil)))))) rfl ?_
  refine RunA.one (i := 4) (by kernel_rfl) (by kernel_rfl) ?_
  refine RunI.sto rfl (Sto.store rfl rfl (.there (.there (.there (.there (.there .here))))) ty_23 rfl rfl) rfl rfl (RunK.toA (.cons .here rfl (.cons .here rfl (.cons .here rfl (.cons .here rfl (.cons .here rfl (.cons (.there .here) rfl .nil)))))) (.cons .here rfl (.cons .here rfl (.cons .here rfl (.cons .here rfl (.cons .here rfl (.cons .here rfl .nil)))))) rfl ?_)
  refine RunA.toB (by kernel_rfl) ?_
  refine RunB.one (i := 5) (by kernel_rfl) ?_
  refine RunI.sto rfl (Sto.store rfl rfl (.there (.there (.there (.there .here)))) ty_23 rfl rfl) rfl rfl (RunK.toB ?_)
  refine RunB.one (i := 6) (by kernel_rfl) ?_
  refine RunI.sto rfl (Sto.store rfl rfl (.there (.there (.there .here))) ty_31 rfl rfl) rfl rfl (RunK.toB ?_)
  refine RunB.done (by kernel_rfl) ?_
  refine RunE.noPan ?_
  refine RunE.next ?_
  refine RunC.ret ?_
  exact RunE.retDC yHeights_catches ent_40 (.r3 rfl (.agg rfl (.tail _ (.tail _ (.tail _ (.tail _ (.tail _ (.head _)))))) ty_23 rfl) (.agg rfl (.tail _ (.tail _ (.tail _ (.tail _ (.head _))))) ty_23 rfl) (.one rfl (.tail _ (.tail _ (.tail _ (.head _)))) ty_31 rfl)) (by simp [gHeights, askG, ha16, ok24, b2v])
theorem movedZ_bd {z : Z2} (h : Zok z) : (-1100000000 ≤ (movedZ z).1 ∧ (movedZ z).1 ≤ 1100000000) ∧ -1100000000 ≤ (movedZ z).2 ∧ (movedZ z).2 ≤ 1100000000 := by
  obtain ⟨h1, h2, h3, h4⟩ := h
  simp only [movedZ, lessZ]
  omega
theorem yRate_calls (g : Gl) (a : Ga) (n : Int) (W : World) (hG : GIn W g a) : Calls Try.prog 17 #[g.v a, .int .i64 n] W (Pure (.tuple #[b2v (gRate g n).1, .int .i64 (gRate g n).2]) W) := by
  have hb := movedZ_bd (farG_ok g n)
  refine calls_start_defers Try.func17 rfl rfl ?_
  refine RunC.seq ?_
  refine RunC.region ?_
  refine RunL.new (New.box rfl) rfl rfl rfl (fun b2 => ?_)
  refine RunL.new (New.alloc zero_23) rfl rfl rfl (fun b4 => ?_)
  refine RunL.new (New.alloc zero_31) rfl rfl rfl (fun b5 => ?_)
  refine RunL.nil ?_
  refine RunE.next ?_
  refine RunC.seq ?_
  refine RunC.region ?_
  refine RunL.val (Val.pure rfl) rfl rfl rfl ?_
  refine RunL.deferC rfl ?_
  refine RunL.nil ?_
  refine RunE.next ?_
  refine RunC.seq ?_
  refine RunC.drawPX (X := Nat) 10 (n0 := [(b5, _), (b4, _), (b2, _)]) (fun y q => (6, .pointer (some ⟨y, 0, none⟩)) :: q) (fun y => []) (fun y => [(y, .cells [.int .i64 (movedZ (farG g n)).1, .int .i64 (movedZ (farG g n)).2].toArray 64 (0, 0))]) (fun y => []) (fun y => openG g (isThingG g n) = .ok () ∧ seenG g n = true) fol_ (.cons .here rfl (.cons .here rfl (.cons .here rfl .nil))) (Sub.cons (t := 0) rfl (Sub.cons (t := 1) rfl (Sub.cons (t := 2) rfl (Sub.cons (t := 4) rfl (Sub.cons (t := 5) rfl (Sub.nil _)))))) (.cons .here rfl (.cons .here rfl (.cons .here rfl .nil))) ?_ ?_
  · refine RunA.val (i := 0) rfl (by kernel_rfl) (by kernel_rfl) (Val.load_agg rfl (.tail _ (.tail _ (.head _))) ty_28 rfl) rfl rfl rfl (PanQ.back rfl) (.cons .here rfl (.cons .here rfl (.cons .here rfl .nil))) rfl ?_
    refine RunA.val (i := 1) rfl (by kernel_rfl) (by kernel_rfl) (Val.load_agg rfl (.tail _ (.tail _ (.head _))) ty_28 rfl) rfl rfl rfl (PanQ.back rfl) (.cons .here rfl (.cons .here rfl (.cons .here rfl .nil))) rfl ?_
    refine RunA.val (i := 2) rfl (by kernel_rfl) (by kernel_rfl) (Val.pure rfl) rfl rfl rfl (PanQ.back rfl) (.cons .here rfl (.cons .here rfl (.cons .here rfl .nil))) rfl ?_
    refine RunA.val (i := 5) rfl (by kernel_rfl) (by kernel_rfl) (Val.pure rfl) rfl rfl rfl (PanQ.back rfl) (.cons .here rfl (.cons .here rfl (.cons .here rfl .nil))) rfl ?_
    refine RunA.val (i := 6) rfl (by kernel_rfl) (by kernel_rfl) (Val.build (parts := []) rfl zero_69 places_69 rfl) rfl rfl rfl (PanQ.back rfl) (.cons .here rfl (.cons .here rfl (.cons .here rfl .nil))) rfl ?_
    refine RunA.val (i := 7) rfl (by kernel_rfl) (by kernel_rfl) (Val.makeInterface rfl noif_69) rfl rfl rfl (PanQ.back rfl) (.cons .here rfl (.cons .here rfl (.cons .here rfl .nil))) rfl ?_
    refine RunA.all (rs := [3, 9]) (by kernel_rfl) (by simp) (by kernel_rfl) (fun m hm => ?_)
    simp only [List.mem_cons, List.not_mem_nil, or_false] at hm
    rcases hm with rfl | rfl
    · refine RunI.callP rfl (isCall_func rfl ent_36) rfl rfl rfl (fun w hm => yisThing_calls g a n hG.l1 w) (RunK.toA (.cons .here rfl (.cons .here rfl (.cons .here rfl .nil))) (.cons .here rfl (.cons .here rfl (.cons .here rfl .nil))) rfl ?_)
      refine RunA.all (rs := [4, 9]) (by kernel_rfl) (by simp) (by kernel_rfl) (fun m hm => ?_)
      simp only [List.mem_cons, List.not_mem_nil, or_false] at hm
      rcases hm with rfl | rfl
      · refine RunI.callTN rfl (isCall_func rfl ent_35) rfl rfl rfl (fun w hm => yopen_calls g a _ w (hG.mono hm)) (fun e13 he13 => ?_) (fun a13 ha13 b13 => (RunK.toA (.cons .here rfl (.cons .here rfl (.cons .here rfl (.cons .here rfl .nil)))) (.cons (.there .here) rfl (.cons (.there .here) rfl (.cons (.there .here) rfl .nil))) rfl ?_))
        · refine RunE.panQ_panic (Sub.skip rfl (Sub.skip rfl (Sub.skip rfl (Sub.skip rfl (Sub.skip rfl (Sub.skip rfl (Sub.skip rfl (Sub.refl _)))))))) (.cons .here rfl (.cons .here rfl (.cons .here rfl .nil))) ?_
          refine RunE.seg_panic ?_
          refine RunE.pass_panic ?_
          exact RunE.panDC yRate_catches ent_46 .here (.r2 rfl (.agg rfl (.tail _ (.head _)) ty_23 rfl) (.one rfl (.head _) ty_31 rfl)) (by simp_all [gRate, askG, b2v])
        obtain ⟨od, -⟩ := openG_ok ha13
        refine RunA.all (rs := [8, 9]) (by kernel_rfl) (by simp) (by kernel_rfl) (fun m hm => ?_)
        simp only [List.mem_cons, List.not_mem_nil, or_false] at hm
        rcases hm with rfl | rfl
        · refine RunI.callT rfl (isCall_func rfl ent_37) rfl rfl rfl (fun w hm => yaskM_calls g a n _ w (hm.at (.head _)) (hG.mono hm)) (fun e17 he17 => ?_) (fun v17 hv17 => (RunK.toA (.cons .here rfl (.cons .here rfl (.cons .here rfl (.cons .here rfl .nil)))) (.cons .here rfl (.cons .here rfl (.cons .here rfl (.cons .here rfl .nil)))) rfl ?_))
          · obtain ⟨hs17, rfl⟩ := ask1_err he17
            refine RunE.panQ_panic (Sub.skip rfl (Sub.skip rfl (Sub.skip rfl (Sub.skip rfl (Sub.skip rfl (Sub.skip rfl (Sub.skip rfl (Sub.skip rfl (Sub.refl _))))))))) (.cons (.there .here) rfl (.cons (.there .here) rfl (.cons (.there .here) rfl .nil))) ?_
            refine RunE.seg_panic ?_
            refine RunE.pass_panic ?_
            exact RunE.panDC yRate_catches ent_46 .here (.r2 rfl (.agg rfl (.tail _ (.head _)) ty_23 rfl) (.one rfl (.head _) ty_31 rfl)) (by simp_all [gRate, askG, b2v])
          obtain ⟨hs17, rfl⟩ := ask1_ok hv17
          refine RunA.one (i := 9) (by kernel_rfl) (by kernel_rfl) ?_
          refine RunI.new rfl (New.alloc zero_64) rfl rfl rfl (fun b6 => (RunK.toA (.cons .here rfl (.cons .here rfl (.cons .here rfl (.cons .here rfl (.cons .here rfl .nil))))) (.cons (.there .here) rfl (.cons (.there .here) rfl (.cons (.there .here) rfl (.cons (.there .here) rfl .nil)))) rfl ?_))
          refine RunA.toB (by kernel_rfl) ?_
          refine RunB.one (i := 10) (by kernel_rfl) ?_
          refine RunI.sto rfl (Sto.store rfl rfl .here ty_64 rfl rfl) rfl rfl (RunK.toB ?_)
          refine RunB.done (by kernel_rfl) ?_
          refine RunE.panQ_normal ?_
          exact RunE.joinX b6 ⟨ha13, hs17⟩ rfl (Sub.consE (t := 6) rfl rfl (Sub.cons (t := 0) rfl (Sub.cons (t := 1) rfl (Sub.cons (t := 2) rfl (Sub.cons (t := 4) rfl (Sub.cons (t := 5) rfl (Sub.nil _))))))) (.cons .here rfl (.cons (.there .here) rfl (.cons (.there .here) rfl (.cons (.there .here) rfl .nil))))
        · refine RunI.new rfl (New.alloc zero_64) rfl rfl rfl (fun b6 => (RunK.toA (.cons .here rfl (.cons .here rfl (.cons .here rfl (.cons .here rfl (.cons .here rfl .nil))))) (.cons (.there .here) rfl (.cons (.there .here) rfl (.cons (.there .here) rfl (.cons (.there .here) rfl .nil)))) rfl ?_))
          refine RunA.one (i := 8) (by kernel_rfl) (by kernel_rfl) ?_
          refine RunI.callT rfl (isCall_func rfl ent_37) rfl rfl rfl (fun w hm => yaskM_calls g a n _ w (hm.at (.tail _ (.head _))) (hG.mono hm)) (fun e17 he17 => ?_) (fun v17 hv17 => (RunK.toA (.cons .here rfl (.cons .here rfl (.cons .here rfl (.cons .here rfl (.cons .here rfl .nil))))) (.cons .here rfl (.cons .here rfl (.cons .here rfl (.cons .here rfl (.cons .here rfl .nil))))) rfl ?_))
          · obtain ⟨hs17, rfl⟩ := ask1_err he17
            refine RunE.panQ_panic (Sub.skip rfl (Sub.skip rfl (Sub.skip rfl (Sub.skip rfl (Sub.skip rfl (Sub.skip rfl (Sub.skip rfl (Sub.skip rfl (Sub.skip rfl (Sub.refl _)))))))))) (.cons (.there (.there .here)) rfl (.cons (.there (.there .here)) rfl (.cons (.there (.there .here)) rfl .nil))) ?_
            refine RunE.seg_panic ?_
            refine RunE.pass_panic ?_
            exact RunE.panDC yRate_catches ent_46 .here (.r2 rfl (.agg rfl (.tail _ (.head _)) ty_23 rfl) (.one rfl (.head _) ty_31 rfl)) (by simp_all [gRate, askG, b2v])
          obtain ⟨hs17, rfl⟩ := ask1_ok hv17
          refine RunA.toB (by kernel_rfl) ?_
          refine RunB.one (i := 10) (by kernel_rfl) ?_
          refine RunI.sto rfl (Sto.store rfl rfl .here ty_64 rfl rfl) rfl rfl (RunK.toB ?_)
          refine RunB.done (by kernel_rfl) ?_
          refine RunE.panQ_normal ?_
          exact RunE.joinX b6 ⟨ha13, hs17⟩ rfl (Sub.consE (t := 6) rfl rfl (Sub.cons (t := 0) rfl (Sub.cons (t := 1) rfl (Sub.cons (t := 2) rfl (Sub.cons (t := 4) rfl (Sub.cons (t := 5) rfl (Sub.nil _))))))) (.cons .here rfl (.cons (.there .here) rfl (.cons (.there .here) rfl (.cons (.there .here) rfl .nil))))
      · refine RunI.new rfl (New.alloc zero_64) rfl rfl rfl (fun b6 => (RunK.toA (.cons .here rfl (.cons .here rfl (.cons .here rfl (.cons .here rfl .nil)))) (.cons (.there .here) rfl (.cons (.there .here) rfl (.cons (.there .here) rfl .nil))) rfl ?_))
        refine RunA.one (i := 4) (by kernel_rfl) (by kernel_rfl) ?_
        refine RunI.callTN rfl (isCall_func rfl ent_35) rfl rfl rfl (fun w hm => yopen_calls g a _ w (hG.mono hm)) (fun e13 he13 => ?_) (fun a13 ha13 b13 => (RunK.toA (.cons .here rfl (.cons .here rfl (.cons .here rfl (.cons .here rfl (.cons .here rfl .nil))))) (.cons (.there .here) rfl (.cons (.there .here) rfl (.cons (.there .here) rfl (.cons (.there .here) rfl .nil)))) rfl ?_))
        · refine RunE.panQ_panic (Sub.skip rfl (Sub.skip rfl (Sub.skip rfl (Sub.skip rfl (Sub.skip rfl (Sub.skip rfl (Sub.skip rfl (Sub.skip rfl (Sub.refl _))))))))) (.cons (.there .here) rfl (.cons (.there .here) rfl (.cons (.there .here) rfl .nil))) ?_
          refine RunE.seg_panic ?_
          refine RunE.pass_panic ?_
          exact RunE.panDC yRate_catches ent_46 .here (.r2 rfl (.agg rfl (.tail _ (.head _)) ty_23 rfl) (.one rfl (.head _) ty_31 rfl)) (by simp_all [gRate, askG, b2v])
        obtain ⟨od, -⟩ := openG_ok ha13
        refine RunA.one (i := 8) (by kernel_rfl) (by kernel_rfl) ?_
        refine RunI.callT rfl (isCall_func rfl ent_37) rfl rfl rfl (fun w hm => yaskM_calls g a n _ w (hm.at (.head _)) (hG.mono hm)) (fun e17 he17 => ?_) (fun v17 hv17 => (RunK.toA (.cons .here rfl (.cons .here rfl (.cons .here rfl (.cons .here rfl (.cons .here rfl .nil))))) (.cons .here rfl (.cons .here rfl (.cons .here rfl (.cons .here rfl (.cons .here rfl .nil))))) rfl ?_))
        · obtain ⟨hs17, rfl⟩ := ask1_err he17
          refine RunE.panQ_panic (Sub.skip rfl (Sub.skip rfl (Sub.skip rfl (Sub.skip rfl (Sub.skip rfl (Sub.skip rfl (Sub.skip rfl (Sub.skip rfl (Sub.skip rfl (Sub.refl _)))))))))) (.cons (.there (.there .here)) rfl (.cons (.there (.there .here)) rfl (.cons (.there (.there .here)) rfl .nil))) ?_
          refine RunE.seg_panic ?_
          refine RunE.pass_panic ?_
          exact RunE.panDC yRate_catches ent_46 .here (.r2 rfl (.agg rfl (.tail _ (.head _)) ty_23 rfl) (.one rfl (.head _) ty_31 rfl)) (by simp_all [gRate, askG, b2v])
        obtain ⟨hs17, rfl⟩ := ask1_ok hv17
        refine RunA.toB (by kernel_rfl) ?_
        refine RunB.one (i := 10) (by kernel_rfl) ?_
        refine RunI.sto rfl (Sto.store rfl rfl (.there .here) ty_64 rfl rfl) rfl rfl (RunK.toB ?_)
        refine RunB.done (by kernel_rfl) ?_
        refine RunE.panQ_normal ?_
        exact RunE.joinX b6 ⟨ha13, hs17⟩ rfl (Sub.consE (t := 6) rfl rfl (Sub.cons (t := 0) rfl (Sub.cons (t := 1) rfl (Sub.cons (t := 2) rfl (Sub.cons (t := 4) rfl (Sub.cons (t := 5) rfl (Sub.nil _))))))) (.cons (.there .here) rfl (.cons (.there .here) rfl (.cons (.there .here) rfl (.cons (.there .here) rfl .nil))))
    · refine RunI.new rfl (New.alloc zero_64) rfl rfl rfl (fun b6 => (RunK.toA (.cons .here rfl (.cons .here rfl (.cons .here rfl (.cons .here rfl .nil)))) (.cons (.there .here) rfl (.cons (.there .here) rfl (.cons (.there .here) rfl .nil))) rfl ?_))
      refine RunA.one (i := 3) (by kernel_rfl) (by kernel_rfl) ?_
      refine RunI.callP rfl (isCall_func rfl ent_36) rfl rfl rfl (fun w hm => yisThing_calls g a n hG.l1 w) (RunK.toA (.cons .here rfl (.cons .here rfl (.cons .here rfl (.cons .here rfl .nil)))) (.cons .here rfl (.cons .here rfl (.cons .here rfl (.cons .here rfl .nil)))) rfl ?_)
      refine RunA.one (i := 4) (by kernel_rfl) (by kernel_rfl) ?_
      refine RunI.callTN rfl (isCall_func rfl ent_35) rfl rfl rfl (fun w hm => yopen_calls g a _ w (hG.mono hm)) (fun e13 he13 => ?_) (fun a13 ha13 b13 => (RunK.toA (.cons .here rfl (.cons .here rfl (.cons .here rfl (.cons .here rfl (.cons .here rfl .nil))))) (.cons (.there .here) rfl (.cons (.there .here) rfl (.cons (.there .here) rfl (.cons (.there .here) rfl .nil)))) rfl ?_))
      · refine RunE.panQ_panic (Sub.skip rfl (Sub.skip rfl (Sub.skip rfl (Sub.skip rfl (Sub.skip rfl (Sub.skip rfl (Sub.skip rfl (Sub.skip rfl (Sub.refl _))))))))) (.cons (.there .here) rfl (.cons (.there .here) rfl (.cons (.there .here) rfl .nil))) ?_
        refine RunE.seg_panic ?_
        refine RunE.pass_panic ?_
        exact RunE.panDC yRate_catches ent_46 .here (.r2 rfl (.agg rfl (.tail _ (.head _)) ty_23 rfl) (.one rfl (.head _) ty_31 rfl)) (by simp_all [gRate, askG, b2v])
      obtain ⟨od, -⟩ := openG_ok ha13
      refine RunA.one (i := 8) (by kernel_rfl) (by kernel_rfl) ?_
      refine RunI.callT rfl (isCall_func rfl ent_37) rfl rfl rfl (fun w hm => yaskM_calls g a n _ w (hm.at (.head _)) (hG.mono hm)) (fun e17 he17 => ?_) (fun v17 hv17 => (RunK.toA (.cons .here rfl (.cons .here rfl (.cons .here rfl (.cons .here rfl (.cons .here rfl .nil))))) (.cons .here rfl (.cons .here rfl (.cons .here rfl (.cons .here rfl (.cons .here rfl .nil))))) rfl ?_))
      · obtain ⟨hs17, rfl⟩ := ask1_err he17
        refine RunE.panQ_panic (Sub.skip rfl (Sub.skip rfl (Sub.skip rfl (Sub.skip rfl (Sub.skip rfl (Sub.skip rfl (Sub.skip rfl (Sub.skip rfl (Sub.skip rfl (Sub.refl _)))))))))) (.cons (.there (.there .here)) rfl (.cons (.there (.there .here)) rfl (.cons (.there (.there .here)) rfl .nil))) ?_
        refine RunE.seg_panic ?_
        refine RunE.pass_panic ?_
        exact RunE.panDC yRate_catches ent_46 .here (.r2 rfl (.agg rfl (.tail _ (.head _)) ty_23 rfl) (.one rfl (.head _) ty_31 rfl)) (by simp_all [gRate, askG, b2v])
      obtain ⟨hs17, rfl⟩ := ask1_ok hv17
      refine RunA.toB (by kernel_rfl) ?_
      refine RunB.one (i := 10) (by kernel_rfl) ?_
      refine RunI.sto rfl (Sto.store rfl rfl (.there .here) ty_64 rfl rfl) rfl rfl (RunK.toB ?_)
      refine RunB.done (by kernel_rfl) ?_
      refine RunE.panQ_normal ?_
      exact RunE.joinX b6 ⟨ha13, hs17⟩ rfl (Sub.consE (t := 6) rfl rfl (Sub.cons (t := 0) rfl (Sub.cons (t := 1) rfl (Sub.cons (t := 2) rfl (Sub.cons (t := 4) rfl (Sub.cons (t := 5) rfl (Sub.nil _))))))) (.cons (.there .here) rfl (.cons (.there .here) rfl (.cons (.there .here) rfl (.cons (.there .here) rfl .nil))))
  · intro y yI
    rename Nat => b6
    obtain ⟨ha13, hs17⟩ := yI
    obtain ⟨od, -⟩ := openG_ok ha13
    refine RunE.next ?_
    refine RunC.seq ?_
    refine RunC.region ?_
    refine RunL.val (Val.fieldAddr rfl fld_28_3) rfl rfl rfl ?_
    refine RunL.val (Val.load_one rfl (.tail _ (.tail _ (.tail _ (.head _)))) ty_3 rfl) rfl rfl rfl ?_
    refine RunL.val (Val.fieldAddr rfl fld_28_2) rfl rfl rfl ?_
    refine RunL.val (Val.load_one rfl (.tail _ (.tail _ (.tail _ (.head _)))) ty_3 rfl) rfl rfl rfl ?_
    refine RunL.val (Val.sub' rfl rfl (IntWalk.i64_in _ ⟨by omega, by omega⟩)) rfl rfl rfl ?_
    refine RunL.val (Val.pure rfl) rfl rfl rfl ?_
    refine RunL.nil ?_
    refine RunE.next ?_
    refine RunC.seq ?_
    refine RunC.drawN 9 fol_ (.cons .here rfl (.cons .here rfl (.cons .here rfl (.cons .here rfl .nil)))) ?_
    refine RunA.val (i := 0) rfl (by kernel_rfl) (by kernel_rfl) (Val.fieldAddr rfl fld_64_0) rfl rfl rfl (fun _ _ _ h => h) (.cons .here rfl (.cons .here rfl (.cons .here rfl (.cons .here rfl .nil)))) rfl ?_
    refine RunA.val (i := 1) rfl (by kernel_rfl) (by kernel_rfl) (Val.load_one rfl (.head _) ty_3 rfl) rfl rfl rfl (fun _ _ _ h => h) (.cons .here rfl (.cons .here rfl (.cons .here rfl (.cons .here rfl .nil)))) rfl ?_
    refine RunA.val (i := 2) rfl (by kernel_rfl) (by kernel_rfl) (Val.mul rfl rfl (IntWalk.i64_in _ ⟨by omega, by omega⟩)) rfl rfl rfl (fun _ _ _ h => h) (.cons .here rfl (.cons .here rfl (.cons .here rfl (.cons .here rfl .nil)))) rfl ?_
    refine RunA.val (i := 3) rfl (by kernel_rfl) (by kernel_rfl) (Val.pure rfl) rfl rfl rfl (fun _ _ _ h => h) (.cons .here rfl (.cons .here rfl (.cons .here rfl (.cons .here rfl .nil)))) rfl ?_
    refine RunA.val (i := 5) rfl (by kernel_rfl) (by kernel_rfl) (Val.fieldAddr rfl fld_64_1) rfl rfl rfl (fun _ _ _ h => h) (.cons .here rfl (.cons .here rfl (.cons .here rfl (.cons .here rfl .nil)))) rfl ?_
    refine RunA.val (i := 6) rfl (by kernel_rfl) (by kernel_rfl) (Val.load_one rfl (.head _) ty_3 rfl) rfl rfl rfl (fun _ _ _ h => h) (.cons .here rfl (.cons .here rfl (.cons .here rfl (.cons .here rfl .nil)))) rfl ?_
    refine RunA.val (i := 7) rfl (by kernel_rfl) (by kernel_rfl) (Val.mul rfl rfl (IntWalk.i64_in _ ⟨by omega, by omega⟩)) rfl rfl rfl (fun _ _ _ h => h) (.cons .here rfl (.cons .here rfl (.cons .here rfl (.cons .here rfl .nil)))) rfl ?_
    refine RunA.val (i := 8) rfl (by kernel_rfl) (by kernel_rfl) (Val.pure rfl) rfl rfl rfl (fun _ _ _ h => h) (.cons .here rfl (.cons .here rfl (.cons .here rfl (.cons .here rfl .nil)))) rfl ?_
    refine RunA.one (i := 4) (by kernel_rfl) (by kernel_rfl) ?_
    refine RunI.callP rfl (isCall_func rfl ent_47) rfl rfl rfl (fun w hm => ydown_calls _ _ (by omega) (by omega) w) (RunK.toA (.cons .here rfl (.cons .here rfl (.cons .here rfl (.cons .here rfl .nil)))) (.cons .here rfl (.cons .here rfl (.cons .here rfl (.cons .here rfl .nil)))) rfl ?_)
    refine RunA.toB (by kernel_rfl) ?_
    refine RunB.one (i := 9) (by kernel_rfl) ?_
    refine RunI.callP rfl (isCall_func rfl ent_48) rfl rfl rfl (fun w hm => yup_calls _ _ (by omega) (by omega) w) (RunK.toB ?_)
    refine RunB.one (i := 10) (by kernel_rfl) ?_
    refine RunI.val rfl (Val.build (parts := [(0, .tmp 27), (1, .tmp 32)]) rfl zero_23 places_23 rfl) rfl rfl rfl (RunK.toB ?_)
    refine RunB.one (i := 11) (by kernel_rfl) ?_
    refine RunI.sto rfl (Sto.store rfl rfl (.there (.there .here)) ty_23 rfl rfl) rfl rfl (RunK.toB ?_)
    refine RunB.one (i := 12) (by kernel_rfl) ?_
    refine RunI.sto rfl (Sto.store rfl rfl (.there .here) ty_31 rfl rfl) rfl rfl (RunK.toB ?_)
    refine RunB.done (by kernel_rfl) ?_
    refine RunE.noPan ?_
    refine RunE.next ?_
    refine RunC.ret ?_
    exact RunE.retDC yRate_catches ent_46 (.r2 rfl (.agg rfl (.tail _ (.tail _ (.head _))) ty_23 rfl) (.one rfl (.tail _ (.head _)) ty_31 rfl)) (by simp [gRate, askG, ha13, hs17, b2v, rateZ])
theorem yday_calls (g : Gl) (a : Ga) (p q goal : Int) (b : Nat) (W : World) (hb : W.heap[b]? = some (.cells (g.cells a).toArray 110 (0, 0))) (hp : 0 ≤ p ∧ p ≤ 1100000000) (hq : 0 ≤ q ∧ q ≤ 1100000000) (hg : 0 ≤ goal ∧ goal ≤ 1100000000) (hd : 0 ≤ g.d1 ∧ g.d1 < g.d2 ∧ g.d2 ≤ 65536) :
    Calls Try.prog 59 #[.pointer (some ⟨b, 0, none⟩), .int .i64 p, .int .i64 q, .int .i64 goal] W (Pure (.int .i64 (dayG g p q goal)) W) := by
  refine calls_start Try.func59 rfl rfl ?_
  refine RunC.seq ?_
  refine RunC.region ?_
  refine RunL.val (Val.pure rfl) rfl rfl rfl ?_
  refine RunL.nil ?_
  refine RunE.next ?_
  refine RunC.seq ?_
  refine RunC.block ?_
  refine RunC.seq ?_
  refine RunC.region ?_
  iterate 4 refine RunL.val (Val.pure rfl) rfl rfl rfl ?_
  refine RunL.nil ?_
  refine RunE.next ?_
  refine RunC.cond rfl ?_ ?_
  · intro c0
    have c0' := c0; clear c0
    try simp only [decide_eq_true_eq, decide_eq_false_iff_not, Bool.not_eq_true', Bool.not_eq_false', Bool.and_eq_true, Bool.or_eq_true, Bool.and_eq_false_iff, Bool.or_eq_false_iff, Int.not_le, Int.not_lt] at c0'
    refine RunC.seq ?_
    refine RunC.region ?_
    refine RunL.val (Val.pure rfl) rfl rfl rfl ?_
    refine RunL.val (Val.pure rfl) rfl rfl rfl ?_
    refine RunL.val (Val.fieldAddr rfl fld_110_0) rfl rfl rfl ?_
    refine RunL.val (Val.fieldAddr rfl fld_28_3) rfl rfl rfl ?_
    refine RunL.val (Val.oload_one rfl hb (by simp) ty_3 rfl) rfl rfl rfl ?_
    refine RunL.val (Val.pure rfl) rfl rfl rfl ?_
    refine RunL.nil ?_
    refine RunE.next ?_
    refine RunC.ret ?_
    refine RunE.block_ret ?_
    refine RunE.pass_ret ?_
    exact RunE.retP (.r1 rfl (.tmp rfl)) (by simp only [dayG]; rw [if_pos c0'])
  · intro c0
    have c0' := c0; clear c0
    try simp only [decide_eq_true_eq, decide_eq_false_iff_not, Bool.not_eq_true', Bool.not_eq_false', Bool.and_eq_true, Bool.or_eq_true, Bool.and_eq_false_iff, Bool.or_eq_false_iff, Int.not_le, Int.not_lt] at c0'
    refine RunC.seq ?_
    refine RunC.region ?_
    iterate 4 refine RunL.val (Val.pure rfl) rfl rfl rfl ?_
    refine RunL.nil ?_
    refine RunE.next ?_
    refine RunC.cond rfl ?_ ?_
    · intro c1
      have c1' := c1; clear c1
      try simp only [decide_eq_true_eq, decide_eq_false_iff_not, Bool.not_eq_true', Bool.not_eq_false', Bool.and_eq_true, Bool.or_eq_true, Bool.and_eq_false_iff, Bool.or_eq_false_iff, Int.not_le, Int.not_lt] at c1'
      refine RunC.seq ?_
      refine RunC.region ?_
      refine RunL.val (Val.pure rfl) rfl rfl rfl ?_
      refine RunL.nil ?_
      refine RunE.next ?_
      refine RunC.ret ?_
      refine RunE.block_ret ?_
      refine RunE.pass_ret ?_
      exact RunE.retP (.r1 rfl (.tmp rfl)) (by simp only [dayG]; rw [if_neg (by omega), if_pos c1'])
    · intro c1
      have c1' := c1; clear c1
      try simp only [decide_eq_true_eq, decide_eq_false_iff_not, Bool.not_eq_true', Bool.not_eq_false', Bool.and_eq_true, Bool.or_eq_true, Bool.and_eq_false_iff, Bool.or_eq_false_iff, Int.not_le, Int.not_lt] at c1'
      refine RunC.skip ?_
      refine RunE.block_normal ?_
      refine RunE.next ?_
      refine RunC.seq ?_
      refine RunC.draw 24 fol_ .nil ?_
      have hm1 := mul_bd (a := q - goal) (b := g.d2 - g.d1) (A := 1100000000) (B := 65536) (by omega) (by omega) (by omega) (by omega)
      have hu := ediv_bd (a := -((q - goal) * (g.d2 - g.d1))) (b := p - q) (M := 80000000000000) (by omega) (by omega)
      refine RunA.val (i := 0) rfl (by kernel_rfl) (by kernel_rfl) (Val.pure rfl) rfl rfl rfl (fun _ _ _ h => h) .nil rfl ?_
      refine RunA.val (i := 1) rfl (by kernel_rfl) (by kernel_rfl) (Val.pure rfl) rfl rfl rfl (fun _ _ _ h => h) .nil rfl ?_
      refine RunA.val (i := 2) rfl (by kernel_rfl) (by kernel_rfl) (Val.fieldAddr rfl fld_110_0) rfl rfl rfl (fun _ _ _ h => h) .nil rfl ?_
      refine RunA.val (i := 3) rfl (by kernel_rfl) (by kernel_rfl) (Val.fieldAddr rfl fld_28_3) rfl rfl rfl (fun _ _ _ h => h) .nil rfl ?_
      refine RunA.val (i := 4) rfl (by kernel_rfl) (by kernel_rfl) (Val.oload_one rfl hb (by simp) ty_3 rfl) rfl rfl rfl (fun _ _ _ h => h) .nil rfl ?_
      refine RunA.val (i := 5) rfl (by kernel_rfl) (by kernel_rfl) (Val.pure rfl) rfl rfl rfl (fun _ _ _ h => h) .nil rfl ?_
      refine RunA.val (i := 6) rfl (by kernel_rfl) (by kernel_rfl) (Val.pure rfl) rfl rfl rfl (fun _ _ _ h => h) .nil rfl ?_
      refine RunA.val (i := 7) rfl (by kernel_rfl) (by kernel_rfl) (Val.sub' rfl rfl (IntWalk.i64_in _ ⟨by omega, by omega⟩)) rfl rfl rfl (fun _ _ _ h => h) .nil rfl ?_
      refine RunA.val (i := 8) rfl (by kernel_rfl) (by kernel_rfl) (Val.pure rfl) rfl rfl rfl (fun _ _ _ h => h) .nil rfl ?_
      refine RunA.val (i := 9) rfl (by kernel_rfl) (by kernel_rfl) (Val.pure rfl) rfl rfl rfl (fun _ _ _ h => h) .nil rfl ?_
      refine RunA.val (i := 10) rfl (by kernel_rfl) (by kernel_rfl) (Val.fieldAddr rfl fld_110_0) rfl rfl rfl (fun _ _ _ h => h) .nil rfl ?_
      refine RunA.val (i := 11) rfl (by kernel_rfl) (by kernel_rfl) (Val.fieldAddr rfl fld_28_3) rfl rfl rfl (fun _ _ _ h => h) .nil rfl ?_
      refine RunA.val (i := 12) rfl (by kernel_rfl) (by kernel_rfl) (Val.oload_one rfl hb (by simp) ty_3 rfl) rfl rfl rfl (fun _ _ _ h => h) .nil rfl ?_
      refine RunA.val (i := 13) rfl (by kernel_rfl) (by kernel_rfl) (Val.pure rfl) rfl rfl rfl (fun _ _ _ h => h) .nil rfl ?_
      refine RunA.val (i := 14) rfl (by kernel_rfl) (by kernel_rfl) (Val.pure rfl) rfl rfl rfl (fun _ _ _ h => h) .nil rfl ?_
      refine RunA.val (i := 15) rfl (by kernel_rfl) (by kernel_rfl) (Val.fieldAddr rfl fld_110_0) rfl rfl rfl (fun _ _ _ h => h) .nil rfl ?_
      refine RunA.val (i := 16) rfl (by kernel_rfl) (by kernel_rfl) (Val.fieldAddr rfl fld_28_2) rfl rfl rfl (fun _ _ _ h => h) .nil rfl ?_
      refine RunA.val (i := 17) rfl (by kernel_rfl) (by kernel_rfl) (Val.oload_one rfl hb (by simp) ty_3 rfl) rfl rfl rfl (fun _ _ _ h => h) .nil rfl ?_
      refine RunA.val (i := 18) rfl (by kernel_rfl) (by kernel_rfl) (Val.sub' rfl rfl (IntWalk.i64_in _ ⟨by omega, by omega⟩)) rfl rfl rfl (fun _ _ _ h => h) .nil rfl ?_
      refine RunA.val (i := 19) rfl (by kernel_rfl) (by kernel_rfl) (Val.mul rfl rfl (IntWalk.i64_in _ ⟨by omega, by omega⟩)) rfl rfl rfl (fun _ _ _ h => h) .nil rfl ?_
      refine RunA.val (i := 20) rfl (by kernel_rfl) (by kernel_rfl) (Val.pure rfl) rfl rfl rfl (fun _ _ _ h => h) .nil rfl ?_
      refine RunA.val (i := 21) rfl (by kernel_rfl) (by kernel_rfl) (Val.pure rfl) rfl rfl rfl (fun _ _ _ h => h) .nil rfl ?_
      refine RunA.val (i := 22) rfl (by kernel_rfl) (by kernel_rfl) (Val.sub' rfl rfl (IntWalk.i64_in _ ⟨by omega, by omega⟩)) rfl rfl rfl (fun _ _ _ h => h) .nil rfl ?_
      refine RunA.one (i := 23) (by kernel_rfl) (by kernel_rfl) ?_
      refine RunI.callP rfl (isCall_func rfl ent_48) rfl rfl rfl (fun w hm => yup_calls _ _ (by omega) (by omega) w) (RunK.toA .nil .nil rfl ?_)
      refine RunA.toB (by kernel_rfl) ?_
      refine RunB.one (i := 24) (by kernel_rfl) ?_
      refine RunI.val rfl (Val.add rfl rfl (IntWalk.i64_in _ ⟨by omega, by omega⟩)) rfl rfl rfl (RunK.toB ?_)
      refine RunB.one (i := 25) (by kernel_rfl) ?_
      refine RunI.val rfl (Val.pure rfl) rfl rfl rfl (RunK.toB ?_)
      refine RunB.done (by kernel_rfl) ?_
      refine RunE.next ?_
      refine RunC.seq ?_
      refine RunC.seq ?_
      refine RunC.region ?_
      refine RunL.val (Val.pure rfl) rfl rfl rfl ?_
      refine RunL.val (Val.pure rfl) rfl rfl rfl ?_
      refine RunL.nil ?_
      refine RunE.next ?_
      refine RunC.cond rfl ?_ ?_
      · intro c2
        have c2' := c2; clear c2
        try simp only [decide_eq_true_eq, decide_eq_false_iff_not, Bool.not_eq_true', Bool.not_eq_false', Bool.and_eq_true, Bool.or_eq_true, Bool.and_eq_false_iff, Bool.or_eq_false_iff, Int.not_le, Int.not_lt] at c2'
        refine RunC.seq ?_
        refine RunC.region ?_
        refine RunL.val (Val.pure rfl) rfl rfl rfl ?_
        refine RunL.nil ?_
        refine RunE.next ?_
        refine RunC.ret ?_
        refine RunE.pass_ret ?_
        exact RunE.retP (.r1 rfl (.tmp rfl)) (by simp only [dayG]; rw [if_neg (by omega), if_neg (by omega), if_pos c2'])
      · intro c2
        have c2' := c2; clear c2
        try simp only [decide_eq_true_eq, decide_eq_false_iff_not, Bool.not_eq_true', Bool.not_eq_false', Bool.and_eq_true, Bool.or_eq_true, Bool.and_eq_false_iff, Bool.or_eq_false_iff, Int.not_le, Int.not_lt] at c2'
        refine RunC.skip ?_
        refine RunE.next ?_
        refine RunC.seq ?_
        refine RunC.region ?_
        refine RunL.val (Val.pure rfl) rfl rfl rfl ?_
        refine RunL.val (Val.pure rfl) rfl rfl rfl ?_
        refine RunL.nil ?_
        refine RunE.next ?_
        refine RunC.ret ?_
        exact RunE.retP (.r1 rfl (.tmp rfl)) (by simp only [dayG]; rw [if_neg (by omega), if_neg (by omega), if_neg (by omega)])
theorem yArrives_calls (g : Gl) (a : Ga) (n goal : Int) (W : World) (hG : GIn W g a) : Calls Try.prog 21 #[g.v a, .int .i64 n, .int .i64 goal] W (Pure (.tuple #[.int .i64 (gArrives g n goal).1.1, .int .i64 (gArrives g n goal).1.2, .int .i64 (gArrives g n goal).2]) W) := by
  obtain ⟨z1, z2, z3, z4⟩ := farG_ok g n
  refine calls_start_defers Try.func21 rfl rfl ?_
  refine RunC.seq ?_
  refine RunC.region ?_
  refine RunL.new (New.box rfl) rfl rfl rfl (fun b3 => ?_)
  refine RunL.val (Val.pure rfl) rfl rfl rfl ?_
  refine RunL.val (Val.pure rfl) rfl rfl rfl ?_
  refine RunL.new (New.alloc zero_31) rfl rfl rfl (fun b8 => ?_)
  refine RunL.nil ?_
  refine RunE.next ?_
  refine RunC.seq ?_
  refine RunC.region ?_
  refine RunL.val (Val.pure rfl) rfl rfl rfl ?_
  refine RunL.deferC rfl ?_
  refine RunL.nil ?_
  refine RunE.next ?_
  refine RunC.seq ?_
  refine RunC.drawP 8 fol_ (.cons .here rfl (.cons .here rfl .nil)) ?_
  refine RunA.val (i := 0) rfl (by kernel_rfl) (by kernel_rfl) (Val.load_agg rfl (.tail _ (.head _)) ty_28 rfl) rfl rfl rfl (PanQ.back rfl) (.cons .here rfl (.cons .here rfl .nil)) rfl ?_
  refine RunA.val (i := 1) rfl (by kernel_rfl) (by kernel_rfl) (Val.load_agg rfl (.tail _ (.head _)) ty_28 rfl) rfl rfl rfl (PanQ.back rfl) (.cons .here rfl (.cons .here rfl .nil)) rfl ?_
  refine RunA.val (i := 2) rfl (by kernel_rfl) (by kernel_rfl) (Val.pure rfl) rfl rfl rfl (PanQ.back rfl) (.cons .here rfl (.cons .here rfl .nil)) rfl ?_
  refine RunA.one (i := 3) (by kernel_rfl) (by kernel_rfl) ?_
  refine RunI.callP rfl (isCall_func rfl ent_36) rfl rfl rfl (fun w hm => yisThing_calls g a n hG.l1 w) (RunK.toA (.cons .here rfl (.cons .here rfl .nil)) (.cons .here rfl (.cons .here rfl .nil)) rfl ?_)
  refine RunA.val (i := 4) rfl (by kernel_rfl) (by kernel_rfl) (Val.pure rfl) rfl rfl rfl (PanQ.back rfl) (.cons .here rfl (.cons .here rfl .nil)) rfl ?_
  refine RunA.ways (dj := 18) rfl ?_ ?_
  · intro g18
    have g18' := g18; clear g18
    try simp only [decide_eq_true_eq, decide_eq_false_iff_not, Bool.not_eq_true', Bool.not_eq_false', Bool.and_eq_true, Bool.or_eq_true, Bool.and_eq_false_iff, Bool.or_eq_false_iff, Int.not_le, Int.not_lt] at g18'
    refine RunA.val (i := 5) rfl (by kernel_rfl) (by kernel_rfl) (Val.pure rfl) rfl rfl rfl (PanQ.back rfl) (.cons .here rfl (.cons .here rfl .nil)) rfl ?_
    refine RunA.one (i := 6) (by kernel_rfl) (by kernel_rfl) ?_
    refine RunI.callP rfl (isCall_func rfl ent_53) rfl rfl rfl (fun w hm => ywithin_calls _ _ _ w) (RunK.toA (.cons .here rfl (.cons .here rfl .nil)) (.cons .here rfl (.cons .here rfl .nil)) rfl ?_)
    refine RunA.val (i := 7) rfl (by kernel_rfl) (by kernel_rfl) (Val.pure rfl) rfl rfl rfl (PanQ.back rfl) (.cons .here rfl (.cons .here rfl .nil)) rfl ?_
    refine RunA.toB (by kernel_rfl) ?_
    refine RunB.one (i := 8) (by kernel_rfl) ?_
    refine RunI.callTN rfl (isCall_func rfl ent_35) rfl rfl rfl (fun w hm => yopen_calls g a _ w (hG.mono hm)) (fun e22 he22 => ?_) (fun a22 ha22 b22 => (RunK.toB ?_))
    · refine RunE.panQ_panic (Sub.skip rfl (Sub.skip rfl (Sub.skip rfl (Sub.skip rfl (Sub.skip rfl (Sub.skip rfl (Sub.skip rfl (Sub.skip rfl (Sub.skip rfl (Sub.refl _)))))))))) (.cons .here rfl (.cons .here rfl .nil)) ?_
      refine RunE.pass_panic ?_
      exact RunE.panDC yArrives_catches ent_58 .here (.r3 rfl (.tmp rfl) (.tmp rfl) (.one rfl (.head _) ty_31 rfl)) (by simp_all [gArrives, arrG])
    obtain ⟨od, og0⟩ := openG_ok ha22
    have og : 0 ≤ goal ∧ goal ≤ 1073741824 := by first | (cases og0; done) | (simp only [within, Bool.and_eq_true, decide_eq_true_eq] at og0; exact og0)
    refine RunB.one (i := 9) (by kernel_rfl) ?_
    refine RunI.val rfl (Val.pure rfl) rfl rfl rfl (RunK.toB ?_)
    refine RunB.done (by kernel_rfl) ?_
    refine RunE.panQ_normal ?_
    refine RunE.next ?_
    refine RunC.seq ?_
    refine RunC.region ?_
    refine RunL.val (Val.pure rfl) rfl rfl rfl ?_
    refine RunL.val (Val.pure rfl) rfl rfl rfl ?_
    refine RunL.callP (isCall_func rfl ent_41) rfl rfl rfl (fun w hm => yfar_calls g a n _ w (hm.at (.head _)) (hG.mono hm)) ?_
    iterate 3 refine RunL.val (Val.pure rfl) rfl rfl rfl ?_
    refine RunL.new (New.alloc zero_72) rfl rfl rfl (fun b10 => ?_)
    refine RunL.sto (Sto.store rfl rfl .here ty_72 rfl rfl) rfl rfl ?_
    refine RunL.val (Val.pure rfl) rfl rfl rfl ?_
    refine RunL.nil ?_
    refine RunE.next ?_
    refine RunC.seq ?_
    refine RunC.region ?_
    refine RunL.val (Val.pure rfl) rfl rfl rfl ?_
    refine RunL.callT (isCall_func rfl ent_42) rfl rfl rfl (fun w hm => yneed_calls _ _ w) (fun e30 he30 => ?_) (fun v30 hv30 => ?_)
    · obtain ⟨er30, rfl⟩ := need_err he30
      refine RunE.pass_panic ?_
      exact RunE.panDC yArrives_catches ent_58 (.there (.there .here)) (.r3 rfl (.tmp rfl) (.tmp rfl) (.one rfl (.tail _ (.tail _ (.head _))) ty_31 rfl)) (by simp_all [gArrives, arrG])
    obtain ⟨ok30, rfl⟩ := need_ok hv30
    refine RunL.nil ?_
    refine RunE.next ?_
    refine RunC.seq ?_
    refine RunC.region ?_
    refine RunL.val (Val.pure rfl) rfl rfl rfl ?_
    refine RunL.val (Val.indexAddr_arr rfl rfl arr_72 (by decide) (by decide)) rfl rfl rfl ?_
    refine RunL.val (Val.fieldAddr rfl fld_64_1) rfl rfl rfl ?_
    refine RunL.val (Val.load_one rfl (.head _) ty_3 rfl) rfl rfl rfl ?_
    refine RunL.val (Val.indexAddr_arr rfl rfl arr_72 (by decide) (by decide)) rfl rfl rfl ?_
    refine RunL.val (Val.fieldAddr rfl fld_64_0) rfl rfl rfl ?_
    refine RunL.val (Val.load_one rfl (.head _) ty_3 rfl) rfl rfl rfl ?_
    refine RunL.val (Val.pure rfl) rfl rfl rfl ?_
    refine RunL.callP (isCall_func rfl ent_59) rfl rfl rfl (fun w hm => yday_calls g a (farG g n).1.2 (farG g n).2.1 goal _ w (hm.at (.tail _ (.head _))) z2 z3 (by omega) od) ?_
    refine RunL.val (Val.pure rfl) rfl rfl rfl ?_
    refine RunL.nil ?_
    refine RunE.next ?_
    refine RunC.seq ?_
    refine RunC.region ?_
    refine RunL.val (Val.pure rfl) rfl rfl rfl ?_
    refine RunL.val (Val.pure rfl) rfl rfl rfl ?_
    refine RunL.callT (isCall_func rfl ent_42) rfl rfl rfl (fun w hm => yneed_calls _ _ w) (fun e42 he42 => ?_) (fun v42 hv42 => ?_)
    · obtain ⟨er42, rfl⟩ := need_err he42
      refine RunE.pass_panic ?_
      exact RunE.panDC yArrives_catches ent_58 (.there (.there .here)) (.r3 rfl (.tmp rfl) (.tmp rfl) (.one rfl (.tail _ (.tail _ (.head _))) ty_31 rfl)) (by simp_all [gArrives, arrG])
    obtain ⟨ok42, rfl⟩ := need_ok hv42
    refine RunL.nil ?_
    refine RunE.next ?_
    refine RunC.seq ?_
    refine RunC.region ?_
    refine RunL.val (Val.pure rfl) rfl rfl rfl ?_
    refine RunL.val (Val.pure rfl) rfl rfl rfl ?_
    refine RunL.val (Val.indexAddr_arr rfl rfl arr_72 (by decide) (by decide)) rfl rfl rfl ?_
    refine RunL.val (Val.fieldAddr rfl fld_64_0) rfl rfl rfl ?_
    refine RunL.val (Val.load_one rfl (.head _) ty_3 rfl) rfl rfl rfl ?_
    refine RunL.val (Val.indexAddr_arr rfl rfl arr_72 (by decide) (by decide)) rfl rfl rfl ?_
    refine RunL.val (Val.fieldAddr rfl fld_64_1) rfl rfl rfl ?_
    refine RunL.val (Val.load_one rfl (.head _) ty_3 rfl) rfl rfl rfl ?_
    refine RunL.val (Val.pure rfl) rfl rfl rfl ?_
    refine RunL.callP (isCall_func rfl ent_59) rfl rfl rfl (fun w hm => yday_calls g a (farG g n).1.1 (farG g n).2.2 goal _ w (hm.at (.tail _ (.head _))) z1 z4 (by omega) od) ?_
    refine RunL.val (Val.pure rfl) rfl rfl rfl ?_
    refine RunL.val (Val.pure rfl) rfl rfl rfl ?_
    refine RunL.sto (Sto.store rfl rfl (.there (.there .here)) ty_31 rfl rfl) rfl rfl ?_
    refine RunL.nil ?_
    refine RunE.next ?_
    refine RunC.ret ?_
    exact RunE.retDC yArrives_catches ent_58 (.r3 rfl (.tmp rfl) (.tmp rfl) (.one rfl (.tail _ (.tail _ (.head _))) ty_31 rfl)) (by simp_all [gArrives, arrG])
  · intro g18
    have g18' := g18; clear g18
    try simp only [decide_eq_true_eq, decide_eq_false_iff_not, Bool.not_eq_true', Bool.not_eq_false', Bool.and_eq_true, Bool.or_eq_true, Bool.and_eq_false_iff, Bool.or_eq_false_iff, Int.not_le, Int.not_lt] at g18'
    refine RunA.no (i := 5) rfl (by kernel_rfl) (by kernel_rfl) rfl rfl rfl (PanQ.back rfl) (.cons .here rfl (.cons .here rfl .nil)) rfl ?_
    refine RunA.one (i := 6) (by kernel_rfl) (by kernel_rfl) ?_
    refine RunI.no rfl rfl rfl rfl (RunK.toA (.cons .here rfl (.cons .here rfl .nil)) (.cons .here rfl (.cons .here rfl .nil)) rfl ?_)
    refine RunA.val (i := 7) rfl (by kernel_rfl) (by kernel_rfl) (Val.pure rfl) rfl rfl rfl (PanQ.back rfl) (.cons .here rfl (.cons .here rfl .nil)) rfl ?_
    refine RunA.toB (by kernel_rfl) ?_
    refine RunB.one (i := 8) (by kernel_rfl) ?_
    refine RunI.callTN rfl (isCall_func rfl ent_35) rfl rfl rfl (fun w hm => yopen_calls g a _ w (hG.mono hm)) (fun e22 he22 => ?_) (fun a22 ha22 b22 => (RunK.toB ?_))
    · refine RunE.panQ_panic (Sub.skip rfl (Sub.skip rfl (Sub.skip rfl (Sub.skip rfl (Sub.skip rfl (Sub.skip rfl (Sub.skip rfl (Sub.skip rfl (Sub.skip rfl (Sub.refl _)))))))))) (.cons .here rfl (.cons .here rfl .nil)) ?_
      refine RunE.pass_panic ?_
      exact RunE.panDC yArrives_catches ent_58 .here (.r3 rfl (.tmp rfl) (.tmp rfl) (.one rfl (.head _) ty_31 rfl)) (by simp_all [gArrives, arrG])
    obtain ⟨od, og0⟩ := openG_ok ha22
    have og : 0 ≤ goal ∧ goal ≤ 1073741824 := by first | (cases og0; done) | (simp only [within, Bool.and_eq_true, decide_eq_true_eq] at og0; exact og0)
    refine RunB.one (i := 9) (by kernel_rfl) ?_
    refine RunI.val rfl (Val.pure rfl) rfl rfl rfl (RunK.toB ?_)
    refine RunB.done (by kernel_rfl) ?_
    refine RunE.panQ_normal ?_
    refine RunE.next ?_
    refine RunC.seq ?_
    refine RunC.region ?_
    refine RunL.val (Val.pure rfl) rfl rfl rfl ?_
    refine RunL.val (Val.pure rfl) rfl rfl rfl ?_
    refine RunL.callP (isCall_func rfl ent_41) rfl rfl rfl (fun w hm => yfar_calls g a n _ w (hm.at (.head _)) (hG.mono hm)) ?_
    iterate 3 refine RunL.val (Val.pure rfl) rfl rfl rfl ?_
    refine RunL.new (New.alloc zero_72) rfl rfl rfl (fun b10 => ?_)
    refine RunL.sto (Sto.store rfl rfl .here ty_72 rfl rfl) rfl rfl ?_
    refine RunL.val (Val.pure rfl) rfl rfl rfl ?_
    refine RunL.nil ?_
    refine RunE.next ?_
    refine RunC.seq ?_
    refine RunC.region ?_
    refine RunL.val (Val.pure rfl) rfl rfl rfl ?_
    refine RunL.callT (isCall_func rfl ent_42) rfl rfl rfl (fun w hm => yneed_calls _ _ w) (fun e30 he30 => ?_) (fun v30 hv30 => ?_)
    · obtain ⟨er30, rfl⟩ := need_err he30
      refine RunE.pass_panic ?_
      exact RunE.panDC yArrives_catches ent_58 (.there (.there .here)) (.r3 rfl (.tmp rfl) (.tmp rfl) (.one rfl (.tail _ (.tail _ (.head _))) ty_31 rfl)) (by simp_all [gArrives, arrG])
    obtain ⟨ok30, rfl⟩ := need_ok hv30
    refine RunL.nil ?_
    refine RunE.next ?_
    refine RunC.seq ?_
    refine RunC.region ?_
    refine RunL.val (Val.pure rfl) rfl rfl rfl ?_
    refine RunL.val (Val.indexAddr_arr rfl rfl arr_72 (by decide) (by decide)) rfl rfl rfl ?_
    refine RunL.val (Val.fieldAddr rfl fld_64_1) rfl rfl rfl ?_
    refine RunL.val (Val.load_one rfl (.head _) ty_3 rfl) rfl rfl rfl ?_
    refine RunL.val (Val.indexAddr_arr rfl rfl arr_72 (by decide) (by decide)) rfl rfl rfl ?_
    refine RunL.val (Val.fieldAddr rfl fld_64_0) rfl rfl rfl ?_
    refine RunL.val (Val.load_one rfl (.head _) ty_3 rfl) rfl rfl rfl ?_
    refine RunL.val (Val.pure rfl) rfl rfl rfl ?_
    refine RunL.callP (isCall_func rfl ent_59) rfl rfl rfl (fun w hm => yday_calls g a (farG g n).1.2 (farG g n).2.1 goal _ w (hm.at (.tail _ (.head _))) z2 z3 (by omega) od) ?_
    refine RunL.val (Val.pure rfl) rfl rfl rfl ?_
    refine RunL.nil ?_
    refine RunE.next ?_
    refine RunC.seq ?_
    refine RunC.region ?_
    refine RunL.val (Val.pure rfl) rfl rfl rfl ?_
    refine RunL.val (Val.pure rfl) rfl rfl rfl ?_
    refine RunL.callT (isCall_func rfl ent_42) rfl rfl rfl (fun w hm => yneed_calls _ _ w) (fun e42 he42 => ?_) (fun v42 hv42 => ?_)
    · obtain ⟨er42, rfl⟩ := need_err he42
      refine RunE.pass_panic ?_
      exact RunE.panDC yArrives_catches ent_58 (.there (.there .here)) (.r3 rfl (.tmp rfl) (.tmp rfl) (.one rfl (.tail _ (.tail _ (.head _))) ty_31 rfl)) (by simp_all [gArrives, arrG])
    obtain ⟨ok42, rfl⟩ := need_ok hv42
    refine RunL.nil ?_
    refine RunE.next ?_
    refine RunC.seq ?_
    refine RunC.region ?_
    refine RunL.val (Val.pure rfl) rfl rfl rfl ?_
    refine RunL.val (Val.pure rfl) rfl rfl rfl ?_
    refine RunL.val (Val.indexAddr_arr rfl rfl arr_72 (by decide) (by decide)) rfl rfl rfl ?_
    refine RunL.val (Val.fieldAddr rfl fld_64_0) rfl rfl rfl ?_
    refine RunL.val (Val.load_one rfl (.head _) ty_3 rfl) rfl rfl rfl ?_
    refine RunL.val (Val.indexAddr_arr rfl rfl arr_72 (by decide) (by decide)) rfl rfl rfl ?_
    refine RunL.val (Val.fieldAddr rfl fld_64_1) rfl rfl rfl ?_
    refine RunL.val (Val.load_one rfl (.head _) ty_3 rfl) rfl rfl rfl ?_
    refine RunL.val (Val.pure rfl) rfl rfl rfl ?_
    refine RunL.callP (isCall_func rfl ent_59) rfl rfl rfl (fun w hm => yday_calls g a (farG g n).1.1 (farG g n).2.2 goal _ w (hm.at (.tail _ (.head _))) z1 z4 (by omega) od) ?_
    refine RunL.val (Val.pure rfl) rfl rfl rfl ?_
    refine RunL.val (Val.pure rfl) rfl rfl rfl ?_
    refine RunL.sto (Sto.store rfl rfl (.there (.there .here)) ty_31 rfl rfl) rfl rfl ?_
    refine RunL.nil ?_
    refine RunE.next ?_
    refine RunC.ret ?_
    exact RunE.retDC yArrives_catches ent_58 (.r3 rfl (.tmp rfl) (.tmp rfl) (.one rfl (.tail _ (.tail _ (.head _))) ty_31 rfl)) (by simp_all [gArrives, arrG])
end Go.Proofs.Ytjijeeadmhpfcaa
