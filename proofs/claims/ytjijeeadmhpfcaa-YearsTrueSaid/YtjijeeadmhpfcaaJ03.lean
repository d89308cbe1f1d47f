/- Walks of package years: Heights, Rate, and the day on which a thing is there. -/
import Derived.Test.YtjijeeadmhpfcaaJ02
import Derived.RangeFuncNested
import Derived.OrdersIn
set_option linter.unusedSimpArgs false
set_option linter.unusedVariables false
namespace Go.Proofs.Ytjijeeadmhpfcaa
open Go Go.Eng Go.Pw1

theorem yHeights_calls (g : Gl) (a : Ga) (n : Int) (W : World) (hG : GIn W g a) : Calls Try.prog 13 #[g.v a, .int .i64 n] W (Pure (.tuple #[b2v (gHeights g n).1.1, b2v (gHeights g n).1.2, .int .i64 (gHeights g n).2]) W) := by
  refine calls_start_defers Try.func13 rfl rfl ?_
  refine RunC.seq ?_
  refine RunC.region ?_
  refine RunL.new (New.box rfl) rfl rfl rfl (fun b2 => ?_)
  refine RunL.new (New.alloc zero_23) rfl rfl rfl (fun b4 => ?_)
  refine RunL.new (New.alloc zero_23) rfl rfl rfl (fun b5 => ?_)
  refine RunL.new (New.alloc zero_31) rfl rfl rfl (fun b6 => ?_)
  refine RunL.nil ?_
  refine RunE.next ?_
  refine RunC.seq ?_
  refine RunC.region ?_
  refine RunL.val (Val.pure rfl) rfl rfl rfl ?_
  refine RunL.deferC rfl ?_
  refine RunL.nil ?_
  refine RunE.next ?_
  refine RunC.seq ?_
  refine RunC.drawP 4 fol_ (.cons .here rfl (.cons .here rfl (.cons .here rfl (.cons .here rfl .nil)))) ?_
  refine RunA.val (i := 0) rfl (by kernel_rfl) (by kernel_rfl) (Val.load_agg rfl (.tail _ (.tail _ (.tail _ (.head _)))) ty_28 rfl) rfl rfl rfl (PanQ.back rfl) (.cons .here rfl (.cons .here rfl (.cons .here rfl (.cons .here rfl .nil)))) rfl ?_
  refine RunA.val (i := 1) rfl (by kernel_rfl) (by kernel_rfl) (Val.load_agg rfl (.tail _ (.tail _ (.tail _ (.head _)))) ty_28 rfl) rfl rfl rfl (PanQ.back rfl) (.cons .here rfl (.cons .here rfl (.cons .here rfl (.cons .here rfl .nil)))) rfl ?_
  refine RunA.val (i := 2) rfl (by kernel_rfl) (by kernel_rfl) (Val.pure rfl) rfl rfl rfl (PanQ.back rfl) (.cons .here rfl (.cons .here rfl (.cons .here rfl (.cons .here rfl .nil)))) rfl ?_
  refine RunA.one (i := 3) (by kernel_rfl) (by kernel_rfl) ?_
  refine RunI.callP rfl (isCall_func rfl ent_36) rfl rfl rfl (fun w hm => yisThing_calls g a n hG.l1 w) (RunK.toA (.cons .here rfl (.cons .here rfl (.cons .here rfl (.cons .here rfl .nil)))) (.cons .here rfl (.cons .here rfl (.cons .here rfl (.cons .here rfl .nil)))) rfl ?_)
  refine RunA.toB (by kernel_rfl) ?_
  refine RunB.one (i := 4) (by kernel_rfl) ?_
  refine RunI.callTN rfl (isCall_func rfl ent_35) rfl rfl rfl (fun w hm => yopen_calls g a _ w (hG.mono hm)) (fun e16 he16 => ?_) (fun a16 ha16 b16 => (RunK.toB ?_))
  · refine RunE.panQ_panic (Sub.skip rfl (Sub.skip rfl (Sub.skip rfl (Sub.skip rfl (Sub.refl _))))) (.cons .here rfl (.cons .here rfl (.cons .here rfl (.cons .here rfl .nil)))) ?_
    refine RunE.pass_panic ?_
    exact RunE.panDC yHeights_catches ent_40 .here (.r3 rfl (.agg rfl (.tail _ (.tail _ (.head _))) ty_23 rfl) (.agg rfl (.tail _ (.head _)) ty_23 rfl) (.one rfl (.head _) ty_31 rfl)) (by simp [gHeights, askG, he16, b2v])
  refine RunB.one (i := 5) (by kernel_rfl) ?_
  refine RunI.val rfl (Val.pure rfl) rfl rfl rfl (RunK.toB ?_)
  refine RunB.done (by kernel_rfl) ?_
  refine RunE.panQ_normal ?_
  refine RunE.next ?_
  refine RunC.seq ?_
  refine RunC.region ?_
  refine RunL.val (Val.pure rfl) rfl rfl rfl ?_
  refine RunL.val (Val.pure rfl) rfl rfl rfl ?_
  refine RunL.callP (isCall_func rfl ent_41) rfl rfl rfl (fun w hm => yfar_calls g a n _ w (hm.at (.head _)) (hG.mono hm)) ?_
  iterate 3 refine RunL.val (Val.pure rfl) rfl rfl rfl ?_
  refine RunL.new (New.alloc zero_72) rfl rfl rfl (fun b8 => ?_)
  refine RunL.sto (Sto.store rfl rfl .here ty_72 rfl rfl) rfl rfl ?_
  refine RunL.val (Val.pure rfl) rfl rfl rfl ?_
  refine RunL.nil ?_
  refine RunE.next ?_
  refine RunC.seq ?_
  refine RunC.region ?_
  refine RunL.val (Val.pure rfl) rfl rfl rfl ?_
  refine RunL.callT (isCall_func rfl ent_42) rfl rfl rfl (fun w hm => yneed_calls _ _ w) (fun e24 he24 => ?_) (fun v24 hv24 => ?_)
  · obtain ⟨er24, rfl⟩ := need_err he24
    refine RunE.pass_panic ?_
    exact RunE.panDC yHeights_catches ent_40 (.there (.there .here)) (.r3 rfl (.agg rfl (.tail _ (.tail _ (.tail _ (.tail _ (.head _))))) ty_23 rfl) (.agg rfl (.tail _ (.tail _ (.tail _ (.head _)))) ty_23 rfl) (.one rfl (.tail _ (.tail _ (.head _))) ty_31 rfl)) (by simp [gHeights, askG, ha16, er24, b2v])
  obtain ⟨ok24, rfl⟩ := need_ok hv24
  refine RunL.nil ?_
  refine RunE.next ?_
  refine RunC.seq ?_
  refine RunC.region ?_
  refine RunL.val (Val.pure rfl) rfl rfl rfl ?_
  refine RunL.val (Val.pure rfl) rfl rfl rfl ?_
  refine RunL.val (Val.load_agg rfl (.head _) ty_72 rfl) rfl rfl rfl ?_
  refine RunL.callP (isCall_func rfl ent_43) rfl rfl rfl (fun w hm => yheightsG_calls g a n _ _ w (hm.at (.tail _ (.head _))) (hG.mono hm) ok24 (farG_ok g n)) ?_
  refine RunL.new (New.alloc zero_72) rfl rfl rfl (fun b10 => ?_)
  refine RunL.sto (Sto.store rfl rfl .here ty_72 rfl rfl) rfl rfl ?_
  refine RunL.nil ?_
  refine RunE.next ?_
  refine RunC.seq ?_
  refine RunC.drawN 5 fol_ (.cons .here rfl (.cons .here rfl (.cons .here rfl (.cons .here rfl (.cons .here rfl (.cons (.there .here) rfl .nil)))))) ?_
  refine RunA.val (i := 0) rfl (by kernel_rfl) (by kernel_rfl) (Val.indexAddr_arr rfl rfl arr_72 (by decide) (by decide)) rfl rfl rfl (fun _ _ _ h => h) (.cons .here rfl (.cons .here rfl (.cons .here rfl (.cons .here rfl (.cons .here rfl (.cons (.there .here) rfl .nil)))))) rfl ?_
  refine RunA.val (i := 1) rfl (by kernel_rfl) (by kernel_rfl) (Val.load_agg rfl (.head _) ty_64 rfl) rfl rfl rfl (fun _ _ _ h => h) (.cons .here rfl (.cons .here rfl (.cons .here rfl (.cons .here rfl (.cons .here rfl (.cons (.there .here) rfl .nil)))))) rfl ?_
  refine RunA.val (i := 2) rfl (by kernel_rfl) (by kernel_rfl) (Val.indexAddr_arr rfl rfl arr_72 (by decide) (by decide)) rfl rfl rfl (fun _ _ _ h => h) (.cons .here rfl (.cons .here rfl (.cons .here rfl (.cons .here rfl (.cons .here rfl (.cons (.there .here) rfl .nil)))))) rfl ?_
  refine RunA.val (i := 3) rfl (by kernel_rfl) (by kernel_rfl) (Val.load_agg rfl (.head _) ty_64 rfl) rfl rfl rfl (fun _ _ _ h => h) (.cons .here rfl (.cons .here rfl (.cons .here rfl (.cons .here rfl (.cons .here rfl (.cons (.there .here) rfl .nil)))))) rfl ?_
  refine RunA.one (i := 4) (by kernel_rfl) (by kernel_rfl) ?_
  refine RunI.sto rfl (Sto.store rfl rfl (.there (.there (.there (.there (.there .here))))) ty_23 rfl rfl) rfl rfl (RunK.toA (.cons .here rfl (.cons .here rfl (.cons .here rfl (.cons .here rfl (.cons .here rfl (.cons (.there .here) rfl .nil)))))) (.cons .here rfl (.cons .here rfl (.cons .here rfl (.cons .here rfl (.cons .here rfl (.cons .here rfl .nil)))))) rfl ?_)
  refine RunA.toB (by kernel_rfl) ?_
  refine RunB.one (i := 5) (by kernel_rfl) ?_
  refine RunI.sto rfl (Sto.store rfl rfl (.there (.there (.there (.there .here)))) ty_23 rfl rfl) rfl rfl (RunK.toB ?_)
  refine RunB.one (i := 6) (by kernel_rfl) ?_
  refine RunI.sto rfl (Sto.store rfl rfl (.there (.there (.there .here))) ty_31 rfl rfl) rfl rfl (RunK.toB ?_)
  refine RunB.done (by kernel_rfl) ?_
  refine RunE.noPan ?_
  refine RunE.next ?_
  refine RunC.ret ?_
  exact RunE.retDC yHeights_catches ent_40 (.r3 rfl (.agg rfl (.tail _ (.tail _ (.tail _ (.tail _ (.tail _ (.head _)))))) ty_23 rfl) (.agg rfl (.tail _ (.tail _ (.tail _ (.tail _ (.head _))))) ty_23 rfl) (.one rfl (.tail _ (.tail _ (.tail _ (.head _)))) ty_31 rfl)) (by simp [gHeights, askG, ha16, ok24, b2v])
theorem movedZ_bd {z : Z2} (h : Zok z) : (-1100000000 ≤ (movedZ z).1 ∧ (movedZ z).1 ≤ 1100000000) ∧ -1100000000 ≤ (movedZ z).2 ∧ (movedZ z).2 ≤ 1100000000 := by
  obtain ⟨h1, h2, h3, h4⟩ := h
  simp only [movedZ, lessZ]
  omega
theorem yRate_calls (g : Gl) (a : Ga) (n : Int) (W : World) (hG : GIn W g a) : Calls Try.prog 17 #[g.v a, .int .i64 n] W (Pure (.tuple #[b2v (gRate g n).1, .int .i64 (gRate g n).2]) W) := by
  have hb := movedZ_bd (farG_ok g n)
  refine calls_start_defers Try.func17 rfl rfl ?_
  refine RunC.seq ?_
  refine RunC.region ?_
  refine RunL.new (New.box rfl) rfl rfl rfl (fun b2 => ?_)
  refine RunL.new (New.alloc zero_23) rfl rfl rfl (fun b4 => ?_)
  refine RunL.new (New.alloc zero_31) rfl rfl rfl (fun b5 => ?_)
  refine RunL.nil ?_
  refine RunE.next ?_
  refine RunC.seq ?_
  refine RunC.region ?_
  refine RunL.val (Val.pure rfl) rfl rfl rfl ?_
  refine RunL.deferC rfl ?_
  refine RunL.nil ?_
  refine RunE.next ?_
  refine RunC.seq ?_
  refine RunC.drawPX (X := Nat) 10 (n0 := [(b5, _), (b4, _), (b2, _)]) (fun y q => (6, .pointer (some ⟨y, 0, none⟩)) :: q) (fun y => []) (fun y => [(y, .cells [.int .i64 (movedZ (farG g n)).1, .int .i64 (movedZ (farG g n)).2].toArray 64 (0, 0))]) (fun y => []) (fun y => openG g (isThingG g n) = .ok () ∧ seenG g n = true) fol_ (.cons .here rfl (.cons .here rfl (.cons .here rfl .nil))) (Sub.cons (t := 0) rfl (Sub.cons (t := 1) rfl (Sub.cons (t := 2) rfl (Sub.cons (t := 4) rfl (Sub.cons (t := 5) rfl (Sub.nil _)))))) (.cons .here rfl (.cons .here rfl (.cons .here rfl .nil))) ?_ ?_
  · refine RunA.val (i := 0) rfl (by kernel_rfl) (by kernel_rfl) (Val.load_agg rfl (.tail _ (.tail _ (.head _))) ty_28 rfl) rfl rfl rfl (PanQ.back rfl) (.cons .here rfl (.cons .here rfl (.cons .here rfl .nil))) rfl ?_
    refine RunA.val (i := 1) rfl (by kernel_rfl) (by kernel_rfl) (Val.load_agg rfl (.tail _ (.tail _ (.head _))) ty_28 rfl) rfl rfl rfl (PanQ.back rfl) (.cons .here rfl (.cons .here rfl (.cons .here rfl .nil))) rfl ?_
    refine RunA.val (i := 2) rfl (by kernel_rfl) (by kernel_rfl) (Val.pure rfl) rfl rfl rfl (PanQ.back rfl) (.cons .here rfl (.cons .here rfl (.cons .here rfl .nil))) rfl ?_
    refine RunA.val (i := 5) rfl (by kernel_rfl) (by kernel_rfl) (Val.pure rfl) rfl rfl rfl (PanQ.back rfl) (.cons .here rfl (.cons .here rfl (.cons .here rfl .nil))) rfl ?_
    refine RunA.val (i := 6) rfl (by kernel_rfl) (by kernel_rfl) (Val.build (parts := []) rfl zero_69 places_69 rfl) rfl rfl rfl (PanQ.back rfl) (.cons .here rfl (.cons .here rfl (.cons .here rfl .nil))) rfl ?_
    refine RunA.val (i := 7) rfl (by kernel_rfl) (by kernel_rfl) (Val.makeInterface rfl noif_69) rfl rfl rfl (PanQ.back rfl) (.cons .here rfl (.cons .here rfl (.cons .here rfl .nil))) rfl ?_
    refine RunA.all (rs := [3, 9]) (by kernel_rfl) (by simp) (by kernel_rfl) (fun m hm => ?_)
    simp only [List.mem_cons, List.not_mem_nil, or_false] at hm
    rcases hm with rfl | rfl
    · refine RunI.callP rfl (isCall_func rfl ent_36) rfl rfl rfl (fun w hm => yisThing_calls g a n hG.l1 w) (RunK.toA (.cons .here rfl (.cons .here rfl (.cons .here rfl .nil))) (.cons .here rfl (.cons .here rfl (.cons .here rfl .nil))) rfl ?_)
      refine RunA.all (rs := [4, 9]) (by kernel_rfl) (by simp) (by kernel_rfl) (fun m hm => ?_)
      simp only [List.mem_cons, List.not_mem_nil, or_false] at hm
      rcases hm with rfl | rfl
      · refine RunI.callTN rfl (isCall_func rfl ent_35) rfl rfl rfl (fun w hm => yopen_calls g a _ w (hG.mono hm)) (fun e13 he13 => ?_) (fun a13 ha13 b13 => (RunK.toA (.cons .here rfl (.cons .here rfl (.cons .here rfl (.cons .here rfl .nil)))) (.cons (.there .here) rfl (.cons (.there .here) rfl (.cons (.there .here) rfl .nil))) rfl ?_))
        · refine RunE.panQ_panic (Sub.skip rfl (Sub.skip rfl (Sub.skip rfl (Sub.skip rfl (Sub.skip rfl (Sub.skip rfl (Sub.skip rfl (Sub.refl _)))))))) (.cons .here rfl (.cons .here rfl (.cons .here rfl .nil))) ?_
          refine RunE.seg_panic ?_
          refine RunE.pass_panic ?_
          exact RunE.panDC yRate_catches ent_46 .here (.r2 rfl (.agg rfl (.tail _ (.head _)) ty_23 rfl) (.one rfl (.head _) ty_31 rfl)) (by simp_all [gRate, askG, b2v])
        obtain ⟨od, -⟩ := openG_ok ha13
        refine RunA.all (rs := [8, 9]) (by kernel_rfl) (by simp) (by kernel_rfl) (fun m hm => ?_)
        simp only [List.mem_cons, List.not_mem_nil, or_false] at hm
        rcases hm with rfl | rfl
        · refine RunI.callT rfl (isCall_func rfl ent_37) rfl rfl rfl (fun w hm => yaskM_calls g a n _ w (hm.at (.head _)) (hG.mono hm)) (fun e17 he17 => ?_) (fun v17 hv17 => (RunK.toA (.cons .here rfl (.cons .here rfl (.cons .here rfl (.cons .here rfl .nil)))) (.cons .here rfl (.cons .here rfl (.cons .here rfl (.cons .here rfl .nil)))) rfl ?_))
          · obtain ⟨hs17, rfl⟩ := ask1_err he17
            refine RunE.panQ_panic (Sub.skip rfl (Sub.skip rfl (Sub.skip rfl (Sub.skip rfl (Sub.skip rfl (Sub.skip rfl (Sub.skip rfl (Sub.skip rfl (Sub.refl _))))))))) (.cons (.there .here) rfl (.cons (.there .here) rfl (.cons (.there .here) rfl .nil))) ?_
            refine RunE.seg_panic ?_
            refine RunE.pass_panic ?_
            exact RunE.panDC yRate_catches ent_46 .here (.r2 rfl (.agg rfl (.tail _ (.head _)) ty_23 rfl) (.one rfl (.head _) ty_31 rfl)) (by simp_all [gRate, askG, b2v])
          obtain ⟨hs17, rfl⟩ := ask1_ok hv17
          refine RunA.one (i := 9) (by kernel_rfl) (by kernel_rfl) ?_
          refine RunI.new rfl (New.alloc zero_64) rfl rfl rfl (fun b6 => (RunK.toA (.cons .here rfl (.cons .here rfl (.cons .here rfl (.cons .here rfl (.cons .here rfl .nil))))) (.cons (.there .here) rfl (.cons (.there .here) rfl (.cons (.there .here) rfl (.cons (.there .here) rfl .nil)))) rfl ?_))
          refine RunA.toB (by kernel_rfl) ?_
          refine RunB.one (i := 10) (by kernel_rfl) ?_
          refine RunI.sto rfl (Sto.store rfl rfl .here ty_64 rfl rfl) rfl rfl (RunK.toB ?_)
          refine RunB.done (by kernel_rfl) ?_
          refine RunE.panQ_normal ?_
          exact RunE.joinX b6 ⟨ha13, hs17⟩ rfl (Sub.consE (t := 6) rfl rfl (Sub.cons (t := 0) rfl (Sub.cons (t := 1) rfl (Sub.cons (t := 2) rfl (Sub.cons (t := 4) rfl (Sub.cons (t := 5) rfl (Sub.nil _))))))) (.cons .here rfl (.cons (.there .here) rfl (.cons (.there .here) rfl (.cons (.there .here) rfl .nil))))
        · refine RunI.new rfl (New.alloc zero_64) rfl rfl rfl (fun b6 => (RunK.toA (.cons .here rfl (.cons .here rfl (.cons .here rfl (.cons .here rfl (.cons .here rfl .nil))))) (.cons (.there .here) rfl (.cons (.there .here) rfl (.cons (.there .here) rfl (.cons (.there .here) rfl .nil)))) rfl ?_))
          refine RunA.one (i := 8) (by kernel_rfl) (by kernel_rfl) ?_
          refine RunI.callT rfl (isCall_func rfl ent_37) rfl rfl rfl (fun w hm => yaskM_calls g a n _ w (hm.at (.tail _ (.head _))) (hG.mono hm)) (fun e17 he17 => ?_) (fun v17 hv17 => (RunK.toA (.cons .here rfl (.cons .here rfl (.cons .here rfl (.cons .here rfl (.cons .here rfl .nil))))) (.cons .here rfl (.cons .here rfl (.cons .here rfl (.cons .here rfl (.cons .here rfl .nil))))) rfl ?_))
          · obtain ⟨hs17, rfl⟩ := ask1_err he17
            refine RunE.panQ_panic (Sub.skip rfl (Sub.skip rfl (Sub.skip rfl (Sub.skip rfl (Sub.skip rfl (Sub.skip rfl (Sub.skip rfl (Sub.skip rfl (Sub.skip rfl (Sub.refl _)))))))))) (.cons (.there (.there .here)) rfl (.cons (.there (.there .here)) rfl (.cons (.there (.there .here)) rfl .nil))) ?_
            refine RunE.seg_panic ?_
            refine RunE.pass_panic ?_
            exact RunE.panDC yRate_catches ent_46 .here (.r2 rfl (.agg rfl (.tail _ (.head _)) ty_23 rfl) (.one rfl (.head _) ty_31 rfl)) (by simp_all [gRate, askG, b2v])
          obtain ⟨hs17, rfl⟩ := ask1_ok hv17
          refine RunA.toB (by kernel_rfl) ?_
          refine RunB.one (i := 10) (by kernel_rfl) ?_
          refine RunI.sto rfl (Sto.store rfl rfl .here ty_64 rfl rfl) rfl rfl (RunK.toB ?_)
          refine RunB.done (by kernel_rfl) ?_
          refine RunE.panQ_normal ?_
          exact RunE.joinX b6 ⟨ha13, hs17⟩ rfl (Sub.consE (t := 6) rfl rfl (Sub.cons (t := 0) rfl (Sub.cons (t := 1) rfl (Sub.cons (t := 2) rfl (Sub.cons (t := 4) rfl (Sub.cons (t := 5) rfl (Sub.nil _))))))) (.cons .here rfl (.cons (.there .here) rfl (.cons (.there .here) rfl (.cons (.there .here) rfl .nil))))
      · refine RunI.new rfl (New.alloc zero_64) rfl rfl rfl (fun b6 => (RunK.toA (.cons .here rfl (.cons .here rfl (.cons .here rfl (.cons .here rfl .nil)))) (.cons (.there .here) rfl (.cons (.there .here) rfl (.cons (.there .here) rfl .nil))) rfl ?_))
        refine RunA.one (i := 4) (by kernel_rfl) (by kernel_rfl) ?_
        refine RunI.callTN rfl (isCall_func rfl ent_35) rfl rfl rfl (fun w hm => yopen_calls g a _ w (hG.mono hm)) (fun e13 he13 => ?_) (fun a13 ha13 b13 => (RunK.toA (.cons .here rfl (.cons .here rfl (.cons .here rfl (.cons .here rfl (.cons .here rfl .nil))))) (.cons (.there .here) rfl (.cons (.there .here) rfl (.cons (.there .here) rfl (.cons (.there .here) rfl .nil)))) rfl ?_))
        · refine RunE.panQ_panic (Sub.skip rfl (Sub.skip rfl (Sub.skip rfl (Sub.skip rfl (Sub.skip rfl (Sub.skip rfl (Sub.skip rfl (Sub.skip rfl (Sub.refl _))))))))) (.cons (.there .here) rfl (.cons (.there .here) rfl (.cons (.there .here) rfl .nil))) ?_
          refine RunE.seg_panic ?_
          refine RunE.pass_panic ?_
          exact RunE.panDC yRate_catches ent_46 .here (.r2 rfl (.agg rfl (.tail _ (.head _)) ty_23 rfl) (.one rfl (.head _) ty_31 rfl)) (by simp_all [gRate, askG, b2v])
        obtain ⟨od, -⟩ := openG_ok ha13
        refine RunA.one (i := 8) (by kernel_rfl) (by kernel_rfl) ?_
        refine RunI.callT rfl (isCall_func rfl ent_37) rfl rfl rfl (fun w hm => yaskM_calls g a n _ w (hm.at (.head _)) (hG.mono hm)) (fun e17 he17 => ?_) (fun v17 hv17 => (RunK.toA (.cons .here rfl (.cons .here rfl (.cons .here rfl (.cons .here rfl (.cons .here rfl .nil))))) (.cons .here rfl (.cons .here rfl (.cons .here rfl (.cons .here rfl (.cons .here rfl .nil))))) rfl ?_))
        · obtain ⟨hs17, rfl⟩ := ask1_err he17
          refine RunE.panQ_panic (Sub.skip rfl (Sub.skip rfl (Sub.skip rfl (Sub.skip rfl (Sub.skip rfl (Sub.skip rfl (Sub.skip rfl (Sub.skip rfl (Sub.skip rfl (Sub.refl _)))))))))) (.cons (.there (.there .here)) rfl (.cons (.there (.there .here)) rfl (.cons (.there (.there .here)) rfl .nil))) ?_
          refine RunE.seg_panic ?_
          refine RunE.pass_panic ?_
          exact RunE.panDC yRate_catches ent_46 .here (.r2 rfl (.agg rfl (.tail _ (.head _)) ty_23 rfl) (.one rfl (.head _) ty_31 rfl)) (by simp_all [gRate, askG, b2v])
        obtain ⟨hs17, rfl⟩ := ask1_ok hv17
        refine RunA.toB (by kernel_rfl) ?_
        refine RunB.one (i := 10) (by kernel_rfl) ?_
        refine RunI.sto rfl (Sto.store rfl rfl (.there .here) ty_64 rfl rfl) rfl rfl (RunK.toB ?_)
        refine RunB.done (by kernel_rfl) ?_
        refine RunE.panQ_normal ?_
        exact RunE.joinX b6 ⟨ha13, hs17⟩ rfl (Sub.consE (t := 6) rfl rfl (Sub.cons (t := 0) rfl (Sub.cons (t := 1) rfl (Sub.cons (t := 2) rfl (Sub.cons (t := 4) rfl (Sub.cons (t := 5) rfl (Sub.nil _))))))) (.cons (.there .here) rfl (.cons (.there .here) rfl (.cons (.there .here) rfl (.cons (.there .here) rfl .nil))))
    · refine RunI.new rfl (New.alloc zero_64) rfl rfl rfl (fun b6 => (RunK.toA (.cons .here rfl (.cons .here rfl (.cons .here rfl (.cons .here rfl .nil)))) (.cons (.there .here) rfl (.cons (.there .here) rfl (.cons (.there .here) rfl .nil))) rfl ?_))
      refine RunA.one (i := 3) (by kernel_rfl) (by kernel_rfl) ?_
      refine RunI.callP rfl (isCall_func rfl ent_36) rfl rfl rfl (fun w hm => yisThing_calls g a n hG.l1 w) (RunK.toA (.cons .here rfl (.cons .here rfl (.cons .here rfl (.cons .here rfl .nil)))) (.cons .here rfl (.cons .here rfl (.cons .here rfl (.cons .here rfl .nil)))) rfl ?_)
      refine RunA.one (i := 4) (by kernel_rfl) (by kernel_rfl) ?_
      refine RunI.callTN rfl (isCall_func rfl ent_35) rfl rfl rfl (fun w hm => yopen_calls g a _ w (hG.mono hm)) (fun e13 he13 => ?_) (fun a13 ha13 b13 => (RunK.toA (.cons .here rfl (.cons .here rfl (.cons .here rfl (.cons .here rfl (.cons .here rfl .nil))))) (.cons (.there .here) rfl (.cons (.there .here) rfl (.cons (.there .here) rfl (.cons (.there .here) rfl .nil)))) rfl ?_))
      · refine RunE.panQ_panic (Sub.skip rfl (Sub.skip rfl (Sub.skip rfl (Sub.skip rfl (Sub.skip rfl (Sub.skip rfl (Sub.skip rfl (Sub.skip rfl (Sub.refl _))))))))) (.cons (.there .here) rfl (.cons (.there .here) rfl (.cons (.there .here) rfl .nil))) ?_
        refine RunE.seg_panic ?_
        refine RunE.pass_panic ?_
        exact RunE.panDC yRate_catches ent_46 .here (.r2 rfl (.agg rfl (.tail _ (.head _)) ty_23 rfl) (.one rfl (.head _) ty_31 rfl)) (by simp_all [gRate, askG, b2v])
      obtain ⟨od, -⟩ := openG_ok ha13
      refine RunA.one (i := 8) (by kernel_rfl) (by kernel_rfl) ?_
      refine RunI.callT rfl (isCall_func rfl ent_37) rfl rfl rfl (fun w hm => yaskM_calls g a n _ w (hm.at (.head _)) (hG.mono hm)) (fun e17 he17 => ?_) (fun v17 hv17 => (RunK.toA (.cons .here rfl (.cons .here rfl (.cons .here rfl (.cons .here rfl (.cons .here rfl .nil))))) (.cons .here rfl (.cons .here rfl (.cons .here rfl (.cons .here rfl (.cons .here rfl .nil))))) rfl ?_))
      · obtain ⟨hs17, rfl⟩ := ask1_err he17
        refine RunE.panQ_panic (Sub.skip rfl (Sub.skip rfl (Sub.skip rfl (Sub.skip rfl (Sub.skip rfl (Sub.skip rfl (Sub.skip rfl (Sub.skip rfl (Sub.skip rfl (Sub.refl _)))))))))) (.cons (.there (.there .here)) rfl (.cons (.there (.there .here)) rfl (.cons (.there (.there .here)) rfl .nil))) ?_
        refine RunE.seg_panic ?_
        refine RunE.pass_panic ?_
        exact RunE.panDC yRate_catches ent_46 .here (.r2 rfl (.agg rfl (.tail _ (.head _)) ty_23 rfl) (.one rfl (.head _) ty_31 rfl)) (by simp_all [gRate, askG, b2v])
      obtain ⟨hs17, rfl⟩ := ask1_ok hv17
      refine RunA.toB (by kernel_rfl) ?_
      refine RunB.one (i := 10) (by kernel_rfl) ?_
      refine RunI.sto rfl (Sto.store rfl rfl (.there .here) ty_64 rfl rfl) rfl rfl (RunK.toB ?_)
      refine RunB.done (by kernel_rfl) ?_
      refine RunE.panQ_normal ?_
      exact RunE.joinX b6 ⟨ha13, hs17⟩ rfl (Sub.consE (t := 6) rfl rfl (Sub.cons (t := 0) rfl (Sub.cons (t := 1) rfl (Sub.cons (t := 2) rfl (Sub.cons (t := 4) rfl (Sub.cons (t := 5) rfl (Sub.nil _))))))) (.cons (.there .here) rfl (.cons (.there .here) rfl (.cons (.there .here) rfl (.cons (.there .here) rfl .nil))))
  · intro y yI
    rename Nat => b6
    obtain ⟨ha13, hs17⟩ := yI
    obtain ⟨od, -⟩ := openG_ok ha13
    refine RunE.next ?_
    refine RunC.seq ?_
    refine RunC.region ?_
    refine RunL.val (Val.fieldAddr rfl fld_28_3) rfl rfl rfl ?_
    refine RunL.val (Val.load_one rfl (.tail _ (.tail _ (.tail _ (.head _)))) ty_3 rfl) rfl rfl rfl ?_
    refine RunL.val (Val.fieldAddr rfl fld_28_2) rfl rfl rfl ?_
    refine RunL.val (Val.load_one rfl (.tail _ (.tail _ (.tail _ (.head _)))) ty_3 rfl) rfl rfl rfl ?_
    refine RunL.val (Val.sub' rfl rfl (IntWalk.i64_in _ ⟨by omega, by omega⟩)) rfl rfl rfl ?_
    refine RunL.val (Val.pure rfl) rfl rfl rfl ?_
    refine RunL.nil ?_
    refine RunE.next ?_
    refine RunC.seq ?_
    refine RunC.drawN 9 fol_ (.cons .here rfl (.cons .here rfl (.cons .here rfl (.cons .here rfl .nil)))) ?_
    refine RunA.val (i := 0) rfl (by kernel_rfl) (by kernel_rfl) (Val.fieldAddr rfl fld_64_0) rfl rfl rfl (fun _ _ _ h => h) (.cons .here rfl (.cons .here rfl (.cons .here rfl (.cons .here rfl .nil)))) rfl ?_
    refine RunA.val (i := 1) rfl (by kernel_rfl) (by kernel_rfl) (Val.load_one rfl (.head _) ty_3 rfl) rfl rfl rfl (fun _ _ _ h => h) (.cons .here rfl (.cons .here rfl (.cons .here rfl (.cons .here rfl .nil)))) rfl ?_
    refine RunA.val (i := 2) rfl (by kernel_rfl) (by kernel_rfl) (Val.mul rfl rfl (IntWalk.i64_in _ ⟨by omega, by omega⟩)) rfl rfl rfl (fun _ _ _ h => h) (.cons .here rfl (.cons .here rfl (.cons .here rfl (.cons .here rfl .nil)))) rfl ?_
    refine RunA.val (i := 3) rfl (by kernel_rfl) (by kernel_rfl) (Val.pure rfl) rfl rfl rfl (fun _ _ _ h => h) (.cons .here rfl (.cons .here rfl (.cons .here rfl (.cons .here rfl .nil)))) rfl ?_
    refine RunA.val (i := 5) rfl (by kernel_rfl) (by kernel_rfl) (Val.fieldAddr rfl fld_64_1) rfl rfl rfl (fun _ _ _ h => h) (.cons .here rfl (.cons .here rfl (.cons .here rfl (.cons .here rfl .nil)))) rfl ?_
    refine RunA.val (i := 6) rfl (by kernel_rfl) (by kernel_rfl) (Val.load_one rfl (.head _) ty_3 rfl) rfl rfl rfl (fun _ _ _ h => h) (.cons .here rfl (.cons .here rfl (.cons .here rfl (.cons .here rfl .nil)))) rfl ?_
    refine RunA.val (i := 7) rfl (by kernel_rfl) (by kernel_rfl) (Val.mul rfl rfl (IntWalk.i64_in _ ⟨by omega, by omega⟩)) rfl rfl rfl (fun _ _ _ h => h) (.cons .here rfl (.cons .here rfl (.cons .here rfl (.cons .here rfl .nil)))) rfl ?_
    refine RunA.val (i := 8) rfl (by kernel_rfl) (by kernel_rfl) (Val.pure rfl) rfl rfl rfl (fun _ _ _ h => h) (.cons .here rfl (.cons .here rfl (.cons .here rfl (.cons .here rfl .nil)))) rfl ?_
    refine RunA.one (i := 4) (by kernel_rfl) (by kernel_rfl) ?_
    refine RunI.callP rfl (isCall_func rfl ent_47) rfl rfl rfl (fun w hm => ydown_calls _ _ (by omega) (by omega) w) (RunK.toA (.cons .here rfl (.cons .here rfl (.cons .here rfl (.cons .here rfl .nil)))) (.cons .here rfl (.cons .here rfl (.cons .here rfl (.cons .here rfl .nil)))) rfl ?_)
    refine RunA.toB (by kernel_rfl) ?_
    refine RunB.one (i := 9) (by kernel_rfl) ?_
    refine RunI.callP rfl (isCall_func rfl ent_48) rfl rfl rfl (fun w hm => yup_calls _ _ (by omega) (by omega) w) (RunK.toB ?_)
    refine RunB.one (i := 10) (by kernel_rfl) ?_
    refine RunI.val rfl (Val.build (parts := [(0, .tmp 27), (1, .tmp 32)]) rfl zero_23 places_23 rfl) rfl rfl rfl (RunK.toB ?_)
    refine RunB.one (i := 11) (by kernel_rfl) ?_
    refine RunI.sto rfl (Sto.store rfl rfl (.there (.there .here)) ty_23 rfl rfl) rfl rfl (RunK.toB ?_)
    refine RunB.one (i := 12) (by kernel_rfl) ?_
    refine RunI.sto rfl (Sto.store rfl rfl (.there .here) ty_31 rfl rfl) rfl rfl (RunK.toB ?_)
    refine RunB.done (by kernel_rfl) ?_
    refine RunE.noPan ?_
    refine RunE.next ?_
    refine RunC.ret ?_
    exact RunE.retDC yRate_catches ent_46 (.r2 rfl (.agg rfl (.tail _ (.tail _ (.head _))) ty_23 rfl) (.one rfl (.tail _ (.head _)) ty_31 rfl)) (by simp [gRate, askG, ha13, hs17, b2v, rateZ])
theorem yday_calls (g : Gl) (a : Ga) (p q goal : Int) (b : Nat) (W : World) (hb : W.heap[b]? = some (.cells (g.cells a).toArray 110 (0, 0))) (hp : 0 ≤ p ∧ p ≤ 1100000000) (hq : 0 ≤ q ∧ q ≤ 1100000000) (hg : 0 ≤ goal ∧ goal ≤ 1100000000) (hd : 0 ≤ g.d1 ∧ g.d1 < g.d2 ∧ g.d2 ≤ 65536) :
    Calls Try.prog 59 #[.pointer (some ⟨b, 0, none⟩), .int .i64 p, .int .i64 q, .int .i64 goal] W (Pure (.int .i64 (dayG g p q goal)) W) := by
  refine calls_start Try.func59 rfl rfl ?_
  refine RunC.seq ?_
  refine RunC.region ?_
  refine RunL.val (Val.pure rfl) rfl rfl rfl ?_
  refine RunL.nil ?_
  refine RunE.next ?_
  refine RunC.seq ?_
  refine RunC.block ?_
  refine RunC.seq ?_
  refine RunC.region ?_
  iterate 4 refine RunL.val (Val.pure rfl) rfl rfl rfl ?_
  refine RunL.nil ?_
  refine RunE.next ?_
  refine RunC.cond rfl ?_ ?_
  · intro c0
    have c0' := c0; clear c0
    try simp only [decide_eq_true_eq, decide_eq_false_iff_not, Bool.not_eq_true', Bool.not_eq_false', Bool.and_eq_true, Bool.or_eq_true, Bool.and_eq_false_iff, Bool.or_eq_false_iff, Int.not_le, Int.not_lt] at c0'
    refine RunC.seq ?_
    refine RunC.region ?_
    refine RunL.val (Val.pure rfl) rfl rfl rfl ?_
    refine RunL.val (Val.pure rfl) rfl rfl rfl ?_
    refine RunL.val (Val.fieldAddr rfl fld_110_0) rfl rfl rfl ?_
    refine RunL.val (Val.fieldAddr rfl fld_28_3) rfl rfl rfl ?_
    refine RunL.val (Val.oload_one rfl hb (by simp) ty_3 rfl) rfl rfl rfl ?_
    refine RunL.val (Val.pure rfl) rfl rfl rfl ?_
    refine RunL.nil ?_
    refine RunE.next ?_
    refine RunC.ret ?_
    refine RunE.block_ret ?_
    refine RunE.pass_ret ?_
    exact RunE.retP (.r1 rfl (.tmp rfl)) (by simp only [dayG]; rw [if_pos c0'])
  · intro c0
    have c0' := c0; clear c0
    try simp only [decide_eq_true_eq, decide_eq_false_iff_not, Bool.not_eq_true', Bool.not_eq_false', Bool.and_eq_true, Bool.or_eq_true, Bool.and_eq_false_iff, Bool.or_eq_false_iff, Int.not_le, Int.not_lt] at c0'
    refine RunC.seq ?_
    refine RunC.region ?_
    iterate 4 refine RunL.val (Val.pure rfl) rfl rfl rfl ?_
    refine RunL.nil ?_
    refine RunE.next ?_
    refine RunC.cond rfl ?_ ?_
    · intro c1
      have c1' := c1; clear c1
      try simp only [decide_eq_true_eq, decide_eq_false_iff_not, Bool.not_eq_true', Bool.not_eq_false', Bool.and_eq_true, Bool.or_eq_true, Bool.and_eq_false_iff, Bool.or_eq_false_iff, Int.not_le, Int.not_lt] at c1'
      refine RunC.seq ?_
      refine RunC.region ?_
      refine RunL.val (Val.pure rfl) rfl rfl rfl ?_
      refine RunL.nil ?_
      refine RunE.next ?_
      refine RunC.ret ?_
      refine RunE.block_ret ?_
      refine RunE.pass_ret ?_
      exact RunE.retP (.r1 rfl (.tmp rfl)) (by simp only [dayG]; rw [if_neg (by omega), if_pos c1'])
    · intro c1
      have c1' := c1; clear c1
      try simp only [decide_eq_true_eq, decide_eq_false_iff_not, Bool.not_eq_true', Bool.not_eq_false', Bool.and_eq_true, Bool.or_eq_true, Bool.and_eq_false_iff, Bool.or_eq_false_iff, Int.not_le, Int.not_lt] at c1'
      refine RunC.skip ?_
      refine RunE.block_normal ?_
      refine RunE.next ?_
      refine RunC.seq ?_
      refine RunC.draw 24 fol_ .nil ?_
      have hm1 := mul_bd (a := q - goal) (b := g.d2 - g.d1) (A := 1100000000) (B := 65536) (by omega) (by omega) (by omega) (by omega)
      have hu := ediv_bd (a := -((q - goal) * (g.d2 - g.d1))) (b := p - q) (M := 80000000000000) (by omega) (by omega)
      refine RunA.val (i := 0) rfl (by kernel_rfl) (by kernel_rfl) (Val.pure rfl) rfl rfl rfl (fun _ _ _ h => h) .nil rfl ?_
      refine RunA.val (i := 1) rfl (by kernel_rfl) (by kernel_rfl) (Val.pure rfl) rfl rfl rfl (fun _ _ _ h => h) .nil rfl ?_
      refine RunA.val (i := 2) rfl (by kernel_rfl) (by kernel_rfl) (Val.fieldAddr rfl fld_110_0) rfl rfl rfl (fun _ _ _ h => h) .nil rfl ?_
      refine RunA.val (i := 3) rfl (by kernel_rfl) (by kernel_rfl) (Val.fieldAddr rfl fld_28_3) rfl rfl rfl (fun _ _ _ h => h) .nil rfl ?_
      refine RunA.val (i := 4) rfl (by kernel_rfl) (by kernel_rfl) (Val.oload_one rfl hb (by simp) ty_3 rfl) rfl rfl rfl (fun _ _ _ h => h) .nil rfl ?_
      refine RunA.val (i := 5) rfl (by kernel_rfl) (by kernel_rfl) (Val.pure rfl) rfl rfl rfl (fun _ _ _ h => h) .nil rfl ?_
      refine RunA.val (i := 6) rfl (by kernel_rfl) (by kernel_rfl) (Val.pure rfl) rfl rfl rfl (fun _ _ _ h => h) .nil rfl ?_
      refine RunA.val (i := 7) rfl (by kernel_rfl) (by kernel_rfl) (Val.sub' rfl rfl (IntWalk.i64_in _ ⟨by omega, by omega⟩)) rfl rfl rfl (fun _ _ _ h => h) .nil rfl ?_
      refine RunA.val (i := 8) rfl (by kernel_rfl) (by kernel_rfl) (Val.pure rfl) rfl rfl rfl (fun _ _ _ h => h) .nil rfl ?_
      refine RunA.val (i := 9) rfl (by kernel_rfl) (by kernel_rfl) (Val.pure rfl) rfl rfl rfl (fun _ _ _ h => h) .nil rfl ?_
      refine RunA.val (i := 10) rfl (by kernel_rfl) (by kernel_rfl) (Val.fieldAddr rfl fld_110_0) rfl rfl rfl (fun _ _ _ h => h) .nil rfl ?_
      refine RunA.val (i := 11) rfl (by kernel_rfl) (by kernel_rfl) (Val.fieldAddr rfl fld_28_3) rfl rfl rfl (fun _ _ _ h => h) .nil rfl ?_
      refine RunA.val (i := 12) rfl (by kernel_rfl) (by kernel_rfl) (Val.oload_one rfl hb (by simp) ty_3 rfl) rfl rfl rfl (fun _ _ _ h => h) .nil rfl ?_
      refine RunA.val (i := 13) rfl (by kernel_rfl) (by kernel_rfl) (Val.pure rfl) rfl rfl rfl (fun _ _ _ h => h) .nil rfl ?_
      refine RunA.val (i := 14) rfl (by kernel_rfl) (by kernel_rfl) (Val.pure rfl) rfl rfl rfl (fun _ _ _ h => h) .nil rfl ?_
      refine RunA.val (i := 15) rfl (by kernel_rfl) (by kernel_rfl) (Val.fieldAddr rfl fld_110_0) rfl rfl rfl (fun _ _ _ h => h) .nil rfl ?_
      refine RunA.val (i := 16) rfl (by kernel_rfl) (by kernel_rfl) (Val.fieldAddr rfl fld_28_2) rfl rfl rfl (fun _ _ _ h => h) .nil rfl ?_
      refine RunA.val (i := 17) rfl (by kernel_rfl) (by kernel_rfl) (Val.oload_one rfl hb (by simp) ty_3 rfl) rfl rfl rfl (fun _ _ _ h => h) .nil rfl ?_
      refine RunA.val (i := 18) rfl (by kernel_rfl) (by kernel_rfl) (Val.sub' rfl rfl (IntWalk.i64_in _ ⟨by omega, by omega⟩)) rfl rfl rfl (fun _ _ _ h => h) .nil rfl ?_
      refine RunA.val (i := 19) rfl (by kernel_rfl) (by kernel_rfl) (Val.mul rfl rfl (IntWalk.i64_in _ ⟨by omega, by omega⟩)) rfl rfl rfl (fun _ _ _ h => h) .nil rfl ?_
      refine RunA.val (i := 20) rfl (by kernel_rfl) (by kernel_rfl) (Val.pure rfl) rfl rfl rfl (fun _ _ _ h => h) .nil rfl ?_
      refine RunA.val (i := 21) rfl (by kernel_rfl) (by kernel_rfl) (Val.pure rfl) rfl rfl rfl (fun _ _ _ h => h) .nil rfl ?_
      refine RunA.val (i := 22) rfl (by kernel_rfl) (by kernel_rfl) (Val.sub' rfl rfl (IntWalk.i64_in _ ⟨by omega, by omega⟩)) rfl rfl rfl (fun _ _ _ h => h) .nil rfl ?_
      refine RunA.one (i := 23) (by kernel_rfl) (by kernel_rfl) ?_
      refine RunI.callP rfl (isCall_func rfl ent_48) rfl rfl rfl (fun w hm => yup_calls _ _ (by omega) (by omega) w) (RunK.toA .nil .nil rfl ?_)
      refine RunA.toB (by kernel_rfl) ?_
      refine RunB.one (i := 24) (by kernel_rfl) ?_
      refine RunI.val rfl (Val.add rfl rfl (IntWalk.i64_in _ ⟨by omega, by omega⟩)) rfl rfl rfl (RunK.toB ?_)
      refine RunB.one (i := 25) (by kernel_rfl) ?_
      refine RunI.val rfl (Val.pure rfl) rfl rfl rfl (RunK.toB ?_)
      refine RunB.done (by kernel_rfl) ?_
      refine RunE.next ?_
      refine RunC.seq ?_
      refine RunC.seq ?_
      refine RunC.region ?_
      refine RunL.val (Val.pure rfl) rfl rfl rfl ?_
      refine RunL.val (Val.pure rfl) rfl rfl rfl ?_
      refine RunL.nil ?_
      refine RunE.next ?_
      refine RunC.cond rfl ?_ ?_
      · intro c2
        have c2' := c2; clear c2
        try simp only [decide_eq_true_eq, decide_eq_false_iff_not, Bool.not_eq_true', Bool.not_eq_false', Bool.and_eq_true, Bool.or_eq_true, Bool.and_eq_false_iff, Bool.or_eq_false_iff, Int.not_le, Int.not_lt] at c2'
        refine RunC.seq ?_
        refine RunC.region ?_
        refine RunL.val (Val.pure rfl) rfl rfl rfl ?_
        refine RunL.nil ?_
        refine RunE.next ?_
        refine RunC.ret ?_
        refine RunE.pass_ret ?_
        exact RunE.retP (.r1 rfl (.tmp rfl)) (by simp only [dayG]; rw [if_neg (by omega), if_neg (by omega), if_pos c2'])
      · intro c2
        have c2' := c2; clear c2
        try simp only [decide_eq_true_eq, decide_eq_false_iff_not, Bool.not_eq_true', Bool.not_eq_false', Bool.and_eq_true, Bool.or_eq_true, Bool.and_eq_false_iff, Bool.or_eq_false_iff, Int.not_le, Int.not_lt] at c2'
        refine RunC.skip ?_
        refine RunE.next ?_
        refine RunC.seq ?_
        refine RunC.region ?_
        refine RunL.val (Val.pure rfl) rfl rfl rfl ?_
        refine RunL.val (Val.pure rfl) rfl rfl rfl ?_
        refine RunL.nil ?_
        refine RunE.next ?_
        refine RunC.ret ?_
        exact RunE.retP (.r1 rfl (.tmp rfl)) (by simp only [dayG]; rw [if_neg (by omega), if_neg (by omega), if_neg (by omega)])
theorem yArrives_calls (g : Gl) (a : Ga) (n goal : Int) (W : World) (hG : GIn W g a) : Calls Try.prog 21 #[g.v a, .int .i64 n, .int .i64 goal] W (Pure (.tuple #[.int .i64 (gArrives g n goal).1.1, .int .i64 (gArrives g n goal).1.2, .int .i64 (gArrives g n goal).2]) W) := by
  obtain ⟨z1, z2, z3, z4⟩ := farG_ok g n
  refine calls_start_defers Try.func21 rfl rfl ?_
  refine RunC.seq ?_
  refine RunC.region ?_
  refine RunL.new (New.box rfl) rfl rfl rfl (fun b3 => ?_)
  refine RunL.val (Val.pure rfl) rfl rfl rfl ?_
  refine RunL.val (Val.pure rfl) rfl rfl rfl ?_
  refine RunL.new (New.alloc zero_31) rfl rfl rfl (fun b8 => ?_)
  refine RunL.nil ?_
  refine RunE.next ?_
  refine RunC.seq ?_
  refine RunC.region ?_
  refine RunL.val (Val.pure rfl) rfl rfl rfl ?_
  refine RunL.deferC rfl ?_
  refine RunL.nil ?_
  refine RunE.next ?_
  refine RunC.seq ?_
  refine RunC.drawP 8 fol_ (.cons .here rfl (.cons .here rfl .nil)) ?_
  refine RunA.val (i := 0) rfl (by kernel_rfl) (by kernel_rfl) (Val.load_agg rfl (.tail _ (.head _)) ty_28 rfl) rfl rfl rfl (PanQ.back rfl) (.cons .here rfl (.cons .here rfl .nil)) rfl ?_
  refine RunA.val (i := 1) rfl (by kernel_rfl) (by kernel_rfl) (Val.load_agg rfl (.tail _ (.head _)) ty_28 rfl) rfl rfl rfl (PanQ.back rfl) (.cons .here rfl (.cons .here rfl .nil)) rfl ?_
  refine RunA.val (i := 2) rfl (by kernel_rfl) (by kernel_rfl) (Val.pure rfl) rfl rfl rfl (PanQ.back rfl) (.cons .here rfl (.cons .here rfl .nil)) rfl ?_
  refine RunA.one (i := 3) (by kernel_rfl) (by kernel_rfl) ?_
  refine RunI.callP rfl (isCall_func rfl ent_36) rfl rfl rfl (fun w hm => yisThing_calls g a n hG.l1 w) (RunK.toA (.cons .here rfl (.cons .here rfl .nil)) (.cons .here rfl (.cons .here rfl .nil)) rfl ?_)
  refine RunA.val (i := 4) rfl (by kernel_rfl) (by kernel_rfl) (Val.pure rfl) rfl rfl rfl (PanQ.back rfl) (.cons .here rfl (.cons .here rfl .nil)) rfl ?_
  refine RunA.ways (dj := 18) rfl ?_ ?_
  · intro g18
    have g18' := g18; clear g18
    try simp only [decide_eq_true_eq, decide_eq_false_iff_not, Bool.not_eq_true', Bool.not_eq_false', Bool.and_eq_true, Bool.or_eq_true, Bool.and_eq_false_iff, Bool.or_eq_false_iff, Int.not_le, Int.not_lt] at g18'
    refine RunA.val (i := 5) rfl (by kernel_rfl) (by kernel_rfl) (Val.pure rfl) rfl rfl rfl (PanQ.back rfl) (.cons .here rfl (.cons .here rfl .nil)) rfl ?_
    refine RunA.one (i := 6) (by kernel_rfl) (by kernel_rfl) ?_
    refine RunI.callP rfl (isCall_func rfl ent_53) rfl rfl rfl (fun w hm => ywithin_calls _ _ _ w) (RunK.toA (.cons .here rfl (.cons .here rfl .nil)) (.cons .here rfl (.cons .here rfl .nil)) rfl ?_)
    refine RunA.val (i := 7) rfl (by kernel_rfl) (by kernel_rfl) (Val.pure rfl) rfl rfl rfl (PanQ.back rfl) (.cons .here rfl (.cons .here rfl .nil)) rfl ?_
    refine RunA.toB (by kernel_rfl) ?_
    refine RunB.one (i := 8) (by kernel_rfl) ?_
    refine RunI.callTN rfl (isCall_func rfl ent_35) rfl rfl rfl (fun w hm => yopen_calls g a _ w (hG.mono hm)) (fun e22 he22 => ?_) (fun a22 ha22 b22 => (RunK.toB ?_))
    · refine RunE.panQ_panic (Sub.skip rfl (Sub.skip rfl (Sub.skip rfl (Sub.skip rfl (Sub.skip rfl (Sub.skip rfl (Sub.skip rfl (Sub.skip rfl (Sub.skip rfl (Sub.refl _)))))))))) (.cons .here rfl (.cons .here rfl .nil)) ?_
      refine RunE.pass_panic ?_
      exact RunE.panDC yArrives_catches ent_58 .here (.r3 rfl (.tmp rfl) (.tmp rfl) (.one rfl (.head _) ty_31 rfl)) (by simp_all [gArrives, arrG])
    obtain ⟨od, og0⟩ := openG_ok ha22
    have og : 0 ≤ goal ∧ goal ≤ 1073741824 := by first | (cases og0; done) | (simp only [within, Bool.and_eq_true, decide_eq_true_eq] at og0; exact og0)
    refine RunB.one (i := 9) (by kernel_rfl) ?_
    refine RunI.val rfl (Val.pure rfl) rfl rfl rfl (RunK.toB ?_)
    refine RunB.done (by kernel_rfl) ?_
    refine RunE.panQ_normal ?_
    refine RunE.next ?_
    refine RunC.seq ?_
    refine RunC.region ?_
    refine RunL.val (Val.pure rfl) rfl rfl rfl ?_
    refine RunL.val (Val.pure rfl) rfl rfl rfl ?_
    refine RunL.callP (isCall_func rfl ent_41) rfl rfl rfl (fun w hm => yfar_calls g a n _ w (hm.at (.head _)) (hG.mono hm)) ?_
    iterate 3 refine RunL.val (Val.pure rfl) rfl rfl rfl ?_
    refine RunL.new (New.alloc zero_72) rfl rfl rfl (fun b10 => ?_)
    refine RunL.sto (Sto.store rfl rfl .here ty_72 rfl rfl) rfl rfl ?_
    refine RunL.val (Val.pure rfl) rfl rfl rfl ?_
    refine RunL.nil ?_
    refine RunE.next ?_
    refine RunC.seq ?_
    refine RunC.region ?_
    refine RunL.val (Val.pure rfl) rfl rfl rfl ?_
    refine RunL.callT (isCall_func rfl ent_42) rfl rfl rfl (fun w hm => yneed_calls _ _ w) (fun e30 he30 => ?_) (fun v30 hv30 => ?_)
    · obtain ⟨er30, rfl⟩ := need_err he30
      refine RunE.pass_panic ?_
      exact RunE.panDC yArrives_catches ent_58 (.there (.there .here)) (.r3 rfl (.tmp rfl) (.tmp rfl) (.one rfl (.tail _ (.tail _ (.head _))) ty_31 rfl)) (by simp_all [gArrives, arrG])
    obtain ⟨ok30, rfl⟩ := need_ok hv30
    refine RunL.nil ?_
    refine RunE.next ?_
    refine RunC.seq ?_
    refine RunC.region ?_
    refine RunL.val (Val.pure rfl) rfl rfl rfl ?_
    refine RunL.val (Val.indexAddr_arr rfl rfl arr_72 (by decide) (by decide)) rfl rfl rfl ?_
    refine RunL.val (Val.fieldAddr rfl fld_64_1) rfl rfl rfl ?_
    refine RunL.val (Val.load_one rfl (.head _) ty_3 rfl) rfl rfl rfl ?_
    refine RunL.val (Val.indexAddr_arr rfl rfl arr_72 (by decide) (by decide)) rfl rfl rfl ?_
    refine RunL.val (Val.fieldAddr rfl fld_64_0) rfl rfl rfl ?_
    refine RunL.val (Val.load_one rfl (.head _) ty_3 rfl) rfl rfl rfl ?_
    refine RunL.val (Val.pure rfl) rfl rfl rfl ?_
    refine RunL.callP (isCall_func rfl ent_59) rfl rfl rfl (fun w hm => yday_calls g a (farG g n).1.2 (farG g n).2.1 goal _ w (hm.at (.tail _ (.head _))) z2 z3 (by omega) od) ?_
    refine RunL.val (Val.pure rfl) rfl rfl rfl ?_
    refine RunL.nil ?_
    refine RunE.next ?_
    refine RunC.seq ?_
    refine RunC.region ?_
    refine RunL.val (Val.pure rfl) rfl rfl rfl ?_
    refine RunL.val (Val.pure rfl) rfl rfl rfl ?_
    refine RunL.callT (isCall_func rfl ent_42) rfl rfl rfl (fun w hm => yneed_calls _ _ w) (fun e42 he42 => ?_) (fun v42 hv42 => ?_)
    · obtain ⟨er42, rfl⟩ := need_err he42
      refine RunE.pass_panic ?_
      exact RunE.panDC yArrives_catches ent_58 (.there (.there .here)) (.r3 rfl (.tmp rfl) (.tmp rfl) (.one rfl (.tail _ (.tail _ (.head _))) ty_31 rfl)) (by simp_all [gArrives, arrG])
    obtain ⟨ok42, rfl⟩ := need_ok hv42
    refine RunL.nil ?_
    refine RunE.next ?_
    refine RunC.seq ?_
    refine RunC.region ?_
    refine RunL.val (Val.pure rfl) rfl rfl rfl ?_
    refine RunL.val (Val.pure rfl) rfl rfl rfl ?_
    refine RunL.val (Val.indexAddr_arr rfl rfl arr_72 (by decide) (by decide)) rfl rfl rfl ?_
    refine RunL.val (Val.fieldAddr rfl fld_64_0) rfl rfl rfl ?_
    refine RunL.val (Val.load_one rfl (.head _) ty_3 rfl) rfl rfl rfl ?_
    refine RunL.val (Val.indexAddr_arr rfl rfl arr_72 (by decide) (by decide)) rfl rfl rfl ?_
    refine RunL.val (Val.fieldAddr rfl fld_64_1) rfl rfl rfl ?_
    refine RunL.val (Val.load_one rfl (.head _) ty_3 rfl) rfl rfl rfl ?_
    refine RunL.val (Val.pure rfl) rfl rfl rfl ?_
    refine RunL.callP (isCall_func rfl ent_59) rfl rfl rfl (fun w hm => yday_calls g a (farG g n).1.1 (farG g n).2.2 goal _ w (hm.at (.tail _ (.head _))) z1 z4 (by omega) od) ?_
    refine RunL.val (Val.pure rfl) rfl rfl rfl ?_
    refine RunL.val (Val.pure rfl) rfl rfl rfl ?_
    refine RunL.sto (Sto.store rfl rfl (.there (.there .here)) ty_31 rfl rfl) rfl rfl ?_
    refine RunL.nil ?_
    refine RunE.next ?_
    refine RunC.ret ?_
    exact RunE.retDC yArrives_catches ent_58 (.r3 rfl (.tmp rfl) (.tmp rfl) (.one rfl (.tail _ (.tail _ (.head _))) ty_31 rfl)) (by simp_all [gArrives, arrG])
  · intro g18
    have g18' := g18; clear g18
    try simp only [decide_eq_true_eq, decide_eq_false_iff_not, Bool.not_eq_true', Bool.not_eq_false', Bool.and_eq_true, Bool.or_eq_true, Bool.and_eq_false_iff, Bool.or_eq_false_iff, Int.not_le, Int.not_lt] at g18'
    refine RunA.no (i := 5) rfl (by kernel_rfl) (by kernel_rfl) rfl rfl rfl (PanQ.back rfl) (.cons .here rfl (.cons .here rfl .nil)) rfl ?_
    refine RunA.one (i := 6) (by kernel_rfl) (by kernel_rfl) ?_
    refine RunI.no rfl rfl rfl rfl (RunK.toA (.cons .here rfl (.cons .here rfl .nil)) (.cons .here rfl (.cons .here rfl .nil)) rfl ?_)
    refine RunA.val (i := 7) rfl (by kernel_rfl) (by kernel_rfl) (Val.pure rfl) rfl rfl rfl (PanQ.back rfl) (.cons .here rfl (.cons .here rfl .nil)) rfl ?_
    refine RunA.toB (by kernel_rfl) ?_
    refine RunB.one (i := 8) (by kernel_rfl) ?_
    refine RunI.callTN rfl (isCall_func rfl ent_35) rfl rfl rfl (fun w hm => yopen_calls g a _ w (hG.mono hm)) (fun e22 he22 => ?_) (fun a22 ha22 b22 => (RunK.toB ?_))
    · refine RunE.panQ_panic (Sub.skip rfl (Sub.skip rfl (Sub.skip rfl (Sub.skip rfl (Sub.skip rfl (Sub.skip rfl (Sub.skip rfl (Sub.skip rfl (Sub.skip rfl (Sub.refl _)))))))))) (.cons .here rfl (.cons .here rfl .nil)) ?_
      refine RunE.pass_panic ?_
      exact RunE.panDC yArrives_catches ent_58 .here (.r3 rfl (.tmp rfl) (.tmp rfl) (.one rfl (.head _) ty_31 rfl)) (by simp_all [gArrives, arrG])
    obtain ⟨od, og0⟩ := openG_ok ha22
    have og : 0 ≤ goal ∧ goal ≤ 1073741824 := by first | (cases og0; done) | (simp only [within, Bool.and_eq_true, decide_eq_true_eq] at og0; exact og0)
    refine RunB.one (i := 9) (by kernel_rfl) ?_
    refine RunI.val rfl (Val.pure rfl) rfl rfl rfl (RunK.toB ?_)
    refine RunB.done (by kernel_rfl) ?_
    refine RunE.panQ_normal ?_
    refine RunE.next ?_
    refine RunC.seq ?_
    refine RunC.region ?_
    refine RunL.val (Val.pure rfl) rfl rfl rfl ?_
    refine RunL.val (Val.pure rfl) rfl rfl rfl ?_
    refine RunL.callP (isCall_func rfl ent_41) rfl rfl rfl (fun w hm => yfar_calls g a n _ w (hm.at (.head _)) (hG.mono hm)) ?_
    iterate 3 refine RunL.val (Val.pure rfl) rfl rfl rfl ?_
    refine RunL.new (New.alloc zero_72) rfl rfl rfl (fun b10 => ?_)
    refine RunL.sto (Sto.store rfl rfl .here ty_72 rfl rfl) rfl rfl ?_
    refine RunL.val (Val.pure rfl) rfl rfl rfl ?_
    refine RunL.nil ?_
    refine RunE.next ?_
    refine RunC.seq ?_
    refine RunC.region ?_
    refine RunL.val (Val.pure rfl) rfl rfl rfl ?_
    refine RunL.callT (isCall_func rfl ent_42) rfl rfl rfl (fun w hm => yneed_calls _ _ w) (fun e30 he30 => ?_) (fun v30 hv30 => ?_)
    · obtain ⟨er30, rfl⟩ := need_err he30
      refine RunE.pass_panic ?_
      exact RunE.panDC yArrives_catches ent_58 (.there (.there .here)) (.r3 rfl (.tmp rfl) (.tmp rfl) (.one rfl (.tail _ (.tail _ (.head _))) ty_31 rfl)) (by simp_all [gArrives, arrG])
    obtain ⟨ok30, rfl⟩ := need_ok hv30
    refine RunL.nil ?_
    refine RunE.next ?_
    refine RunC.seq ?_
    refine RunC.region ?_
    refine RunL.val (Val.pure rfl) rfl rfl rfl ?_
    refine RunL.val (Val.indexAddr_arr rfl rfl arr_72 (by decide) (by decide)) rfl rfl rfl ?_
    refine RunL.val (Val.fieldAddr rfl fld_64_1) rfl rfl rfl ?_
    refine RunL.val (Val.load_one rfl (.head _) ty_3 rfl) rfl rfl rfl ?_
    refine RunL.val (Val.indexAddr_arr rfl rfl arr_72 (by decide) (by decide)) rfl rfl rfl ?_
    refine RunL.val (Val.fieldAddr rfl fld_64_0) rfl rfl rfl ?_
    refine RunL.val (Val.load_one rfl (.head _) ty_3 rfl) rfl rfl rfl ?_
    refine RunL.val (Val.pure rfl) rfl rfl rfl ?_
    refine RunL.callP (isCall_func rfl ent_59) rfl rfl rfl (fun w hm => yday_calls g a (farG g n).1.2 (farG g n).2.1 goal _ w (hm.at (.tail _ (.head _))) z2 z3 (by omega) od) ?_
    refine RunL.val (Val.pure rfl) rfl rfl rfl ?_
    refine RunL.nil ?_
    refine RunE.next ?_
    refine RunC.seq ?_
    refine RunC.region ?_
    refine RunL.val (Val.pure rfl) rfl rfl rfl ?_
    refine RunL.val (Val.pure rfl) rfl rfl rfl ?_
    refine RunL.callT (isCall_func rfl ent_42) rfl rfl rfl (fun w hm => yneed_calls _ _ w) (fun e42 he42 => ?_) (fun v42 hv42 => ?_)
    · obtain ⟨er42, rfl⟩ := need_err he42
      refine RunE.pass_panic ?_
      exact RunE.panDC yArrives_catches ent_58 (.there (.there .here)) (.r3 rfl (.tmp rfl) (.tmp rfl) (.one rfl (.tail _ (.tail _ (.head _))) ty_31 rfl)) (by simp_all [gArrives, arrG])
    obtain ⟨ok42, rfl⟩ := need_ok hv42
    refine RunL.nil ?_
    refine RunE.next ?_
    refine RunC.seq ?_
    refine RunC.region ?_
    refine RunL.val (Val.pure rfl) rfl rfl rfl ?_
    refine RunL.val (Val.pure rfl) rfl rfl rfl ?_
    refine RunL.val (Val.indexAddr_arr rfl rfl arr_72 (by decide) (by decide)) rfl rfl rfl ?_
    refine RunL.val (Val.fieldAddr rfl fld_64_0) rfl rfl rfl ?_
    refine RunL.val (Val.load_one rfl (.head _) ty_3 rfl) rfl rfl rfl ?_
    refine RunL.val (Val.indexAddr_arr rfl rfl arr_72 (by decide) (by decide)) rfl rfl rfl ?_
    refine RunL.val (Val.fieldAddr rfl fld_64_1) rfl rfl rfl ?_
    refine RunL.val (Val.load_one rfl (.head _) ty_3 rfl) rfl rfl rfl ?_
    refine RunL.val (Val.pure rfl) rfl rfl rfl ?_
    refine RunL.callP (isCall_func rfl ent_59) rfl rfl rfl (fun w hm => yday_calls g a (farG g n).1.1 (farG g n).2.2 goal _ w (hm.at (.tail _ (.head _))) z1 z4 (by omega) od) ?_
    refine RunL.val (Val.pure rfl) rfl rfl rfl ?_
    refine RunL.val (Val.pure rfl) rfl rfl rfl ?_
    refine RunL.sto (Sto.store rfl rfl (.there (.there .here)) ty_31 rfl rfl) rfl rfl ?_
    refine RunL.nil ?_
    refine RunE.next ?_
    refine RunC.ret ?_
    exact RunE.retDC yArrives_catches ent_58 (.r3 rfl (.tmp rfl) (.tmp rfl) (.one rfl (.tail _ (.tail _ (.head _))) ty_31 rfl)) (by simp_all [gArrives, arrG])
end Go.Proofs.Ytjijeeadmhpfcaa
/- The engine inside a round of a range over a function: all of its judgements there; ranges whose variables are laid in blocks, ranges in rounds, rounds that break off or return; functions that hold several. No program is in sight. -/
namespace Go.Eng
open Go Go.RowKit

theorem wpIn_scope_straight {F : Fence} {n : Nat} {P : Program} {Q : Exit → Act → World → Prop} {a : Act} {w : World} {c : Code} (h : c.wpIn F n P (Exit.noGoto Q) a w) : (Code.scope c).wpIn F n P Q a w := by
  intro b k cs hro hb hr
  have st1 : ∀ a w k, step P (lone (b.atR a (.code (.scope c) :: k)) cs w) = .next (lone (b.atR a (.code c :: .inScope c :: k)) cs w) := fun a w k => step_lone_go (by simp [stepG, stepG.exec, Frame.atR])
  have st2 : ∀ a w k, step P (lone (b.atR a (.inScope c :: k)) cs w) = .next (lone (b.atR a k) cs w) := fun a w k => step_lone_go (by simp [stepG, stepG.exec, Frame.atR])
  have h0 : (lone (b.atR a (.code (.scope c) :: k)) cs w).fenced P F := fenced_calm hb hr rfl
  obtain ⟨e, a₁, w₁, hq, harr⟩ := h b (.inScope c :: k) cs hro hb hr
  cases e with
  | normal => exact ⟨.normal, a₁, w₁, hq, .head h0 (st1 _ _ _) (StepsIn.trans harr (.one (fenced_calm hb hr rfl) (st2 _ _ _)))⟩
  | exit id =>
    have hx : exitTo id (.inScope c :: k) = exitTo id k := by simp [exitTo]
    exact ⟨.exit id, a₁, w₁, hq, fun k' hk => .head h0 (st1 _ _ _) (harr.1 k' (by rw [hx]; exact hk)), fun hr' hk => let ⟨k₁, h1, h2⟩ := harr.2 hr' (by rw [hx]; exact hk); ⟨k₁, h1, .head h0 (st1 _ _ _) h2⟩⟩
  | goto l => exact hq.elim
  | ret => exact ⟨_, a₁, w₁, hq, .of_steps (.one h0 (st1 _ _ _)) harr⟩
  | panic ch => exact ⟨_, a₁, w₁, hq, .of_steps (.one h0 (st1 _ _ _)) harr⟩
  | outgrown => exact ⟨_, a₁, w₁, hq, .of_steps (.one h0 (st1 _ _ _)) harr⟩

section
variable {ro : Option Nat} {P : Program} {ops : Array Oper} {Q : Exit → Act → World → Prop} {n : Nat} {r : Regs} {ds : List Deferred} {W : World} {chg news : Blks} {rest : List Oper}

/-! ### What holds of a region outside of rounds holds inside -/
def noDefers (ops : Array Oper) : Bool := ops.toList.all notDefer
theorem rows_in {row : String} {args : Array Value} {w : World} {R : Value → World → Prop} {m : Nat} (h : Rows P row args w R) : RowsIn (Fr ro) m P row args w R := fun c cs _ =>
  let ⟨v, w', hR, s⟩ := h c cs
  ⟨v, w', hR, by
    have e : Machine.fenced P (Fr ro) = Machine.fenced P Fence.wide := by cases ro <;> rfl
    rw [e]; exact stepsIn_wide.2 s⟩
theorem calls_in {f : FuncId} {args : Array Value} {w : World} {R : Ending → World → Prop} {m : Nat} (h : Calls P f args w R) : CallsIn (Fr ro) m P f args w R := by
  have h2 : CallsIn Fence.wide m P f args w R := callsIn_wide.2 h
  cases ro with
  | none => exact h2
  | some l => exact CallsIn.inRound l h2
theorem upon_in {o : Oper} {a : Act} {K : Act → World → Prop} {x : Result Next} (h : o.upon P a K Q x) : o.uponIn (Fr ro) 9 P a K Q x := by
  cases x with
  | ok nx w' =>
    cases nx <;> simp only [Oper.upon, Oper.uponIn] at h ⊢ <;>
      first
        | exact h
        | exact ⟨fun h => (by cases h), (calls_in h).mono (fun e w'' he => by cases e <;> exact he)⟩
        | exact ⟨fun h => (by cases h), rows_in h⟩
  | halt x w' => cases x <;> simp only [Oper.upon, Oper.uponIn] at h ⊢ <;> exact h
theorem oper_in {o : Oper} {a : Act} {w : World} {K : Act → World → Prop} (hnd : notDefer o = true) (hlo : LetsOut Q → False) (h : o.wp P a w K Q ∨ (o.asks P a w ∧ LetsOut Q)) : o.wpIn (Fr ro) 9 P a w K Q := by
  rcases h with h | h
  · refine ⟨fun _ _ => trivial, ?_⟩
    rw [Oper.semAt_eq _ _ _ (notDefer_spec hnd)]
    exact upon_in h
  · exact (hlo h.2).elim
theorem list_in (hlo : LetsOut Q → False) : ∀ (l : List Oper) (a : Act) (w : World), l.all notDefer = true → wpList P ops Q l a w → wpListIn (Fr ro) 9 P ops Q l a w
  | [], _, _, _, h => h
  | o :: l, a, w, hn, h => by
    simp only [List.all_cons, Bool.and_eq_true] at hn
    simp only [wpList, wpListIn] at h ⊢
    split
    · rename_i hw
      rw [if_pos hw] at h
      exact oper_in hn.1 hlo (h.imp (Oper.wp_mono (fun a w h => list_in hlo l a w hn.2 h)) id)
    · rename_i hw
      rw [if_neg hw] at h
      exact ⟨fun _ _ => trivial, list_in hlo l _ _ hn.2 h⟩
theorem op_in {i : Nat} {K K' : Act → World → Prop} {a : Act} {w : World} (hn : noDefers ops = true) (hlo : LetsOut Q → False) (hK : ∀ a w, K a w → K' a w) (h : wpOp P ops Q i K a w) : wpOpIn (Fr ro) 9 P ops Q i K' a w := by
  unfold wpOp at h
  unfold wpOpIn
  cases ho : ops[i]? with
  | none => simp only [ho] at h ⊢; exact hK _ _ h
  | some o =>
    simp only [ho] at h ⊢
    have hnd : notDefer o = true := List.all_eq_true.1 hn o (by
      obtain ⟨h1, h2⟩ := Array.getElem?_eq_some_iff.1 ho
      rw [← h2]; exact Array.mem_toList_iff.2 (Array.getElem_mem h1))
    split
    · rename_i hw
      rw [if_pos hw] at h
      exact oper_in hnd hlo (h.imp (Oper.wp_mono hK) id)
    · rename_i hw
      rw [if_neg hw] at h
      exact ⟨fun _ _ => trivial, hK _ _ h⟩
theorem any_in (hn : noDefers ops = true) (hlo : LetsOut Q → False) : ∀ (fuel : Nat) (listed : Array Bool) (a : Act) (w : World), wpAny P .any ops Q fuel listed a w → wpAnyIn (Fr ro) 9 P .any ops Q fuel listed a w
  | 0, _, _, _, h => h
  | fuel + 1, _, _, _, h => ⟨h.1, fun i hi => op_in hn hlo (fun a' w' h' => any_in hn hlo fuel _ a' w' h') (h.2 i hi)⟩
theorem lets_no {Q : Exit → Act → World → Prop} (h : ∀ a w, Q .outgrown a w → False) : LetsOut Q → False := fun ⟨a, w, hq⟩ => h a w hq

theorem RunCR.regionP {id : Nat} {l : List Oper} (h : RunL P l.toArray Q n l r ds W chg news) (hnd : l.all notDefer = true := by rfl) (hlo : ∀ a w, Q .outgrown a w → False := by exact fun _ _ h => h) : RunCR ro P Q n (.region id l.toArray false) r ds W chg news := fun a w s =>
  wpIn_region_lit (list_in (lets_no hlo) l a w hnd (h a w s))
theorem RunCR.draw {id : Nat} {l : List Oper} {news0 : Blks} (k : Nat) (hm : P.follows .mixedOrders = true) (_hp : Pick news0 news) (h : RunA P l.toArray Q k (fun c => c = chg) news0 n l.toArray.size (Array.replicate l.toArray.size false) r ds W chg news) (hnd : noDefers l.toArray = true := by rfl) (hlo : ∀ a w, Q .outgrown a w → False := by exact fun _ _ h => h) : RunCR ro P Q n (.region id l.toArray true) r ds W chg news := fun a _ s =>
  wpIn_region_any hm (any_in hnd (lets_no hlo) _ _ _ _ (wpAny_of_T _ _ _ _ (h a _ s.drew Closed.start)))
theorem RunCR.drawK {id : Nat} {l : List Oper} {news0 : Blks} (k : Nat) (hm : P.follows .mixedOrders = true) (_hp : Pick news0 news) (h : RunA P l.toArray Q k (fun c => c.map (·.1) = chg.map (·.1)) news0 n l.toArray.size (Array.replicate l.toArray.size false) r ds W chg news) (hnd : noDefers l.toArray = true := by rfl) (hlo : ∀ a w, Q .outgrown a w → False := by exact fun _ _ h => h) : RunCR ro P Q n (.region id l.toArray true) r ds W chg news := fun a _ s =>
  wpIn_region_any hm (any_in hnd (lets_no hlo) _ _ _ _ (wpAny_of_T _ _ _ _ (h a _ s.drew Closed.start)))
theorem RunCR.drawJ {id : Nat} {l : List Oper} {news0 : Blks} {J : Act → World → Prop} (k : Nat) (hm : P.follows .mixedOrders = true) (_hp : Pick news0 news) (h : RunA P l.toArray (SegQ Q J) k (fun c => c = chg) news0 n l.toArray.size (Array.replicate l.toArray.size false) r ds W chg news) (h2 : ∀ a w, J a w → Q .normal a w) (hnd : noDefers l.toArray = true := by rfl) (hlo : ∀ a w, Q .outgrown a w → False := by exact fun _ _ h => h) :
    RunCR ro P Q n (.region id l.toArray true) r ds W chg news := fun a _ s =>
  Go.wpIn_mono (wpIn_region_any hm (any_in (Q := SegQ Q J) hnd (lets_no (Q := SegQ Q J) (fun a w hq => hlo a w hq)) _ _ _ _ (wpAny_of_T _ _ _ _ (h a _ s.drew Closed.start)))) (fun e a w hq => by cases e <;> first | exact h2 a w hq | exact hq)
theorem RunCR.drawX {X : Type} {id : Nat} {l : List Oper} {news0 : Blks} {q : Regs} (k : Nat) (n0 : Blks) (R : X → Regs → Regs) (C V T : X → Blks) (Inv : X → Prop) (hm : P.follows .mixedOrders = true) (hp : Pick news0 news) (_hs : Sub q r) (_hn : Pick n0 news)
    (h : RunA P l.toArray (SegQ Q (MeetP n ds W (fun x => R x q) C (fun x => V x ++ (n0 ++ T x)) Inv)) k (fun c => c = chg) news0 n l.toArray.size (Array.replicate l.toArray.size false) r ds W chg news)
    (h2 : ∀ x, Inv x → RunE Q n .normal (R x q) ds W (C x) (V x ++ (n0 ++ T x))) (hnd : noDefers l.toArray = true := by rfl) (hlo : ∀ a w, Q .outgrown a w → False := by exact fun _ _ h => h) : RunCR ro P Q n (.region id l.toArray true) r ds W chg news :=
  RunCR.drawJ k hm hp h (fun a w hj => by
    obtain ⟨x, hi, sx⟩ := hj
    exact h2 x hi a w sx) hnd hlo
theorem RunCR.scope {c : Code} (h : RunCR ro P (Exit.noGoto Q) n c r ds W chg news) : RunCR ro P Q n (.scope c) r ds W chg news := fun a w s => wpIn_scope_straight (h a w s)
theorem RunCR.label {l : Nat} (h : RunE Q n .normal r ds W chg news) : RunCR ro P Q n (.label l) r ds W chg news := fun a w s => wpIn_label (h a w s)
theorem RunCR.cond_true {c : Operand} {x y : Code} (hc : rev r c = some (.bool true)) (ht : RunCR ro P Q n x r ds W chg news) : RunCR ro P Q n (.cond c x y) r ds W chg news :=
  RunCR.cond hc (fun _ => ht) (fun h => by cases h)
theorem RunCR.cond_false {c : Operand} {x y : Code} (hc : rev r c = some (.bool false)) (hf : RunCR ro P Q n y r ds W chg news) : RunCR ro P Q n (.cond c x y) r ds W chg news :=
  RunCR.cond hc (fun h => by cases h) (fun _ => hf)
theorem RunCR.keep {c : Code} {q : Regs} {news' : Blks} (hs : Sub q r) (hn : Pick news' news) (h : RunCR ro P Q n c q ds W chg news') : RunCR ro P Q n c r ds W chg news := fun a w s => h a w (s.pick hs hn)
theorem RunCR.unroll {body : Code} (k : Nat) (h : RunCR ro P (Exit.then (Code.roundsIn (Fr ro) 9 P body Q k) Q) n body r ds W chg news) : RunCR ro P Q n (.loop body) r ds W chg news := fun a w s => wpIn_loop_rounds (k + 1) (h a w s)
theorem RunER.rounds {body : Code} {k : Nat} (h : RunCR ro P (Exit.then (Code.roundsIn (Fr ro) 9 P body Q k) Q) n body r ds W chg news) : RunE (Exit.then (Code.roundsIn (Fr ro) 9 P body Q (k + 1)) Q) n .normal r ds W chg news := fun a w s => h a w s
theorem RunCR.loopK {body : Code} {q : Regs} {n0 : Blks} (N : Nat) (R : Nat → Regs → Regs) (C V : Nat → Blks) (Inv : Nat → Prop) (h0 : Inv 0) (hc : chg = C 0) (hs : Sub (R 0 q) r) (hn : Pick (V 0 ++ n0) news)
    (hb : ∀ k, k ≤ N → Inv k → RunCR ro P (Exit.then (Round n ds W C N Inv (fun k => R k q) (fun k => V k ++ n0) k) Q) n body (R k q) ds W (C k) (V k ++ n0)) : RunCR ro P Q n (.loop body) r ds W chg news := by
  have key : ∀ (m k : Nat), N - k < m → k ≤ N → Inv k → ∀ a w, St n (R k q) ds W (C k) (V k ++ n0) a w → Code.roundsIn (Fr ro) 9 P body Q m a w := by
    intro m
    induction m with
    | zero => intro k h; omega
    | succ m ih =>
      intro k hk hN hi a w s
      rw [roundsIn_succ]
      refine Go.wpIn_mono (hb k hN hi a w s) ?_
      rintro e a2 w2 hq
      cases e with
      | normal =>
        obtain ⟨k', h1, h2, h3, s2⟩ := hq
        exact ih k' (by omega) h2 h3 a2 w2 s2
      | exit id => exact hq
      | goto l => exact hq
      | ret => exact hq
      | panic c => exact hq
      | outgrown => exact hq
  intro a w s
  subst hc
  exact wpIn_loop_rounds _ (key _ 0 (Nat.lt_succ_self _) (Nat.zero_le _) h0 a w (s.pick hs hn))
theorem RunCR.loopX {X : Type} {body : Code} {q : Regs} (n0 : Blks) (N : Nat) (R : Nat → X → Regs → Regs) (C V T : Nat → X → Blks) (Inv : Nat → X → Prop) (x0 : X) (h0 : Inv 0 x0) (hc : chg = C 0 x0) (hs : Sub (R 0 x0 q) r) (hn : Pick (V 0 x0 ++ (n0 ++ T 0 x0)) news)
    (hb : ∀ k x, k ≤ N → Inv k x → RunCR ro P (Exit.then (RoundX n ds W C N Inv (fun k x => R k x q) (fun k x => V k x ++ (n0 ++ T k x)) k) Q) n body (R k x q) ds W (C k x) (V k x ++ (n0 ++ T k x))) : RunCR ro P Q n (.loop body) r ds W chg news := by
  have key : ∀ (m k : Nat) (x : X), N - k < m → k ≤ N → Inv k x → ∀ a w, St n (R k x q) ds W (C k x) (V k x ++ (n0 ++ T k x)) a w → Code.roundsIn (Fr ro) 9 P body Q m a w := by
    intro m
    induction m with
    | zero => intro k x h; omega
    | succ m ih =>
      intro k x hk hN hi a w s
      rw [roundsIn_succ]
      refine Go.wpIn_mono (hb k x hN hi a w s) ?_
      rintro e a2 w2 hq
      cases e with
      | normal =>
        obtain ⟨k', x', h1, h2, h3, s2⟩ := hq
        exact ih k' x' (by omega) h2 h3 a2 w2 s2
      | exit id => exact hq
      | goto l => exact hq
      | ret => exact hq
      | panic c => exact hq
      | outgrown => exact hq
  intro a w s
  subst hc
  exact wpIn_loop_rounds _ (key _ 0 x0 (Nat.lt_succ_self _) (Nat.zero_le _) h0 a w (s.pick hs hn))
theorem RunCR.seqJ {X : Type} {c1 c2 : Code} {q : Regs} (n0 : Blks) (R : X → Regs → Regs) (C V T : X → Blks) (Inv : X → Prop) (_hs : Sub q r) (_hn : Pick n0 news)
    (h : RunCR ro P (Exit.then (MeetP n ds W (fun x => R x q) C (fun x => V x ++ (n0 ++ T x)) Inv) Q) n c1 r ds W chg news)
    (h2 : ∀ x, Inv x → RunCR ro P Q n c2 (R x q) ds W (C x) (V x ++ (n0 ++ T x))) : RunCR ro P Q n (.seq c1 c2) r ds W chg news := fun a w s =>
  wpIn_seq (Go.wpIn_mono (h a w s) (fun e a' w' he => by
    cases e with
    | normal => obtain ⟨x, hi, sx⟩ := he; exact h2 x hi a' w' sx
    | exit id => exact he
    | goto l => exact he
    | ret => exact he
    | panic c => exact he
    | outgrown => exact he))
end

/-! ### Ranges -/
section
variable {ro : Option Nat} {P : Program} {ops : Array Oper} {Q : Exit → Act → World → Prop} {n : Nat} {r : Regs} {ds : List Deferred} {W : World} {chg news : Blks} {rest : List Oper}

/-- The registers behind the parameters of a round. -/
def putsR : List Nat → List Value → Regs → Regs
  | p :: ps, v :: vs, r => putsR ps vs ((p, v) :: r)
  | _, _, r => r
theorem putsR_agree : ∀ (ps : List Nat) (vs : List Value) (t : Array Value) (r : Regs), (∀ p ∈ ps, p < t.size) → (∀ u v, rget r u = some v → t[u]? = some v) →
    (∀ u v, rget (putsR ps vs r) u = some v → ((ps.zip vs).foldl (fun t (pv : Nat × Value) => t.setIfInBounds pv.1 pv.2) t)[u]? = some v) ∧ ((ps.zip vs).foldl (fun t (pv : Nat × Value) => t.setIfInBounds pv.1 pv.2) t).size = t.size
  | [], vs, t, r, _, h => by simpa [putsR] using h
  | p :: ps, [], t, r, _, h => by simpa [putsR] using h
  | p :: ps, v :: vs, t, r, hp, h => by
    have h1 := putsR_agree ps vs (t.setIfInBounds p v) ((p, v) :: r) (fun q hq => by rw [Array.size_setIfInBounds]; exact hp q (by simp [hq])) (fun u x hu => by
      have ha : Agree { tmps := t, defers := [] } r := h
      have := ha.put (d := p) (v := v) (hp p (by simp)) u x hu
      simpa [Act.put] using this)
    simpa [putsR] using h1
/-- Where the record of a round's loop lies, and that it is none of the blocks that turn. -/
structure InR (l : Nat) (W : World) (nm : List Nat) : Prop where
  rec' : ∃ x, W.heap[l]? = some (.loop x)
  notin : l ∉ nm
/-- The variables of a round are there. -/
def AsgQ {Y : Type} (n : Nat) (W : World) (V : Blks) (R : Y → Regs) (NB : Y → Blks) : Exit → Act → World → Prop
  | .normal, a, w => ∃ y, St n (R y) [] W V (NB y) a w
  | _, _, _ => False
theorem RunE.asg {Y : Type} {R : Y → Regs} {NB : Y → Blks} {V : Blks} (y : Y) (hc : chg = V) (hs : Sub (R y) r) (hn : Pick (NB y) news) : RunE (AsgQ n W V R NB) n .normal r [] W chg news := fun _ _ s => ⟨y, by subst hc; exact s.pick hs hn⟩
/-- How a round may be left: on to the next one, with the blocks V; or out of the loop. -/
def BodyX (W : World) (nv nb : List Nat) (V : Blks) (Stp : Code → Blks → Prop) : Exit → Act → World → Prop
  | .normal, _, w => ∃ B, B.map (·.1) = nb ∧ Mem W (V ++ B) [] w
  | .ret, _, w => ∃ V' B, V'.map (·.1) = nv ∧ B.map (·.1) = nb ∧ Stp .ret V' ∧ Mem W (V' ++ B) [] w
  | .exit id, _, w => ∃ V' B, V'.map (·.1) = nv ∧ B.map (·.1) = nb ∧ Stp (.exit id) V' ∧ Mem W (V' ++ B) [] w
  | _, _, _ => False
theorem RunE.bodyX {nv nb : List Nat} {V : Blks} {Stp : Code → Blks → Prop} (B : Blks) (hc : chg = V ++ B) (hb : B.map (·.1) = nb := by rfl) : RunE (BodyX W nv nb V Stp) n .normal r ds W chg news := fun _ _ s => ⟨B, hb, hc ▸ s.mem.drop⟩
theorem RunE.bodyX_ret {nv nb : List Nat} {V : Blks} {Stp : Code → Blks → Prop} (V' B : Blks) (hs : Stp .ret V') (hc : chg = V' ++ B) (hv : V'.map (·.1) = nv := by rfl) (hb : B.map (·.1) = nb := by rfl) : RunE (BodyX W nv nb V Stp) n .ret r ds W chg news := fun _ _ s => ⟨V', B, hv, hb, hs, hc ▸ s.mem.drop⟩
theorem RunE.bodyX_exit {id : Nat} {nv nb : List Nat} {V : Blks} {Stp : Code → Blks → Prop} (V' B : Blks) (hs : Stp (.exit id) V') (hc : chg = V' ++ B) (hv : V'.map (·.1) = nv := by rfl) (hb : B.map (·.1) = nb := by rfl) : RunE (BodyX W nv nb V Stp) n (.exit id) r ds W chg news := fun _ _ s => ⟨V', B, hv, hb, hs, hc ▸ s.mem.drop⟩

theorem Mem.roundN {w w' : World} {V V' n0 B : Blks} (h : Mem W chg (V ++ n0) w) (h' : Mem w (V' ++ B) [] w') (hm : V'.map (·.1) = V.map (·.1)) (hB : ∀ b ∈ B.map (·.1), W.heap.size ≤ b ∧ ∀ o, (b, o) ∉ chg ++ (V ++ n0)) : Mem W chg (V' ++ n0) w' := by
  have hV : ∀ b, (∃ o, (b, o) ∈ V') ↔ ∃ o, (b, o) ∈ V := fun b => by rw [← mem_names, ← mem_names, hm]
  have hge : ∀ b o, (b, o) ∈ V' → W.heap.size ≤ b := fun b o hb => by
    obtain ⟨o2, h2⟩ := (hV b).1 ⟨o, hb⟩
    exact (h.newd b o2 (List.mem_append.2 (.inl h2))).1
  have hnd := h.once
  have hout : ∀ b o, (b, o) ∈ B → W.heap.size ≤ b ∧ ∀ o, (b, o) ∉ chg ++ (V ++ n0) := fun b o hb => hB b (mem_names.2 ⟨o, hb⟩)
  refine ⟨h'.os.trans h.os, h'.tape.trans h.tape, h'.output.trans h.output, Nat.le_trans h.size h'.size, fun k hk hc => ?_, fun b o hb => ?_, fun b o hb => ?_, ?_⟩
  · rw [h'.old k (Nat.lt_of_lt_of_le hk h.size) (fun o ho => by
      rcases List.mem_append.1 ho with ho | ho
      · have := hge k o ho; omega
      · have := (hout k o ho).1; omega)]
    exact h.old k hk hc
  · have h1 := h.chgd b o hb
    refine ⟨h1.1, ?_⟩
    rw [h'.old b (h.lt_new (List.mem_append.2 (.inl hb))) (fun o2 ho => ?_)]
    · exact h1.2
    · rcases List.mem_append.1 ho with ho | ho
      · have := hge b o2 ho; omega
      · exact (hout b o2 ho).2 o (List.mem_append.2 (.inl hb))
  · rcases List.mem_append.1 hb with hb | hb
    · exact ⟨hge b o hb, h'.at (by simp [hb])⟩
    · have h1 := h.newd b o (List.mem_append.2 (.inr hb))
      refine ⟨h1.1, ?_⟩
      rw [h'.old b (h.lt_new (List.mem_append.2 (.inr (List.mem_append.2 (.inr hb))))) (fun o2 ho => ?_)]
      · exact h1.2
      · rcases List.mem_append.1 ho with ho | ho
        · obtain ⟨o3, h3⟩ := (hV b).1 ⟨o2, ho⟩
          rw [List.map_append, List.map_append, List.nodup_append] at hnd
          have h4 := (List.nodup_append.1 hnd.2.1).2.2 b (mem_names.2 ⟨o3, h3⟩) b (mem_names.2 ⟨o, hb⟩)
          exact h4 rfl
        · exact (hout b o2 ho).2 o (List.mem_append.2 (.inr (List.mem_append.2 (.inr hb))))
  · have e : (chg ++ (V' ++ n0)).map (·.1) = (chg ++ (V ++ n0)).map (·.1) := by simp [List.map_append, hm]
    rw [e]; exact hnd
/-- The variables of a round, held. -/
structure Held (n B : Nat) (r : Regs) (NB : Blks) (a : Act) (w : World) : Prop where
  size : a.tmps.size = n
  agree : Agree a r
  defers : a.defers = []
  held : ∀ b o, (b, o) ∈ NB → B ≤ b ∧ w.heap[b]? = some o
  once : (NB.map (·.1)).Nodup

/-- What a range and its rounds must be, wherever the loop stands. -/
structure RangeOk {α Y : Type} (P : Program) (n N : Nat) (r : Regs) (W : World) (chg n0 : Blks) (ps : List Nat) (assign body : Code) (enc : α → List Value) (V : List α → Blks) (RY : α → Y → Regs) (NB : α → Y → Blks) (Stp : Code → List α → Blks → Prop) : Prop where
  names : ∀ pre, (V pre).map (·.1) = (V []).map (·.1)
  cells : ∀ pre b o, (b, o) ∈ V pre → o.isCells = true
  cellsN : ∀ x y b o, (b, o) ∈ NB x y → o.isCells = true
  lens : ∀ x, (enc x).length = ps.length
  inps : ∀ p ∈ ps, p < n
  asg : ∀ l pre x W1, Mem W chg (V pre ++ n0) W1 → RunCR (some l) P (AsgQ n W1 (V pre) (RY x) (NB x)) n assign (putsR ps (enc x) r) [] W1 (V pre) []
  body : ∀ l pre x y W1, pre.length < N → Mem W chg (V pre ++ n0) W1 → InR l W1 ((V pre ++ NB x y).map (·.1)) → (∀ b, (∃ o, (b, o) ∈ chg ++ n0) ∨ b < W.heap.size → b ∉ (V pre ++ NB x y).map (·.1)) → RunCR (some l) P (BodyX W1 ((V []).map (·.1)) ((NB x y).map (·.1)) (V (pre ++ [x])) (fun c V' => Stp c (pre ++ [x]) V')) n body (RY x y) [] W1 (V pre ++ NB x y) []

variable {α Y : Type} {N : Nat} {n0 : Blks} {ps : List Nat} {assign body : Code} {enc : α → List Value} {V : List α → Blks} {RY : α → Y → Regs} {NB : α → Y → Blks} {Stp : Code → List α → Blks → Prop}

theorem RangeOk.lt (H : RangeOk P n N r W chg n0 ps assign body enc V RY NB Stp) {w : World} (s0 : Mem W chg (V [] ++ n0) w) : ∀ pre b o, (b, o) ∈ chg ++ (V pre ++ n0) → b < w.heap.size := fun pre b o hb => by
  rcases List.mem_append.1 hb with hb | hb
  · exact s0.lt_new (List.mem_append.2 (.inl hb))
  · rcases List.mem_append.1 hb with hb | hb
    · have : b ∈ (V pre).map (·.1) := mem_names.2 ⟨o, hb⟩
      rw [H.names pre] at this
      obtain ⟨o2, h2⟩ := mem_names.1 this
      exact s0.lt_new (List.mem_append.2 (.inr (List.mem_append.2 (.inl h2))))
    · exact s0.lt_new (List.mem_append.2 (.inr (List.mem_append.2 (.inr hb))))
/-- What is known of the memory from round to round. -/
def RI (W : World) (chg n0 : Blks) (V : List α → Blks) (B : Nat) (pre : List α) (W' : World) : Prop := Mem W chg (V pre ++ n0) W' ∧ B ≤ W'.heap.size
/-- What is known behind a round that leaves the loop. -/
def RIx (W : World) (chg n0 : Blks) (nv : List Nat) (Stp : Code → List α → Blks → Prop) (B : Nat) (c : Code) (pre : List α) (W' : World) : Prop := ∃ V', V'.map (·.1) = nv ∧ Stp c pre V' ∧ Mem W chg (V' ++ n0) W' ∧ B ≤ W'.heap.size
theorem RangeOk.own (H : RangeOk P n N r W chg n0 ps assign body enc V RY NB Stp) {w : World} (s0 : Mem W chg (V [] ++ n0) w) : OwnFrom w.heap.size (RI W chg n0 V w.heap.size) := fun pre _ _ _ hI hgr hr =>
  ⟨hI.1.turned hgr (fun k e => (hr k e).1) (H.lt s0 pre) s0.size, Nat.le_trans hI.2 hgr.size⟩
theorem RangeOk.ownX (H : RangeOk P n N r W chg n0 ps assign body enc V RY NB Stp) {w : World} (s0 : Mem W chg (V [] ++ n0) w) (c : Code) : OwnFrom w.heap.size (RIx W chg n0 ((V []).map (·.1)) Stp w.heap.size c) := fun pre _ _ _ hI hgr hr => by
  obtain ⟨V', h1, h2, h3, h4⟩ := hI
  refine ⟨V', h1, h2, h3.turned hgr (fun k e => (hr k e).1) (fun b o hb => ?_) s0.size, Nat.le_trans h4 hgr.size⟩
  rcases List.mem_append.1 hb with hb | hb
  · exact H.lt s0 [] b o (List.mem_append.2 (.inl hb))
  · rcases List.mem_append.1 hb with hb | hb
    · have : b ∈ V'.map (·.1) := mem_names.2 ⟨o, hb⟩
      rw [h1] at this
      obtain ⟨o2, h2⟩ := mem_names.1 this
      exact H.lt s0 [] b o2 (List.mem_append.2 (.inr (List.mem_append.2 (.inl h2))))
    · exact H.lt s0 [] b o (List.mem_append.2 (.inr (List.mem_append.2 (.inr hb))))
theorem RangeOk.ownA (H : RangeOk P n N r W chg n0 ps assign body enc V RY NB Stp) {B : Nat} (x : α) (a' : Act) : OwnFrom B (fun (_ : Unit) W' => ∃ y, Held n B (RY x y) (NB x y) a' W') := fun _ A C row hI hgr hr => by
  obtain ⟨y, h⟩ := hI
  refine ⟨y, h.size, h.agree, h.defers, fun b o hb => ?_, h.once⟩
  obtain ⟨h1, h2⟩ := h.held b o hb
  refine ⟨h1, ?_⟩
  rw [hgr.block b (Array.getElem?_eq_some_iff.1 h2).1 (fun e => ?_)]
  · exact h2
  · obtain ⟨_, o2, h3, h4⟩ := hr b e.symm
    rw [h2] at h3
    cases h3
    rw [H.cellsN x y b o hb] at h4
    cases h4
theorem keepsFrom_mem {w w' : World} {B : Nat} {V : Blks} (h : Mem w V [] w') (hv : ∀ b o, (b, o) ∈ V → b < B ∨ ∃ o', w.heap[b]? = some o' ∧ o'.isCells = true) : KeepsFrom B w w' :=
  ⟨h.size, fun k o hB hk ho => by
    rw [h.old k (Array.getElem?_eq_some_iff.1 hk).1 (fun o2 ho2 => ?_)]
    · exact hk
    · rcases hv k o2 ho2 with h1 | ⟨o3, h3, h4⟩
      · omega
      · rw [hk] at h3; cases h3; rw [ho] at h4; cases h4⟩
theorem RangeOk.asgW (H : RangeOk P n N r W chg n0 ps assign body enc V RY NB Stp) {a : Act} {w : World} (s : St n r ds W chg (V [] ++ n0) a w) (l : Nat) (pre : List α) (x : α) (W1 : World) (K : Act → World → Prop) (hI : RI W chg n0 V w.heap.size pre W1)
    (hK : ∀ a' W', KeepsFrom w.heap.size W1 W' → KpX w.heap.size ((V []).map (·.1)) W1 W' → RI W chg n0 V w.heap.size pre W' → (∃ y, Held n w.heap.size (RY x y) (NB x y) a' W') → K a' W') :
    assign.wpIn ((Fr none).inRound l) 7 P (Exit.then K (fun _ _ _ => False)) { tmps := (ps.toArray.zip (enc x).toArray).foldl (fun t (p, v) => t.setIfInBounds p v) a.tmps, defers := [] } W1 := by
  have hp := putsR_agree ps (enc x) a.tmps r (fun p hp => by rw [s.size]; exact H.inps p hp) (fun u v hu => s.agree u v hu)
  have e : (ps.toArray.zip (enc x).toArray).foldl (fun t (pv : Nat × Value) => t.setIfInBounds pv.1 pv.2) a.tmps = (ps.zip (enc x)).foldl (fun t (pv : Nat × Value) => t.setIfInBounds pv.1 pv.2) a.tmps := by
    rw [← Array.foldl_toList, Array.toList_zip]
  have hst : Mem W1 (V pre) [] W1 := ⟨rfl, rfl, rfl, Nat.le_refl _, fun _ _ _ => rfl, fun b o hb => ⟨hI.1.lt_new (List.mem_append.2 (.inr (List.mem_append.2 (.inl hb)))), (hI.1.newd b o (List.mem_append.2 (.inl hb))).2⟩, fun _ _ hb => (by cases hb), by
    have := hI.1.once
    rw [List.map_append, List.map_append, List.nodup_append] at this
    simpa using (List.nodup_append.1 this.2.1).1⟩
  have hr := H.asg l pre x W1 hI.1 { tmps := (ps.zip (enc x)).foldl (fun t (pv : Nat × Value) => t.setIfInBounds pv.1 pv.2) a.tmps, defers := [] } W1 ⟨by rw [hp.2]; exact s.size, fun u v hu => hp.1 u v hu, rfl, hst⟩
  show assign.wpIn (Fr (some l)) 7 P _ { tmps := (ps.toArray.zip (enc x).toArray).foldl (fun t (pv : Nat × Value) => t.setIfInBounds pv.1 pv.2) a.tmps, defers := [] } W1
  rw [e]
  refine Go.wpIn_mono (wpIn_any hr) ?_
  intro e a2 w2 hq
  cases e with
  | normal =>
    obtain ⟨y, s2⟩ := hq
    have hlt : ∀ b o, (b, o) ∈ V pre → b < w.heap.size := fun b o hb => H.lt s.mem pre b o (List.mem_append.2 (.inr (List.mem_append.2 (.inl hb))))
    refine hK a2 w2 (keepsFrom_mem s2.mem.drop (fun b o hb => .inl (hlt b o hb))) (fun k hk hne => s2.mem.old k (Nat.lt_of_lt_of_le hk hI.2) (fun o ho => hne (by rw [← H.names pre]; exact mem_names.2 ⟨o, ho⟩))) ⟨?_, Nat.le_trans hI.2 s2.mem.size⟩ ⟨y, s2.size, s2.agree, s2.defers, fun b o hb => ?_, ?_⟩
    · have h2 := Mem.round hI.1 s2.mem.drop rfl
      exact h2
    · have := s2.mem.newd b o hb
      exact ⟨Nat.le_trans hI.2 this.1, this.2⟩
    · have := s2.mem.once
      rw [List.map_append, List.nodup_append] at this
      exact this.2.1
  | exit id => exact hq.elim
  | goto l => exact hq.elim
  | ret => exact hq.elim
  | panic c => exact hq.elim
  | outgrown => exact hq.elim
theorem RangeOk.round (H : RangeOk P n N r W chg n0 ps assign body enc V RY NB Stp) {a : Act} {w : World} (s : St n r ds W chg (V [] ++ n0) a w) (l : Nat) (pre : List α) (x : α) (a' : Act) (W1 : World) (hl : w.heap.size ≤ l) (hrec : ∃ x, W1.heap[l]? = some (.loop x))
    (hI : RI W chg n0 V w.heap.size pre W1) (hA : ∃ y, Held n w.heap.size (RY x y) (NB x y) a' W1) (hlen : pre.length < N) :
    body.wpIn ((Fr none).inRound l) 7 P (ownPostG w.heap.size (KpX w.heap.size ((V []).map (·.1))) (RI W chg n0 V w.heap.size) (RIx W chg n0 ((V []).map (·.1)) Stp w.heap.size) (pre ++ [x]) W1) a' W1 := by
  obtain ⟨y, hh⟩ := hA
  have hlt : ∀ b o, (b, o) ∈ chg ++ (V pre ++ n0) → b < w.heap.size := H.lt s.mem pre
  have hVlt : ∀ b o, (b, o) ∈ V pre → b < w.heap.size := fun b o hb => hlt b o (List.mem_append.2 (.inr (List.mem_append.2 (.inl hb))))
  have hV' : ∀ (V' : Blks), V'.map (·.1) = (V []).map (·.1) → ∀ b o, (b, o) ∈ V' → b < w.heap.size := fun V' hv b o hb => by
    have : b ∈ V'.map (·.1) := mem_names.2 ⟨o, hb⟩
    rw [hv, ← H.names pre] at this
    obtain ⟨o2, h2⟩ := mem_names.1 this
    exact hVlt b o2 h2
  have hB' : ∀ (B : Blks), B.map (·.1) = (NB x y).map (·.1) → ∀ b o, (b, o) ∈ B → w.heap.size ≤ b ∧ ∃ o', W1.heap[b]? = some o' ∧ o'.isCells = true := fun B hb b o h => by
    have : b ∈ B.map (·.1) := mem_names.2 ⟨o, h⟩
    rw [hb] at this
    obtain ⟨o2, h2⟩ := mem_names.1 this
    obtain ⟨h3, h4⟩ := hh.held b o2 h2
    exact ⟨h3, o2, h4, H.cellsN x y b o2 h2⟩
  have hst : Mem W1 (V pre ++ NB x y) [] W1 := ⟨rfl, rfl, rfl, Nat.le_refl _, fun _ _ _ => rfl, fun b o hb => by
      rcases List.mem_append.1 hb with hb | hb
      · exact ⟨hI.1.lt_new (List.mem_append.2 (.inr (List.mem_append.2 (.inl hb)))), (hI.1.newd b o (List.mem_append.2 (.inl hb))).2⟩
      · have h1 := (hh.held b o hb).2
        exact ⟨(Array.getElem?_eq_some_iff.1 h1).1, h1⟩, fun _ _ hb => (by cases hb), by
      have h1 := hI.1.once
      rw [List.map_append, List.map_append, List.nodup_append] at h1
      rw [List.append_nil, List.map_append, List.nodup_append]
      refine ⟨(List.nodup_append.1 h1.2.1).1, hh.once, fun b hb c hc e => ?_⟩
      subst e
      obtain ⟨o, ho⟩ := mem_names.1 hb
      obtain ⟨o2, ho2⟩ := mem_names.1 hc
      have := hVlt b o ho
      have := (hh.held b o2 ho2).1
      omega⟩
  have hInR : InR l W1 ((V pre ++ NB x y).map (·.1)) := ⟨hrec, fun hc => by
    obtain ⟨o, ho⟩ := mem_names.1 hc
    rcases List.mem_append.1 ho with ho | ho
    · have := hVlt l o ho; omega
    · obtain ⟨q, hq⟩ := hrec
      have h1 := (hh.held l o ho).2
      rw [hq] at h1
      cases h1
      have := H.cellsN x y l _ ho
      cases this⟩
  have hAp : ∀ b, (∃ o, (b, o) ∈ chg ++ n0) ∨ b < W.heap.size → b ∉ (V pre ++ NB x y).map (·.1) := fun b hb hc => by
    obtain ⟨o, ho⟩ := mem_names.1 hc
    have hnd := hI.1.once
    rcases List.mem_append.1 ho with ho | ho
    · rcases hb with ⟨o2, hb⟩ | hb
      · rw [List.map_append, List.map_append, List.nodup_append] at hnd
        rcases List.mem_append.1 hb with hb | hb
        · exact hnd.2.2 b (mem_names.2 ⟨o2, hb⟩) b (List.mem_append.2 (.inl (mem_names.2 ⟨o, ho⟩))) rfl
        · exact (List.nodup_append.1 hnd.2.1).2.2 b (mem_names.2 ⟨o, ho⟩) b (mem_names.2 ⟨o2, hb⟩) rfl
      · have := (hI.1.newd b o (List.mem_append.2 (.inl ho))).1
        omega
    · have h1 := (hh.held b o ho).1
      rcases hb with ⟨o2, hb⟩ | hb
      · have : b < w.heap.size := by
          rcases List.mem_append.1 hb with hb | hb
          · exact hlt b o2 (List.mem_append.2 (.inl hb))
          · exact hlt b o2 (List.mem_append.2 (.inr (List.mem_append.2 (.inr hb))))
        omega
      · have := s.mem.size
        omega
  have hr := H.body l pre x y W1 hlen hI.1 hInR hAp a' W1 ⟨hh.size, hh.agree, hh.defers, hst⟩
  show body.wpIn (Fr (some l)) 7 P _ a' W1
  have hBout : ∀ (B : Blks), B.map (·.1) = (NB x y).map (·.1) → ∀ b ∈ B.map (·.1), W.heap.size ≤ b ∧ ∀ o, (b, o) ∉ chg ++ (V pre ++ n0) := fun B hb b hbm => by
    obtain ⟨o, ho⟩ := mem_names.1 hbm
    have h1 := (hB' B hb b o ho).1
    exact ⟨Nat.le_trans s.mem.size h1, fun o2 h2 => by have := hlt b o2 h2; omega⟩
  have hkf : ∀ (V' B : Blks) (w2 : World), V'.map (·.1) = (V []).map (·.1) → B.map (·.1) = (NB x y).map (·.1) → Mem W1 (V' ++ B) [] w2 → KeepsFrom w.heap.size W1 w2 := fun V' B w2 hv hb hm =>
    keepsFrom_mem hm (fun b o ho => by
      rcases List.mem_append.1 ho with ho | ho
      · exact .inl (hV' V' hv b o ho)
      · exact .inr (hB' B hb b o ho).2)
  refine Go.wpIn_mono (wpIn_any hr) ?_
  intro e a2 w2 hq
  cases e with
  | normal =>
    obtain ⟨B, hb, hm⟩ := hq
    refine ⟨hkf _ B w2 (H.names _) hb hm, fun k hk hne => hm.old k (Nat.lt_of_lt_of_le hk hI.2) (fun o ho => ?_), hI.1.roundN hm (by rw [H.names, H.names pre]) (hBout B hb), Nat.le_trans hI.2 hm.size⟩
    rcases List.mem_append.1 ho with ho | ho
    · exact hne (by rw [← H.names (pre ++ [x])]; exact mem_names.2 ⟨o, ho⟩)
    · have := (hB' B hb k o ho).1; omega
  | exit id =>
    obtain ⟨V', B, hv, hb, hst2, hm⟩ := hq
    exact ⟨hkf V' B w2 hv hb hm, V', hv, hst2, hI.1.roundN hm (by rw [hv, H.names pre]) (hBout B hb), Nat.le_trans hI.2 hm.size⟩
  | ret =>
    obtain ⟨V', B, hv, hb, hst2, hm⟩ := hq
    exact ⟨hkf V' B w2 hv hb hm, V', hv, hst2, hI.1.roundN hm (by rw [hv, H.names pre]) (hBout B hb), Nat.le_trans hI.2 hm.size⟩
  | goto l => exact hq.elim
  | panic c => exact hq.elim
  | outgrown => exact hq.elim
theorem kpX_trans {B : Nat} {nm : List Nat} {A C D : World} (h1 : KpX B nm A C) (h2 : KpX B nm C D) : KpX B nm A D := fun k hk hne => (h2 k hk hne).trans (h1 k hk hne)
theorem kpX_put {B : Nat} {nm : List Nat} (A : World) (l : Nat) (o' : Obj) (h : B ≤ l) : KpX B nm A (A.putObj l o') := fun k hk _ => World.putObj_heap_other (by omega)
/-- 'for x := range seq', of a function's own code. -/
theorem RunC.rangeH' {g : Operand} {gf : Nat} {lb : Array Value} {S Sp : List α → Prop} (H : RangeOk P n N r W chg n0 ps assign body enc V RY NB Stp)
    (hg : rev r g = some (.func (.func gf) #[] lb)) (he : Enters P gf) (hn : Pick (V [] ++ n0) news)
    (hseq : ∀ w, Mem W chg (V [] ++ n0) w → SeqStopsK (Fr none) 8 P gf lb (fun x => (enc x).toArray) (KpX w.heap.size ((V []).map (·.1))) S Sp N w)
    (h : ∀ xs D, S xs → RunE Q n .normal r ({ target := .collected D, args := #[] } :: ds) W chg ((D, .deferred (some [])) :: (V xs ++ n0)))
    (h2 : ∀ c pre V' D, Sp pre → V'.map (·.1) = (V []).map (·.1) → Stp c pre V' → RunC P Q n c r ({ target := .collected D, args := #[] } :: ds) W chg ((D, .deferred (some [])) :: (V' ++ n0))) :
    RunC P Q n (.rangeFunc g ps.toArray assign body) r ds W chg news := fun a w s => by
  have s' : St n r ds W chg (V [] ++ n0) a w := ⟨s.size, s.agree, s.defers, s.mem.pick hn⟩
  have mark : ∀ (V' : Blks) (D : Nat) (W' : World), V'.map (·.1) = (V []).map (·.1) → w.heap.size ≤ D → Mem W chg (V' ++ n0) W' → W'.heap[D]? = some (.deferred (some [])) → Mem W chg ((D, .deferred (some [])) :: (V' ++ n0)) W' := fun V' D W' hv hD hI hK => by
    have hlt : ∀ b o, (b, o) ∈ chg ++ (V' ++ n0) → b < w.heap.size := fun b o hb => by
      rcases List.mem_append.1 hb with hb | hb
      · exact H.lt s'.mem [] b o (List.mem_append.2 (.inl hb))
      · rcases List.mem_append.1 hb with hb | hb
        · have : b ∈ V'.map (·.1) := mem_names.2 ⟨o, hb⟩
          rw [hv] at this
          obtain ⟨o2, h2⟩ := mem_names.1 this
          exact H.lt s'.mem [] b o2 (List.mem_append.2 (.inr (List.mem_append.2 (.inl h2))))
        · exact H.lt s'.mem [] b o (List.mem_append.2 (.inr (List.mem_append.2 (.inr hb))))
    refine { hI with newd := fun b o hb => ?_, once := ?_ }
    · rcases List.mem_cons.1 hb with hb | hb
      · cases hb; exact ⟨Nat.le_trans s'.mem.size hD, hK⟩
      · exact hI.newd b o hb
    · have hnd := hI.once
      rw [List.map_append, List.nodup_append] at hnd ⊢
      refine ⟨hnd.1, ?_, ?_⟩
      · rw [List.map_cons, List.nodup_cons]
        refine ⟨fun hm => ?_, hnd.2.1⟩
        obtain ⟨o, ho⟩ := mem_names.1 hm
        have := hlt D o (List.mem_append.2 (.inr ho))
        omega
      · intro b hb c hc
        rw [List.map_cons, List.mem_cons] at hc
        rcases hc with rfl | hc
        · obtain ⟨o, ho⟩ := mem_names.1 hb
          have := hlt b o (List.mem_append.2 (.inl ho))
          intro e; subst e; omega
        · exact hnd.2.2 b hb c hc
  refine (wpIn_wide (n := 9)).1 ?_
  show Code.wpIn (Fr none) 9 P _ Q a w
  exact wpIn_rangeFunc_ownH (F := Fr none) (n := 9) rfl (by decide) (s.agree.eval hg) trivial he (hseq w s'.mem) kpX_trans (fun A l o o' hl _ _ _ => kpX_put A l o' hl) (Below.refl _ w) (fun x => by simp [H.lens x])
    (RI W chg n0 V w.heap.size) (RIx W chg n0 ((V []).map (fun x : Nat × Obj => x.1)) Stp w.heap.size) (H.own s'.mem) (H.ownX s'.mem) ⟨s'.mem, Nat.le_refl _⟩ (fun x a' W' => ∃ y, Held n w.heap.size (RY x y) (NB x y) a' W') (fun x a' => H.ownA x a')
    (fun l pre x W1 K hI hK => H.asgW s' l pre x W1 K hI hK) (fun l pre x a' W1 hl hrec hI hA hlen => H.round s' l pre x a' W1 hl hrec hI hA hlen)
    (fun D xs W' hD hS hI hK => h xs D hS _ W' ⟨s.size, s.agree, by rw [← s.defers], mark _ D W' (H.names xs) hD hI.1 hK⟩)
    (fun D c pre W' hD hSp hI hK => by
      obtain ⟨V', hv, hst, hm, _⟩ := hI
      exact (wpIn_wide (n := 9)).2 (h2 c pre V' D hSp hv hst _ W' ⟨s.size, s.agree, by rw [← s.defers], mark V' D W' hv hD hm hK⟩))
/-- In a round of another one. -/
theorem RunCR.rangeN' {l : Nat} {g : Operand} {gf : Nat} {lb : Array Value} {S Sp : List α → Prop} (H : RangeOk P n N r W chg n0 ps assign body enc V RY NB Stp) {nm : List Nat} (hL : InR l W nm) (hnm : chg.map (·.1) = nm)
    (hg : rev r g = some (.func (.func gf) #[] lb)) (he : Enters P gf) (hn : Pick (V [] ++ n0) news)
    (hseq : ∀ w, Mem W chg (V [] ++ n0) w → SeqStopsK (Fr none) 8 P gf lb (fun x => (enc x).toArray) (KpX w.heap.size ((V []).map (·.1))) S Sp N w)
    (h : ∀ xs, S xs → RunE Q n .normal r ds W chg (V xs ++ n0))
    (h2 : ∀ c pre V', Sp pre → V'.map (·.1) = (V []).map (·.1) → Stp c pre V' → RunCR (some l) P Q n c r ds W chg (V' ++ n0)) :
    RunCR (some l) P Q n (.rangeFunc g ps.toArray assign body) r ds W chg news := fun a w s => by
  have s' : St n r ds W chg (V [] ++ n0) a w := ⟨s.size, s.agree, s.defers, s.mem.pick hn⟩
  obtain ⟨q, hq⟩ := hL.rec'
  exact wpIn_rangeFunc_ownN (F := Fr (some l)) (n := 9) (l₀ := l) (r₀ := q) rfl (s.mem.old_at hq (fun o ho => hL.notin (by rw [← hnm]; exact mem_names.2 ⟨o, ho⟩))) (by decide) (s.agree.eval hg) trivial he (SeqStopsK.inRound l (hseq w s'.mem)) kpX_trans (fun A l o o' hl _ _ _ => kpX_put A l o' hl) (Below.refl _ w) (fun x => by simp [H.lens x])
    (RI W chg n0 V w.heap.size) (RIx W chg n0 ((V []).map (fun x : Nat × Obj => x.1)) Stp w.heap.size) (H.own s'.mem) (H.ownX s'.mem) ⟨s'.mem, Nat.le_refl _⟩ (fun x a' W' => ∃ y, Held n w.heap.size (RY x y) (NB x y) a' W') (fun x a' => H.ownA x a')
    (fun l pre x W1 K hI hK => H.asgW s' l pre x W1 K hI hK) (fun l pre x a' W1 hl hrec hI hA hlen => H.round s' l pre x a' W1 hl hrec hI hA hlen)
    (fun xs W' hS hI => h xs hS _ W' ⟨s.size, s.agree, s.defers, hI.1⟩)
    (fun c pre W' hSp hI => by
      obtain ⟨V', hv, hst, hm, _⟩ := hI
      exact h2 c pre V' hSp hv hst _ W' ⟨s.size, s.agree, s.defers, hm⟩)
/-- A range over a function, of a function's own code: the blocks V turn from round to round; the variables of a round are registers, or lie in blocks NB. -/
theorem RunC.rangeH {α Y : Type} {g : Operand} {gf : Nat} {lb : Array Value} {S Sp : List α → Prop} {ps : List Nat} {assign body : Code} {q : Regs} {N : Nat} (n0 : Blks) (enc : α → List Value) (V : List α → Blks) (RY : α → Y → Regs → Regs) (NB : α → Y → Blks) (Stp : Code → List α → Blks → Prop)
    (_hs : Sub q r) (hn : Pick (V [] ++ n0) news) (hnm : ∀ pre, (V pre).map (·.1) = (V []).map (·.1)) (hcl : ∀ pre b o, (b, o) ∈ V pre → o.isCells = true) (hcn : ∀ x y b o, (b, o) ∈ NB x y → o.isCells = true)
    (hlen : ∀ x, (enc x).length = ps.length) (hin : (ps.all fun p => Nat.ble (p + 1) n) = true) (hg : rev r g = some (.func (.func gf) #[] lb)) (he : Enters P gf)
    (hseq : ∀ w, Mem W chg (V [] ++ n0) w → SeqStopsK (Fr none) 8 P gf lb (fun x => (enc x).toArray) (KpX w.heap.size ((V []).map (·.1))) S Sp N w)
    (hasg : ∀ l pre x W1, Mem W chg (V pre ++ n0) W1 → RunCR (some l) P (AsgQ n W1 (V pre) (fun y => RY x y q) (NB x)) n assign (putsR ps (enc x) r) [] W1 (V pre) [])
    (hbody : ∀ l pre x y W1, pre.length < N → Mem W chg (V pre ++ n0) W1 → InR l W1 ((V pre ++ NB x y).map (·.1)) → (∀ b, (∃ o, (b, o) ∈ chg ++ n0) ∨ b < W.heap.size → b ∉ (V pre ++ NB x y).map (·.1)) →
      RunCR (some l) P (BodyX W1 ((V []).map (·.1)) ((NB x y).map (·.1)) (V (pre ++ [x])) (fun c V' => Stp c (pre ++ [x]) V')) n body (RY x y q) [] W1 (V pre ++ NB x y) [])
    (h : ∀ xs D, S xs → RunE Q n .normal r ({ target := .collected D, args := #[] } :: ds) W chg ((D, .deferred (some [])) :: (V xs ++ n0)))
    (h2 : ∀ c pre V' D, Sp pre → V'.map (·.1) = (V []).map (·.1) → Stp c pre V' → RunC P Q n c r ({ target := .collected D, args := #[] } :: ds) W chg ((D, .deferred (some [])) :: (V' ++ n0))) :
    RunC P Q n (.rangeFunc g ps.toArray assign body) r ds W chg news :=
  RunC.rangeH' (RY := fun x y => RY x y q) ⟨hnm, hcl, hcn, hlen, fun p hp => Nat.le_of_ble_eq_true (List.all_eq_true.1 hin p hp), hasg, hbody⟩ hg he hn hseq h h2
theorem RunCR.rangeN {α Y : Type} {l : Nat} {g : Operand} {gf : Nat} {lb : Array Value} {S Sp : List α → Prop} {ps : List Nat} {assign body : Code} {q : Regs} {N : Nat} (n0 : Blks) (enc : α → List Value) (V : List α → Blks) (RY : α → Y → Regs → Regs) (NB : α → Y → Blks) (Stp : Code → List α → Blks → Prop) {nm : List Nat} (hL : InR l W nm) (hcm : chg.map (·.1) = nm)
    (_hs : Sub q r) (hn : Pick (V [] ++ n0) news) (hnm : ∀ pre, (V pre).map (·.1) = (V []).map (·.1)) (hcl : ∀ pre b o, (b, o) ∈ V pre → o.isCells = true) (hcn : ∀ x y b o, (b, o) ∈ NB x y → o.isCells = true)
    (hlen : ∀ x, (enc x).length = ps.length) (hin : (ps.all fun p => Nat.ble (p + 1) n) = true) (hg : rev r g = some (.func (.func gf) #[] lb)) (he : Enters P gf)
    (hseq : ∀ w, Mem W chg (V [] ++ n0) w → SeqStopsK (Fr none) 8 P gf lb (fun x => (enc x).toArray) (KpX w.heap.size ((V []).map (·.1))) S Sp N w)
    (hasg : ∀ l pre x W1, Mem W chg (V pre ++ n0) W1 → RunCR (some l) P (AsgQ n W1 (V pre) (fun y => RY x y q) (NB x)) n assign (putsR ps (enc x) r) [] W1 (V pre) [])
    (hbody : ∀ l pre x y W1, pre.length < N → Mem W chg (V pre ++ n0) W1 → InR l W1 ((V pre ++ NB x y).map (·.1)) → (∀ b, (∃ o, (b, o) ∈ chg ++ n0) ∨ b < W.heap.size → b ∉ (V pre ++ NB x y).map (·.1)) →
      RunCR (some l) P (BodyX W1 ((V []).map (·.1)) ((NB x y).map (·.1)) (V (pre ++ [x])) (fun c V' => Stp c (pre ++ [x]) V')) n body (RY x y q) [] W1 (V pre ++ NB x y) [])
    (h : ∀ xs, S xs → RunE Q n .normal r ds W chg (V xs ++ n0))
    (h2 : ∀ c pre V', Sp pre → V'.map (·.1) = (V []).map (·.1) → Stp c pre V' → RunCR (some l) P Q n c r ds W chg (V' ++ n0)) :
    RunCR (some l) P Q n (.rangeFunc g ps.toArray assign body) r ds W chg news :=
  RunCR.rangeN' (RY := fun x y => RY x y q) ⟨hnm, hcl, hcn, hlen, fun p hp => Nat.le_of_ble_eq_true (List.all_eq_true.1 hin p hp), hasg, hbody⟩ hL hcm hg he hn hseq h h2
/-- What lay before a loop lies in its rounds. -/
theorem Mem.flat {w W1 : World} {n1 c1 nw : Blks} (hI : Mem W [] n1 W1) (hm : Mem W1 c1 nw w) (hc : ∀ b, b < W.heap.size → b ∉ c1.map (·.1)) : Mem W [] [] w :=
  ⟨hm.os.trans hI.os, hm.tape.trans hI.tape, hm.output.trans hI.output, Nat.le_trans hI.size hm.size, fun k hk _ => (hm.old k (Nat.lt_of_lt_of_le hk hI.size) (fun o ho => hc k hk (mem_names.2 ⟨o, ho⟩))).trans (hI.old k hk (by simp)), fun _ _ h => (by cases h), fun _ _ h => (by cases h), by simp⟩

/-! ### Leaving a function that holds loops -/
def markD (D : Nat) : Deferred := { target := .collected D, args := #[] }
def markB (D : Nat) : Nat × Obj := (D, .deferred (some []))
theorem leavesM_marks {fn : Func} {R : Ending → World → Prop} {tl : List Deferred} {t : Array Value} {news2 : Blks} (hend : ∀ w, Mem W chg news2 w → LeavesInM Fence.wide 9 P fn t R tl .returning w) : ∀ (Ds : List Nat) (w : World), Mem W chg (Ds.map markB ++ news2) w → LeavesInM Fence.wide 9 P fn t R (Ds.map markD ++ tl) .returning w
  | [], w, hm => hend w hm
  | D :: Ds, w, hm => ⟨by simp, .inl ⟨D, _, rfl, run_takeDeferred (hm.newd D _ (List.mem_cons_self ..)).2, leavesM_marks hend Ds _ (hm.putNew _)⟩⟩
theorem leaves_nil {fn : Func} {R : Ending → World → Prop} {news2 : Blks} {v : Value} {a : Act} (hag : Agree a r) (hv : ResVs P r (chg ++ news2) fn v) (hR : ∀ w, Mem W chg news2 w → R (.returned v) w) : ∀ w, Mem W chg news2 w → LeavesInM Fence.wide 9 P fn a.tmps R [] .returning w := fun w hm =>
  ⟨v, hv.run hag (fun _ _ h => hm.at h), hR w hm⟩
theorem leaves_closure {fn : Func} {f : FuncId} {T : TypeId} {mis : Int → Value} {R : Ending → World → Prop} {news2 : Blks} {v : Value} {b : Nat} {a : Act} (hc : CatchesIn P f T mis) (he : Enters P f) (hag : Agree a r) (hv : ResVs P r (chg ++ news2) fn v) (hR : ∀ w, Mem W chg news2 w → R (.returned v) w) :
    ∀ w, Mem W chg news2 w → LeavesInM Fence.wide 9 P fn a.tmps R [{ target := .fn (.func f) #[.pointer (some ⟨b, 0, none⟩)], args := #[] }] .returning w := fun w hm => by
  refine ⟨by simp, .inr ⟨fun h => (by cases h), _, _, f, #[.pointer (some ⟨b, 0, none⟩)], rfl, by simp [invoke]; exact he _ _, fun _ _ => trivial, (hc.calm b w).mono ?_⟩⟩
  rintro e u w' ⟨⟨x, rfl⟩, rfl, hm'⟩
  have hm2 := hm.pass hm'
  exact ⟨v, hv.run hag (fun _ _ h => hm2.at h), hR _ hm2⟩
theorem leaves_plain {fn : Func} {f : FuncId} {T : TypeId} {mis : Int → Value} {R : Ending → World → Prop} {news2 : Blks} {v : Value} {b : Nat} {a : Act} (hc : CatchesIn P f T mis) (he : Enters P f) (hag : Agree a r) (hv : ResVs P r (chg ++ news2) fn v) (hR : ∀ w, Mem W chg news2 w → R (.returned v) w) :
    ∀ w, Mem W chg news2 w → LeavesInM Fence.wide 9 P fn a.tmps R [{ target := .fn (.func f) #[], args := #[.pointer (some ⟨b, 0, none⟩)] }] .returning w := fun w hm => by
  refine ⟨by simp, .inr ⟨fun h => (by cases h), _, _, f, #[.pointer (some ⟨b, 0, none⟩)], rfl, by simp [invoke]; exact he _ _, fun _ _ => trivial, (hc.calm b w).mono ?_⟩⟩
  rintro e u w' ⟨⟨x, rfl⟩, rfl, hm'⟩
  have hm2 := hm.pass hm'
  exact ⟨v, hv.run hag (fun _ _ h => hm2.at h), hR _ hm2⟩
/-- Leaving with marks, and nothing else. -/
theorem RunE.outM {fn : Func} {R : Ending → World → Prop} {v : Value} {news2 : Blks} (Ds : List Nat) (hp : Pick (Ds.map markB ++ news2) news) (hv : ResVs P r (chg ++ news2) fn v) (hR : ∀ w, Mem W chg news2 w → R (.returned v) w) :
    RunE (bodyPostM Fence.wide 9 P fn R) n .ret r (Ds.map markD ++ []) W chg news := fun a w s => by
  show LeavesInM _ _ _ _ _ _ a.defers _ w
  rw [s.defers]
  exact leavesM_marks (leaves_nil s.agree hv hR) Ds w (s.mem.pick hp)
theorem RunE.outM_fin {fn : Func} {R : Ending → World → Prop} {v : Value} {news2 : Blks} (Ds : List Nat) (hp : Pick (Ds.map markB ++ news2) news) (hv : ResVs P r (chg ++ news2) fn v) (hR : ∀ w, Mem W chg news2 w → R (.returned v) w) :
    RunE (bodyPostM Fence.wide 9 P fn R) n .normal r (Ds.map markD ++ []) W chg news := fun a w s => by
  show LeavesInM _ _ _ _ _ _ a.defers _ w
  rw [s.defers]
  exact leavesM_marks (leaves_nil s.agree hv hR) Ds w (s.mem.pick hp)
/-- Leaving with marks, and a deferred closure that recovers. -/
theorem RunE.outMC {fn : Func} {f : FuncId} {T : TypeId} {mis : Int → Value} {R : Ending → World → Prop} {v : Value} {b : Nat} {news2 : Blks} (Ds : List Nat) (hc : CatchesIn P f T mis) (he : Enters P f) (hp : Pick (Ds.map markB ++ news2) news) (hv : ResVs P r (chg ++ news2) fn v) (hR : ∀ w, Mem W chg news2 w → R (.returned v) w) :
    RunE (bodyPostM Fence.wide 9 P fn R) n .ret r (Ds.map markD ++ [{ target := .fn (.func f) #[.pointer (some ⟨b, 0, none⟩)], args := #[] }]) W chg news := fun a w s => by
  show LeavesInM _ _ _ _ _ _ a.defers _ w
  rw [s.defers]
  exact leavesM_marks (leaves_closure hc he s.agree hv hR) Ds w (s.mem.pick hp)
theorem RunE.outMC_fin {fn : Func} {f : FuncId} {T : TypeId} {mis : Int → Value} {R : Ending → World → Prop} {v : Value} {b : Nat} {news2 : Blks} (Ds : List Nat) (hc : CatchesIn P f T mis) (he : Enters P f) (hp : Pick (Ds.map markB ++ news2) news) (hv : ResVs P r (chg ++ news2) fn v) (hR : ∀ w, Mem W chg news2 w → R (.returned v) w) :
    RunE (bodyPostM Fence.wide 9 P fn R) n .normal r (Ds.map markD ++ [{ target := .fn (.func f) #[.pointer (some ⟨b, 0, none⟩)], args := #[] }]) W chg news := fun a w s => by
  show LeavesInM _ _ _ _ _ _ a.defers _ w
  rw [s.defers]
  exact leavesM_marks (leaves_closure hc he s.agree hv hR) Ds w (s.mem.pick hp)
/-- Leaving with marks, and a deferred function that recovers. -/
theorem RunE.outMD {fn : Func} {f : FuncId} {T : TypeId} {mis : Int → Value} {R : Ending → World → Prop} {v : Value} {b : Nat} {news2 : Blks} (Ds : List Nat) (hc : CatchesIn P f T mis) (he : Enters P f) (hp : Pick (Ds.map markB ++ news2) news) (hv : ResVs P r (chg ++ news2) fn v) (hR : ∀ w, Mem W chg news2 w → R (.returned v) w) :
    RunE (bodyPostM Fence.wide 9 P fn R) n .ret r (Ds.map markD ++ [{ target := .fn (.func f) #[], args := #[.pointer (some ⟨b, 0, none⟩)] }]) W chg news := fun a w s => by
  show LeavesInM _ _ _ _ _ _ a.defers _ w
  rw [s.defers]
  exact leavesM_marks (leaves_plain hc he s.agree hv hR) Ds w (s.mem.pick hp)
theorem RunE.outMD_fin {fn : Func} {f : FuncId} {T : TypeId} {mis : Int → Value} {R : Ending → World → Prop} {v : Value} {b : Nat} {news2 : Blks} (Ds : List Nat) (hc : CatchesIn P f T mis) (he : Enters P f) (hp : Pick (Ds.map markB ++ news2) news) (hv : ResVs P r (chg ++ news2) fn v) (hR : ∀ w, Mem W chg news2 w → R (.returned v) w) :
    RunE (bodyPostM Fence.wide 9 P fn R) n .normal r (Ds.map markD ++ [{ target := .fn (.func f) #[], args := #[.pointer (some ⟨b, 0, none⟩)] }]) W chg news := fun a w s => by
  show LeavesInM _ _ _ _ _ _ a.defers _ w
  rw [s.defers]
  exact leavesM_marks (leaves_plain hc he s.agree hv hR) Ds w (s.mem.pick hp)
theorem RunE.panMC {fn : Func} {f : FuncId} {T : TypeId} {mis : Int → Value} {v v0 x : Value} {b : Nat} {k : Int} {news' : Blks} (hc : CatchesIn P f T mis) (he : Enters P f) (hu : Upd news b (.cells #[x] T (0, 0)) (.cells #[.int .i64 k] T (0, 0)) news') (hv : ResVs P r news' fn v) (hv0 : v = v0) :
    RunE (bodyPostM Fence.wide 9 P fn (Pure v0 W)) n (.panic [{ v := mis k, recovered := false }]) r [{ target := .fn (.func f) #[.pointer (some ⟨b, 0, none⟩)], args := #[] }] W [] news := fun a w s => by
  show LeavesInM _ _ _ _ _ _ a.defers _ w
  rw [s.defers]
  refine ⟨by simp, .inr ⟨fun h => (by cases h), _, _, f, #[.pointer (some ⟨b, 0, none⟩)], rfl, by simp [invoke]; exact he _ _, fun _ _ => trivial, (hc.wild b k x w (s.mem.newd _ _ hu.mem).2).mono ?_⟩⟩
  rintro e u w' ⟨⟨y, rfl⟩, rfl, hm⟩
  have hm2 := s.mem.turn_new hu hm
  exact ⟨v, hv.run s.agree (fun _ _ h => hm2.at (by simpa using h)), by rw [hv0], hm2.drop⟩
theorem out_pure {v v0 : Value} (h : v = v0) {news2 : Blks} : ∀ w, Mem W [] news2 w → Pure v0 W (.returned v) w := fun _ hm => ⟨by rw [h], hm.drop⟩
end
end Go.Eng
/- The facts on the tables of types and on the entries of functions that the later walks use. Written by program. -/
set_option linter.unusedSimpArgs false
set_option linter.unusedVariables false
namespace Go.Proofs.Ytjijeeadmhpfcaa
open Go Go.Eng
theorem boolB_4 : boolB Try.prog 4 = true := by kernel_rfl
theorem ent_10 : Enters Try.prog 10 := enters_of Try.func10 (by kernel_rfl) rfl
theorem ent_11 : Enters Try.prog 11 := enters_of Try.func11 (by kernel_rfl) rfl
theorem ent_12 : Enters Try.prog 12 := enters_of Try.func12 (by kernel_rfl) rfl
theorem ent_13 : Enters Try.prog 13 := enters_of Try.func13 (by kernel_rfl) rfl
theorem ent_14 : Enters Try.prog 14 := enters_of Try.func14 (by kernel_rfl) rfl
theorem ent_15 : Enters Try.prog 15 := enters_of Try.func15 (by kernel_rfl) rfl
theorem ent_16 : Enters Try.prog 16 := enters_of Try.func16 (by kernel_rfl) rfl
theorem ent_17 : Enters Try.prog 17 := enters_of Try.func17 (by kernel_rfl) rfl
theorem ent_18 : Enters Try.prog 18 := enters_of Try.func18 (by kernel_rfl) rfl
theorem ent_19 : Enters Try.prog 19 := enters_of Try.func19 (by kernel_rfl) rfl
theorem ent_20 : Enters Try.prog 20 := enters_of Try.func20 (by kernel_rfl) rfl
theorem ent_21 : Enters Try.prog 21 := enters_of Try.func21 (by kernel_rfl) rfl
theorem ent_24 : Enters Try.prog 24 := enters_of Try.func24 (by kernel_rfl) rfl
theorem ent_25 : Enters Try.prog 25 := enters_of Try.func25 (by kernel_rfl) rfl
theorem ent_31 : Enters Try.prog 31 := enters_of Try.func31 (by kernel_rfl) rfl
theorem ent_38 : Enters Try.prog 38 := enters_of Try.func38 (by kernel_rfl) rfl
theorem ent_39 : Enters Try.prog 39 := enters_of Try.func39 (by kernel_rfl) rfl
theorem ent_44 : Enters Try.prog 44 := enters_of Try.func44 (by kernel_rfl) rfl
theorem ent_50 : Enters Try.prog 50 := enters_of Try.func50 (by kernel_rfl) rfl
theorem ent_52 : Enters Try.prog 52 := enters_of Try.func52 (by kernel_rfl) rfl
theorem ent_54 : Enters Try.prog 54 := enters_of Try.func54 (by kernel_rfl) rfl
theorem ent_55 : Enters Try.prog 55 := enters_of Try.func55 (by kernel_rfl) rfl
theorem ent_56 : Enters Try.prog 56 := enters_of Try.func56 (by kernel_rfl) rfl
theorem ent_62 : Enters Try.prog 62 := enters_of Try.func62 (by kernel_rfl) rfl
theorem ent_63 : Enters Try.prog 63 := enters_of Try.func63 (by kernel_rfl) rfl
theorem ent_64 : Enters Try.prog 64 := enters_of Try.func64 (by kernel_rfl) rfl
theorem ent_65 : Enters Try.prog 65 := enters_of Try.func65 (by kernel_rfl) rfl
theorem ent_81 : Enters Try.prog 81 := enters_of Try.func81 (by kernel_rfl) rfl
theorem ent_9 : Enters Try.prog 9 := enters_of Try.func9 (by kernel_rfl) rfl
theorem field1_64_0 : field1B Try.prog 64 0 = some 0 := by kernel_rfl
theorem field1_64_1 : field1B Try.prog 64 1 = some 1 := by kernel_rfl
theorem pair_23 : pairB Try.prog 23 = true := by kernel_rfl
theorem sl_90 : slB Try.prog 90 = some (92, 1) := by kernel_rfl
theorem ty_4 : tyB Try.prog 4 = some (false, 1) := by kernel_rfl
theorem ty_65 : tyB Try.prog 65 = some (false, 1) := by kernel_rfl
theorem ty_83 : tyB Try.prog 83 = some (false, 1) := by kernel_rfl
theorem ty_92 : tyB Try.prog 92 = some (false, 1) := by kernel_rfl
theorem und_46 : Try.prog.underlying 46 = some (.int .u16) := by kernel_rfl
theorem und_5 : Try.prog.underlying 5 = some (.int .u8) := by kernel_rfl
theorem und_82 : Try.prog.underlying 82 = some (.int .u64) := by kernel_rfl
theorem zero_4 : zeroB Try.prog 4 = some [.bool false] := by kernel_rfl
theorem zero_65 : zeroB Try.prog 65 = some [.pointer none] := by kernel_rfl
theorem zero_83 : zeroB Try.prog 83 = some [.nilFunc] := by kernel_rfl
theorem zero_92 : zeroB Try.prog 92 = some [.nilIface] := by kernel_rfl
end Go.Proofs.Ytjijeeadmhpfcaa
/- Layer 1 in plain words: sets of things, counted; and the fewest. -/
set_option linter.unusedSimpArgs false
set_option linter.unusedVariables false
namespace Go.Pw1
open Go Go.Eng
/-! ## Ones, counted -/
def oc1 (s : Nat) : Nat := (s >>> 1 &&& 6148914691236517205) + (s &&& 6148914691236517205)
def oc2 (s : Nat) : Nat := (oc1 s >>> 2 &&& 3689348814741910323) + (oc1 s &&& 3689348814741910323)
def oc3a (s : Nat) : Nat := oc2 s >>> 4 + oc2 s
def oc3 (s : Nat) : Nat := oc3a s &&& 1085102592571150095
def oc4 (s : Nat) : Nat := oc3 s + oc3 s >>> 8
def oc5 (s : Nat) : Nat := oc4 s + oc4 s >>> 16
def oc6 (s : Nat) : Nat := oc5 s + oc5 s >>> 32
def oc (s : Nat) : Nat := oc6 s &&& 127
theorem oc1_le (s : Nat) : oc1 s ≤ 2 * 6148914691236517205 := by have h1 := Nat.and_le_right (n := s >>> 1) (m := 6148914691236517205); have h2 := Nat.and_le_right (n := s) (m := 6148914691236517205); unfold oc1; omega
theorem oc2_le (s : Nat) : oc2 s ≤ 2 * 3689348814741910323 := by have h1 := Nat.and_le_right (n := oc1 s >>> 2) (m := 3689348814741910323); have h2 := Nat.and_le_right (n := oc1 s) (m := 3689348814741910323); unfold oc2; omega
theorem shr_le (n k : Nat) : n >>> k ≤ n / 2 ^ k := by rw [Nat.shiftRight_eq_div_pow]; exact Nat.le_refl _
theorem oc3a_le (s : Nat) : oc3a s ≤ 2 * 3689348814741910323 + 2 * 3689348814741910323 / 16 := by
  have h1 := oc2_le s
  have h2 := shr_le (oc2 s) 4
  unfold oc3a
  omega
theorem oc3_le (s : Nat) : oc3 s ≤ 1085102592571150095 := Nat.and_le_right
theorem oc4_le (s : Nat) : oc4 s ≤ 2 * 1085102592571150095 := by have h1 := oc3_le s; have h2 := Nat.shiftRight_le (oc3 s) 8; unfold oc4; omega
theorem oc5_le (s : Nat) : oc5 s ≤ 4 * 1085102592571150095 := by have h1 := oc4_le s; have h2 := Nat.shiftRight_le (oc4 s) 16; unfold oc5; omega
theorem oc6_le (s : Nat) : oc6 s ≤ 8 * 1085102592571150095 := by have h1 := oc5_le s; have h2 := Nat.shiftRight_le (oc5 s) 32; unfold oc6; omega
theorem oc_le (s : Nat) : oc s ≤ 127 := Nat.and_le_right
/-- The ones among the lowest bits. -/
def pc (s : Nat) : Nat → Nat
  | 0 => 0
  | k + 1 => pc s k + s / 2 ^ k % 2
theorem oc_all : (List.range 4096).all (fun s => oc s == pc s 12) = true := by kernel_rfl
theorem oc_eq {s : Nat} (h : s < 4096) : oc s = pc s 12 := by
  have := List.all_eq_true.1 oc_all s (List.mem_range.2 h)
  simpa using this
/-- The things that move, at a power. -/
def movedK (p : Pr) (x : Int) : Nat → Nat
  | 0 => 0
  | k + 1 => if (stillS p (thingAt p k) (x, x)).2 then movedK p x k else movedK p x k ||| 2 ^ k
def movedS (p : Pr) (x : Int) : Nat := movedK p x p.things.length
theorem movedK_lt (p : Pr) (x : Int) : ∀ k, movedK p x k < 2 ^ k
  | 0 => by simp [movedK]
  | k + 1 => by
    have h := movedK_lt p x k
    have h2 : 2 ^ k < 2 ^ (k + 1) := by rw [Nat.pow_succ]; have := Nat.two_pow_pos k; omega
    unfold movedK
    split
    · omega
    · exact Nat.or_lt_two_pow (by omega) h2
theorem movedS_lt {p : Pr} (hp : p.Ok) (x : Int) : movedS p x < 4096 := by
  have h := movedK_lt p x p.things.length
  have h2 : 2 ^ p.things.length ≤ 2 ^ 12 := Nat.pow_le_pow_right (by omega) hp.len
  unfold movedS
  omega
theorem movedK_lt4 {p : Pr} (hp : p.Ok) (x : Int) {k : Nat} (hk : k ≤ p.things.length) : movedK p x k < 4096 := by
  have h := movedK_lt p x k
  have h0 := hp.len
  have h2 : 2 ^ k ≤ 2 ^ 12 := Nat.pow_le_pow_right (by omega) (by omega)
  omega
theorem movedK_yes {p : Pr} {x : Int} {k : Nat} {t : Th} (ht : thingAt p k = t) (h : (stillS p t (x, x)).2 = true) : movedK p x (k + 1) = movedK p x k := by simp [movedK, ht, h]
theorem movedK_no {p : Pr} {x : Int} {k : Nat} {t : Th} (ht : thingAt p k = t) (h : (stillS p t (x, x)).2 = false) : movedK p x (k + 1) = movedK p x k ||| 2 ^ k := by simp [movedK, ht, h]
/-- The powers that are tried. -/
def triedK (p : Pr) (pw : Int × Int) : Nat → List Int
  | 0 => [pw.1]
  | k + 1 => if (stillS p (thingAt p k) pw).2 then triedK p pw k ++ [(stillS p (thingAt p k) pw).1.1] else triedK p pw k
def triedS (p : Pr) (pw : Int × Int) : List Int := triedK p pw p.things.length
theorem triedK_len (p : Pr) (pw : Int × Int) : ∀ k, (triedK p pw k).length ≤ k + 1
  | 0 => by simp [triedK]
  | k + 1 => by
    have := triedK_len p pw k
    unfold triedK
    split <;> (try simp only [List.length_append, List.length_singleton]) <;> omega
theorem triedK_yes {p : Pr} {pw : Int × Int} {k : Nat} {t : Th} (ht : thingAt p k = t) (h : (stillS p t pw).2 = true) : triedK p pw (k + 1) = triedK p pw k ++ [(stillS p t pw).1.1] := by simp [triedK, ht, h]
theorem triedK_no {p : Pr} {pw : Int × Int} {k : Nat} {t : Th} (ht : thingAt p k = t) (h : (stillS p t pw).2 = false) : triedK p pw (k + 1) = triedK p pw k := by simp [triedK, ht, h]
/-- The order of ranks; the least of some. -/
def befS (s u : Nat) : Bool := decide (pc s 12 < pc u 12) || (decide (pc s 12 = pc u 12) && decide (s < u))
def better (best s : Nat) : Nat := if s ≠ best ∧ befS best s = false then s else best
theorem better_yes {b s : Nat} (h : (¬((pc s 12 : Nat) : Int) = ((pc b 12 : Nat) : Int) ∨ ¬(s : Int) = (b : Int)) ∧ befS b s = false) : better b s = s := by
  have h1 : s ≠ b := by rintro rfl; simp at h
  unfold better
  rw [if_pos ⟨h1, h.2⟩]
theorem better_no {b s : Nat} (h : (((pc s 12 : Nat) : Int) = ((pc b 12 : Nat) : Int) ∧ (s : Int) = (b : Int)) ∨ befS b s = true) : better b s = b := by
  unfold better
  split
  · rename_i h2
    rcases h with h | h
    · omega
    · rw [h2.2] at h; cases h
  · rfl
def bestL (p : Pr) (s0 : Nat) (l : List Int) : Nat := l.foldl (fun best x => better best (movedS p x)) s0
theorem bestL_snoc (p : Pr) (s0 : Nat) (l : List Int) (x : Int) : bestL p s0 (l ++ [x]) = better (bestL p s0 l) (movedS p x) := by simp [bestL, List.foldl_append]
theorem bestL_lt {p : Pr} (hp : p.Ok) {s0 : Nat} (h : s0 < 4096) (l : List Int) : bestL p s0 l < 4096 := by
  induction l generalizing s0 with
  | nil => exact h
  | cons x l ih =>
    show bestL p (better s0 (movedS p x)) l < 4096
    refine ih ?_
    unfold better
    split
    · exact movedS_lt hp x
    · exact h
/-- The powers with which all still ones stand still. -/
def nbK (p : Pr) (s : Nat) (w : Int × Int) : Nat → Int × Int
  | 0 => w
  | k + 1 => if s >>> k &&& 1 = 0 then (stillS p (thingAt p k) (nbK p s w k)).1 else nbK p s w k
theorem nbK_in {p : Pr} {s : Nat} {w : Int × Int} {k : Nat} {t : Th} (ht : thingAt p k = t) (h : ((s >>> k &&& 1 : Nat) : Int) = 0) : nbK p s w (k + 1) = (stillS p t (nbK p s w k)).1 := by
  have h2 : s >>> k &&& 1 = 0 := by exact_mod_cast h
  simp only [nbK, h2, if_true, ht]
theorem nbK_out {p : Pr} {s : Nat} {w : Int × Int} {k : Nat} (h : ¬ ((s >>> k &&& 1 : Nat) : Int) = 0) : nbK p s w (k + 1) = nbK p s w k := by
  have h2 : ¬ s >>> k &&& 1 = 0 := fun e => h (by exact_mod_cast e)
  rw [nbK, if_neg h2]
def bestS (p : Pr) (w : Int × Int) : Nat := bestL p (movedS p w.1) (triedS p w)
def fewestX (p : Pr) : Int × (Int × Int) × Int :=
  match truthsX p [] with
  | .error k => (0, (0, 0), k)
  | .ok w => (bestS p w, nbK p (bestS p w) w p.things.length, 0)
end Go.Pw1
/- Walks of package years: the iterator over the things that are seen; what the sets are. -/
set_option linter.unusedSimpArgs false
set_option linter.unusedVariables false
namespace Go.Pw1
open Go Go.Eng
/-- The things that are seen. -/
def seenK (g : Gl) : Nat → List Nat
  | 0 => []
  | k + 1 => if seenG g k then seenK g k ++ [k] else seenK g k
def seenL (g : Gl) : List Nat := seenK g g.f.things.length
theorem seenK_yes {g : Gl} {k : Nat} (h : seenG g k = true) : seenK g (k + 1) = seenK g k ++ [k] := by simp [seenK, h]
theorem seenK_no {g : Gl} {k : Nat} (h : seenG g k = false) : seenK g (k + 1) = seenK g k := by simp [seenK, h]
theorem seenK_len (g : Gl) : ∀ k, (seenK g k).length ≤ k
  | 0 => by simp [seenK]
  | k + 1 => by
    have := seenK_len g k
    unfold seenK
    split <;> (try simp only [List.length_append, List.length_singleton]) <;> omega
theorem seenK_mem (g : Gl) : ∀ k i, i ∈ seenK g k ↔ i < k ∧ seenG g i = true
  | 0, i => by simp [seenK]
  | k + 1, i => by
    unfold seenK
    split
    · rename_i h
      rw [List.mem_append, seenK_mem g k i, List.mem_singleton]
      constructor
      · rintro (⟨h1, h2⟩ | rfl)
        · exact ⟨by omega, h2⟩
        · exact ⟨by omega, h⟩
      · rintro ⟨h1, h2⟩
        by_cases hi : i = k
        · exact .inr hi
        · exact .inl ⟨by omega, h2⟩
    · rename_i h
      rw [seenK_mem g k i]
      constructor
      · rintro ⟨h1, h2⟩; exact ⟨by omega, h2⟩
      · rintro ⟨h1, h2⟩
        refine ⟨?_, h2⟩
        by_cases hi : i = k
        · subst hi; exact absurd h2 h
        · omega
/-- A thing that is seen. -/
abbrev Sn (g : Gl) := { i : Nat // seenG g i = true }
def vals {g : Gl} (l : List (Sn g)) : List Nat := l.map (·.1)
theorem vals_snoc {g : Gl} (l : List (Sn g)) (x : Sn g) : vals (l ++ [x]) = vals l ++ [x.1] := by simp [vals]
def seenA (g : Gl) : Nat → List (Sn g)
  | 0 => []
  | k + 1 => if h : seenG g k = true then seenA g k ++ [⟨k, h⟩] else seenA g k
theorem seenA_yes {g : Gl} {k : Nat} (h : seenG g k = true) : seenA g (k + 1) = seenA g k ++ [⟨k, h⟩] := by simp [seenA, h]
theorem seenA_no {g : Gl} {k : Nat} (h : seenG g k = false) : seenA g (k + 1) = seenA g k := by simp [seenA, h]
theorem seenA_len (g : Gl) : ∀ k, (seenA g k).length ≤ k
  | 0 => by simp [seenA]
  | k + 1 => by
    have := seenA_len g k
    unfold seenA
    split <;> (try simp only [List.length_append, List.length_singleton]) <;> omega
theorem seenA_vals (g : Gl) : ∀ k, vals (seenA g k) = seenK g k
  | 0 => rfl
  | k + 1 => by
    unfold seenA seenK
    split
    · rw [vals_snoc, seenA_vals g k]
    · exact seenA_vals g k
theorem seenL_mem {g : Gl} {i : Nat} : i ∈ seenL g ↔ i < g.f.things.length ∧ seenG g i = true := seenK_mem g _ i
/-- The set of those of which something is so. -/
def setL (p : Nat → Bool) (l : List Nat) : Nat := l.foldl (fun s i => if p i then s ||| 2 ^ i else s) 0
theorem setL_snoc (p : Nat → Bool) (l : List Nat) (i : Nat) : setL p (l ++ [i]) = if p i then setL p l ||| 2 ^ i else setL p l := by simp [setL, List.foldl_append]
theorem setL_lt {p : Nat → Bool} {m : Nat} : ∀ {l : List Nat}, (∀ i ∈ l, i < m) → setL p l < 2 ^ m := by
  intro l h
  have key : ∀ (l : List Nat) (s : Nat), s < 2 ^ m → (∀ i ∈ l, i < m) → l.foldl (fun s i => if p i then s ||| 2 ^ i else s) s < 2 ^ m := by
    intro l
    induction l with
    | nil => intro s hs _; exact hs
    | cons i l ih =>
      intro s hs hl
      refine ih _ ?_ (fun j hj => hl j (by simp [hj]))
      show (if p i then s ||| 2 ^ i else s) < 2 ^ m
      split
      · exact Nat.or_lt_two_pow hs (Nat.pow_lt_pow_right (by decide) (hl i (by simp)))
      · exact hs
  exact key l 0 (Nat.two_pow_pos m) h
theorem setL_bit {p : Nat → Bool} {l : List Nat} {j : Nat} : (setL p l).testBit j = (decide (j ∈ l) && p j) := by
  have key : ∀ (l : List Nat) (s : Nat), (l.foldl (fun s i => if p i then s ||| 2 ^ i else s) s).testBit j = (s.testBit j || (decide (j ∈ l) && p j)) := by
    intro l
    induction l with
    | nil => intro s; simp
    | cons i l ih =>
      intro s
      rw [List.foldl_cons, ih]
      by_cases hij : j = i
      · subst hij
        cases hp : p j <;> simp [hp, Nat.testBit_or, Nat.testBit_two_pow]
      · have h1 : (decide (j ∈ i :: l)) = decide (j ∈ l) := by simp [hij]
        rw [h1]
        split
        · rw [Nat.testBit_or, Nat.testBit_two_pow]
          have : decide (i = j) = false := by simp; omega
          rw [this]; simp
        · rfl
  have := key l 0
  simpa [setL] using this
def mvZ (g : Gl) (i : Nat) : Int × Int := movedZ (farG g i)
def only0 (s : Int × Int) : Bool := decide (s.1 = 0) && decide (s.2 = 0)
def has0 (s : Int × Int) : Bool := decide (s.1 ≤ 0) && decide (0 ≤ s.2)
def sureB (g : Gl) (i : Nat) : Bool := only0 (mvZ g i) && only0 (sankZ g i (farG g i))
def canB (g : Gl) (i : Nat) : Bool := has0 (mvZ g i) && has0 (sankZ g i (farG g i))
def gStays (g : Gl) : (Int × Int) × Int := match openG g true with
  | .error k => ((0, 0), k)
  | .ok _ => (((setL (sureB g) (seenL g) : Nat), (setL (canB g) (seenL g) : Nat)), 0)
/-- The least of the greatest numbers by which things moved; and whether there is one. -/
def leastF (g : Gl) (l : List Nat) : Int × Bool := l.foldl (fun a i => if !a.2 || decide ((mvZ g i).2 < a.1) then ((mvZ g i).2, true) else a) (0, false)
theorem leastF_snoc (g : Gl) (l : List Nat) (i : Nat) : leastF g (l ++ [i]) = if !(leastF g l).2 || decide ((mvZ g i).2 < (leastF g l).1) then ((mvZ g i).2, true) else leastF g l := by simp [leastF, List.foldl_append]
def gFastest (g : Gl) : Int × Int := match openG g true with
  | .error k => (0, k)
  | .ok _ => ((setL (fun i => decide ((mvZ g i).1 ≤ (leastF g (seenL g)).1)) (seenL g) : Nat), 0)
/-- The things that can have moved alike, thing i having moved the least. -/
def alikeS (g : Gl) (even : Int) (i : Nat) : Nat := setL (fun k => decide ((mvZ g i).2 ≤ (mvZ g k).2) && decide ((mvZ g k).1 ≤ (mvZ g i).2 + even)) (seenL g)
def offerS (best s : Nat) : Nat := if pc best 12 < pc s 12 ∨ (pc s 12 = pc best 12 ∧ s < best) then s else best
def alikeL (g : Gl) (even : Int) (l : List Nat) : Nat := l.foldl (fun b i => offerS b (alikeS g even i)) 0
theorem alikeL_snoc (g : Gl) (even : Int) (l : List Nat) (i : Nat) : alikeL g even (l ++ [i]) = offerS (alikeL g even l) (alikeS g even i) := by simp [alikeL, List.foldl_append]
def gAlike (g : Gl) (even : Int) : Int × Int := match openG g (within even 0 1073741824) with
  | .error k => (0, k)
  | .ok _ => ((alikeL g even (seenL g) : Nat), 0)
theorem openG_pairs {g : Gl} {v : Bool} {u : Unit} (h : openG g v = .ok u) : g.f.Ok ∧ g.s.Ok ∧ g.f.things.length = g.s.things.length := by
  unfold openG at h
  split at h
  · rename_i hf
    simp only [fitG, within, Bool.and_eq_true, decide_eq_true_eq, Bool.not_eq_true', decide_eq_false_iff_not] at hf
    have key : ∀ p : Pr, ¬ (powerX p).2 = 1 → p.Ok := fun p hp => by
      cases hi : isPair p with
      | true => exact isPair_ok hi
      | false =>
        exfalso; apply hp
        unfold powerX truthsX openX
        rw [hi]; rfl
    exact ⟨key _ hf.1.2, key _ hf.2, by omega⟩
  · cases h
end Go.Pw1
namespace Go.Proofs.Ytjijeeadmhpfcaa
open Go Go.Eng Go.Pw1

structure SeenY (g : Gl) (a : Ga) (bg b1 : Nat) (W : World) : Prop where
  v : W.heap[bg]? = some (.cells (g.cells a).toArray 110 (0, 0))
  x : W.heap[b1]? = some (.cells [.pointer (some ⟨bg, 0, none⟩)].toArray 65 (0, 0))
  s : GIn W g a
theorem SeenY.mem {g : Gl} {a : Ga} {bg b1 : Nat} {W w : World} {news : Blks} (h : SeenY g a bg b1 W) (hm : Mem W [] news w) : SeenY g a bg b1 w := ⟨hm.old_at h.v (by simp), hm.old_at h.x (by simp), h.s.mono hm⟩
structure SafeY (g : Gl) (a : Ga) (bg b1 B : Nat) (nm : List Nat) : Prop where
  v : bg < B ∧ bg ∉ nm
  x : b1 < B ∧ b1 ∉ nm
  s1 : g.f.things.map Th.cells ≠ [] → a.b1 < B ∧ a.b1 ∉ nm
  s2 : g.s.things.map Th.cells ≠ [] → a.b2 < B ∧ a.b2 ∉ nm
theorem SeenY.kp {g : Gl} {a : Ga} {bg b1 B : Nat} {nm : List Nat} {W W' : World} (h : SeenY g a bg b1 W) (hs : SafeY g a bg b1 B nm) (hk : KpX B nm W W') : SeenY g a bg b1 W' :=
  ⟨(hk bg hs.v.1 hs.v.2).trans h.v, (hk b1 hs.x.1 hs.x.2).trans h.x, h.s.s1.kp (fun hne => hk a.b1 (hs.s1 hne).1 (hs.s1 hne).2), h.s.s2.kp (fun hne => hk a.b2 (hs.s2 hne).1 (hs.s2 hne).2), h.s.l1, h.s.l2⟩
theorem yseen_calls (bg : Nat) (W : World) : Calls Try.prog 56 #[.pointer (some ⟨bg, 0, none⟩)] W (News (fun b => .func (.func 81) #[] #[.pointer (some ⟨b, 0, none⟩)]) (fun b => [(b, .cells [.pointer (some ⟨bg, 0, none⟩)].toArray 65 (0, 0))]) W) := by
  refine calls_start Try.func56 rfl rfl ?_
  refine RunC.seq ?_
  refine RunC.region ?_
  refine RunL.new (New.box rfl) rfl rfl rfl (fun b1 => ?_)
  refine RunL.val (Val.pure rfl) rfl rfl rfl ?_
  refine RunL.nil ?_
  refine RunE.next ?_
  refine RunC.seq ?_
  refine RunC.region ?_
  refine RunL.val (Val.pure rfl) rfl rfl rfl ?_
  refine RunL.val (Val.pure rfl) rfl rfl rfl ?_
  refine RunL.nil ?_
  refine RunE.next ?_
  refine RunC.ret ?_
  exact RunE.ret (chg := []) (.r1 rfl (.tmp rfl)) (fun _ hm => ⟨b1, rfl, hm⟩)
set_option maxHeartbeats 2000000 in
theorem seen_stops (g : Gl) (a : Ga) (bg b1 : Nat) (w0 : World) (nm : List Nat) (hlen : g.f.things.length ≤ 12) (h0 : SeenY g a bg b1 w0) (hs : SafeY g a bg b1 w0.heap.size nm) :
    SeqStopsK (Fr none) 8 Try.prog 81 #[.pointer (some ⟨b1, 0, none⟩)] (fun x : Sn g => #[.int .i64 (x.1 : Int), z2v (farG g x.1)]) (KpX w0.heap.size nm) (fun xs => xs = seenA g g.f.things.length) (fun _ => True) 100 w0 := by
  unfold SeqStopsK
  intro l J Jx W hW hJ hJx hY hJ0
  have hSn : SeenY g a bg b1 W := ⟨(hW.block bg hs.v.1).trans h0.v, (hW.block b1 hs.x.1).trans h0.x, h0.s.s1.kp (fun hne => hW.block a.b1 (hs.s1 hne).1), h0.s.s2.kp (fun hne => hW.block a.b2 (hs.s2 hne).1), h0.s.l1, h0.s.l2⟩
  have hJm : ∀ {s : List (Sn g)} {A C : World} {news : Blks}, J s A → Mem A [] news C → J s C := fun h hm => hJ _ _ _ none h hm.grown (fun r e => by cases e)
  have hJxm : ∀ {s : List (Sn g)} {A C : World} {news : Blks}, Jx s A → Mem A [] news C → Jx s C := fun h hm => hJx _ _ _ none h hm.grown (fun r e => by cases e)
  have hYY : ∀ (pre : List (Sn g)) (x : Sn g) (A : World), J pre A → pre.length < 100 → SeenY g a bg b1 A → YieldAt (Fr none) 8 Try.prog l #[.int .i64 (x.1 : Int), z2v (farG g x.1)] A (fun e w' => ∃ y, e = .returned (.bool y) ∧ ((y = true ∧ J (pre ++ [x]) w' ∧ SeenY g a bg b1 w') ∨ (y = false ∧ Jx (pre ++ [x]) w'))) := fun pre x A h1 h2 h3 =>
    yieldAt_any (hY pre x A h1 h2) (fun e w' hh => by
      rcases hh with ⟨rfl, hh, hk⟩ | ⟨rfl, hh⟩
      · exact ⟨true, rfl, .inl ⟨rfl, hh, h3.kp hs hk⟩⟩
      · exact ⟨false, rfl, .inr ⟨rfl, hh⟩⟩)
  refine callsIn_start (vs := [.func (.yield l) #[] #[], .pointer (some ⟨b1, 0, none⟩)]) Try.func81 rfl rfl ?_ 8
  refine RunCR.scope ?_
  refine RunCR.seq ?_
  refine RunCR.label ?_
  refine RunER.next ?_
  refine RunCR.seq ?_
  refine RunCR.region ?_
  refine RunLR.val (Val.oload_one rfl hSn.x (by simp) ty_65 rfl) rfl rfl rfl ?_
  refine RunLR.val (Val.pure rfl) rfl rfl rfl ?_
  refine RunLR.val (Val.fieldAddr rfl fld_110_0) rfl rfl rfl ?_
  refine RunLR.val (Val.fieldAddr rfl fld_28_0) rfl rfl rfl ?_
  refine RunLR.val (Val.fieldAddr rfl fld_26_5) rfl rfl rfl ?_
  refine RunLR.val (Val.oload_one rfl hSn.v (by simp) ty_24 rfl) rfl rfl rfl ?_
  refine RunLR.val (Val.len_sl rfl sl_24) rfl rfl rfl ?_
  refine RunLR.val (Val.pure rfl) rfl rfl rfl ?_
  refine RunLR.nil ?_
  refine RunER.next ?_
  refine RunCR.block ?_
  refine RunCR.loopW (g.f.things.length) (fun k q => (13, .int .i64 (k : Int)) :: q) (fun k Wk => J (seenA g k) Wk ∧ SeenY g a bg b1 Wk) (fun w hm => ⟨hJm hJ0 hm, hSn.mem hm⟩) (Sub.consE (t := 13) rfl rfl (Sub.cons (t := 0) rfl (Sub.cons (t := 1) rfl (Sub.cons (t := 12) rfl (Sub.nil _))))) ?_
  intro k Wk kN kI
  obtain ⟨hJk, hSk⟩ := kI
  refine RunCR.seq ?_
  refine RunCR.region ?_
  refine RunLR.val (Val.pure rfl) rfl rfl rfl ?_
  refine RunLR.nil ?_
  refine RunER.next ?_
  refine RunCR.seq ?_
  refine RunCR.cond rfl ?_ ?_
  · intro c0
    have c0' := c0; clear c0
    try simp only [decide_eq_true_eq, decide_eq_false_iff_not, Bool.not_eq_true', Bool.not_eq_false', Bool.and_eq_true, Bool.or_eq_true, Bool.and_eq_false_iff, Bool.or_eq_false_iff, Int.not_le, Int.not_lt] at c0'
    have hk : k < g.f.things.length := by omega
    refine RunCR.skip ?_
    refine RunER.next ?_
    refine RunCR.seq ?_
    refine RunCR.block ?_
    refine RunCR.seq ?_
    refine RunCR.region ?_
    refine RunLR.val (Val.pure rfl) rfl rfl rfl ?_
    refine RunLR.val (Val.pure rfl) rfl rfl rfl ?_
    refine RunLR.nil ?_
    refine RunER.next ?_
    refine RunCR.seq ?_
    refine RunCR.region ?_
    refine RunLR.val (Val.oload_one rfl hSk.x (by simp) ty_65 rfl) rfl rfl rfl ?_
    refine RunLR.val (Val.pure rfl) rfl rfl rfl ?_
    refine RunLR.callP (isCall_func rfl ent_41) rfl rfl rfl (fun w hm => yfar_calls g a k bg w (hm.old_at hSk.v (by simp)) (hSk.s.mono hm)) ?_
    iterate 3 refine RunLR.val (Val.pure rfl) rfl rfl rfl ?_
    refine RunLR.new (New.alloc zero_72) rfl rfl rfl (fun b4 => ?_)
    refine RunLR.sto (Sto.store rfl rfl .here ty_72 rfl rfl) rfl rfl ?_
    refine RunLR.val (Val.pure rfl) rfl rfl rfl ?_
    refine RunLR.nil ?_
    refine RunER.next ?_
    refine RunCR.seq ?_
    refine RunCR.seq ?_
    refine RunCR.region ?_
    refine RunLR.val (Val.pure rfl) rfl rfl rfl ?_
    refine RunLR.val (Val.pure rfl) rfl rfl rfl ?_
    refine RunLR.nil ?_
    refine RunER.next ?_
    refine RunCR.cond rfl ?_ ?_
    · intro c1
      have c1' := c1; clear c1
      try simp only [decide_eq_true_eq, decide_eq_false_iff_not, Bool.not_eq_true', Bool.not_eq_false', Bool.and_eq_true, Bool.or_eq_true, Bool.and_eq_false_iff, Bool.or_eq_false_iff, Int.not_le, Int.not_lt] at c1'
      refine RunCR.exit ?_
      refine RunE.pass_exit ?_
      refine RunE.block_here ?_
      refine RunER.next ?_
      refine RunCR.region ?_
      refine RunLR.val (Val.add rfl rfl (IntWalk.i64_in _ ⟨by omega, by omega⟩)) rfl rfl rfl ?_
      refine RunLR.val (Val.pure rfl) rfl rfl rfl ?_
      refine RunLR.nil ?_
      exact RunE.roundW (by omega) (fun w hm => (by first | exact ⟨by rw [seenA_no c1']; exact hJm hJk hm, hSk.mem hm⟩ | (rcases h27 with ⟨_, hJ2, hS2⟩ | ⟨h, _⟩; exact ⟨by rw [seenA_yes c1']; exact hJm hJ2 hm, hS2.mem hm⟩; rw [h] at c2'; cases c2'))) (Sub.consE (t := 13) rfl rfl (Sub.cons (t := 0) rfl (Sub.cons (t := 1) rfl (Sub.cons (t := 12) rfl (Sub.nil _)))))
    · intro c1
      have c1' := c1; clear c1
      try simp only [decide_eq_true_eq, decide_eq_false_iff_not, Bool.not_eq_true', Bool.not_eq_false', Bool.and_eq_true, Bool.or_eq_true, Bool.and_eq_false_iff, Bool.or_eq_false_iff, Int.not_le, Int.not_lt] at c1'
      refine RunCR.skip ?_
      refine RunER.next ?_
      refine RunCR.seq ?_
      refine RunCR.region ?_
      refine RunLR.val (Val.pure rfl) rfl rfl rfl ?_
      refine RunLR.val (Val.pure rfl) rfl rfl rfl ?_
      refine RunLR.val (Val.load_agg rfl (.head _) ty_72 rfl) rfl rfl rfl ?_
      refine RunLR.yield (RY := fun y w' => (y = true ∧ J (seenA g k ++ [(⟨k, c1'⟩ : Sn g)]) w' ∧ SeenY g a bg b1 w') ∨ (y = false ∧ Jx (seenA g k ++ [(⟨k, c1'⟩ : Sn g)]) w')) (isYield_value rfl rfl) rfl rfl rfl (fun w hm => hYY _ (⟨k, c1'⟩ : Sn g) w (hJm hJk hm) (by have := seenA_len g k; omega) (hSk.mem hm)) ?_
      intro y27 W27 h27
      refine RunLR.val (Val.pure rfl) rfl rfl rfl ?_
      refine RunLR.nil ?_
      refine RunER.next ?_
      refine RunCR.cond rfl ?_ ?_
      · intro c2
        have c2' := c2; clear c2
        try simp only [decide_eq_true_eq, decide_eq_false_iff_not, Bool.not_eq_true', Bool.not_eq_false', Bool.and_eq_true, Bool.or_eq_true, Bool.and_eq_false_iff, Bool.or_eq_false_iff, Int.not_le, Int.not_lt] at c2'
        refine RunCR.ret ?_
        refine RunE.block_ret ?_
        refine RunE.pass_ret ?_
        refine RunE.pass_ret ?_
        refine RunE.block_ret ?_
        refine RunE.scope_ret ?_
        intro a w2 s
        rcases h27 with ⟨h, _⟩ | ⟨_, hX2⟩
        · rw [h] at c2'; cases c2'
        · exact ⟨s.defers, _, results_none rfl _ _ _, ⟨_, rfl⟩, .inr ⟨_, trivial, hJxm hX2 s.mem⟩⟩
      · intro c2
        have c2' := c2; clear c2
        try simp only [decide_eq_true_eq, decide_eq_false_iff_not, Bool.not_eq_true', Bool.not_eq_false', Bool.and_eq_true, Bool.or_eq_true, Bool.and_eq_false_iff, Bool.or_eq_false_iff, Int.not_le, Int.not_lt] at c2'
        refine RunCR.skip ?_
        refine RunE.block_normal ?_
        refine RunER.next ?_
        refine RunCR.region ?_
        refine RunLR.val (Val.add rfl rfl (IntWalk.i64_in _ ⟨by omega, by omega⟩)) rfl rfl rfl ?_
        refine RunLR.val (Val.pure rfl) rfl rfl rfl ?_
        refine RunLR.nil ?_
        exact RunE.roundW (by omega) (fun w hm => (by first | exact ⟨by rw [seenA_no c1']; exact hJm hJk hm, hSk.mem hm⟩ | (rcases h27 with ⟨_, hJ2, hS2⟩ | ⟨h, _⟩; exact ⟨by rw [seenA_yes c1']; exact hJm hJ2 hm, hS2.mem hm⟩; rw [h] at c2'; cases c2'))) (Sub.consE (t := 13) rfl rfl (Sub.cons (t := 0) rfl (Sub.cons (t := 1) rfl (Sub.cons (t := 12) rfl (Sub.nil _)))))
  · intro c0
    have c0' := c0; clear c0
    try simp only [decide_eq_true_eq, decide_eq_false_iff_not, Bool.not_eq_true', Bool.not_eq_false', Bool.and_eq_true, Bool.or_eq_true, Bool.and_eq_false_iff, Bool.or_eq_false_iff, Int.not_le, Int.not_lt] at c0'
    obtain rfl : k = g.f.things.length := by omega
    refine RunCR.exit ?_
    refine RunE.pass_exit ?_
    refine RunE.pass_exit ?_
    refine RunE.block_here ?_
    refine RunE.scope_normal ?_
    intro a w2 s
    exact ⟨s.defers, _, results_none rfl _ _ _, ⟨_, rfl⟩, .inl ⟨_, rfl, hJm hJk s.mem⟩⟩
end Go.Proofs.Ytjijeeadmhpfcaa
/- Walk of package years: Stays. -/
set_option linter.unusedSimpArgs false
set_option linter.unusedVariables false
namespace Go.Proofs.Ytjijeeadmhpfcaa
open Go Go.Eng Go.Pw1

theorem yonly_calls (s : Int × Int) (W : World) : Calls Try.prog 63 #[b2v s, .int .i64 0] W (Pure (.bool (only0 s)) W) := by
  refine calls_start Try.func63 rfl rfl ?_
  refine RunC.seq ?_
  refine RunC.region ?_
  refine RunL.new (New.box rfl) rfl rfl rfl (fun b2 => ?_)
  refine RunL.val (Val.pure rfl) rfl rfl rfl ?_
  refine RunL.nil ?_
  refine RunE.next ?_
  refine RunC.seq ?_
  refine RunC.region ?_
  refine RunL.val (Val.fieldAddr rfl fld_64_0) rfl rfl rfl ?_
  refine RunL.val (Val.load_one rfl (.head _) ty_3 rfl) rfl rfl rfl ?_
  iterate 3 refine RunL.val (Val.pure rfl) rfl rfl rfl ?_
  refine RunL.andPart (dj := 9) (dp := 14) 5 rfl (fun g9 => by
    have g9' := g9
    try simp only [decide_eq_true_eq, decide_eq_false_iff_not, Bool.not_eq_true', Bool.not_eq_false', Bool.and_eq_true, Bool.or_eq_true, Bool.and_eq_false_iff, Bool.or_eq_false_iff, Int.not_le, Int.not_lt] at g9'
    refine RunL.val (Val.fieldAddr rfl fld_64_1) rfl rfl rfl ?_
    refine RunL.val (Val.load_one rfl (.head _) ty_3 rfl) rfl rfl rfl ?_
    iterate 3 refine RunL.val (Val.pure rfl) rfl rfl rfl ?_
    exact RunL.segEnd (Sub.cons rfl (Sub.skip rfl (Sub.skip rfl (Sub.skip rfl (Sub.skip rfl (Sub.skip rfl (Sub.same rfl (by rw [g9]) (Sub.refl _)))))))) (List.Sublist.refl _)
  ) (fun g9 => by
    have g9' := g9
    try simp only [decide_eq_true_eq, decide_eq_false_iff_not, Bool.not_eq_true', Bool.not_eq_false', Bool.and_eq_true, Bool.or_eq_true, Bool.and_eq_false_iff, Bool.or_eq_false_iff, Int.not_le, Int.not_lt] at g9'
    iterate 4 refine RunL.no rfl rfl rfl ?_
    refine RunL.val (Val.pure rfl) rfl rfl rfl ?_
    exact RunL.segEnd (Sub.cons rfl (Sub.skip rfl (Sub.skip rfl (Sub.skip rfl (Sub.skip rfl (Sub.skip rfl (Sub.same rfl (by rw [g9]) (Sub.refl _)))))))) (List.Sublist.refl _)
  ) ?_
  refine RunL.val (Val.pure rfl) rfl rfl rfl ?_
  refine RunL.nil ?_
  refine RunE.next ?_
  refine RunC.ret ?_
  exact RunE.retP (.r1 rfl (.tmp rfl)) (by first | rfl | simp)
theorem yhas_calls (s : Int × Int) (W : World) : Calls Try.prog 64 #[b2v s, .int .i64 0] W (Pure (.bool (has0 s)) W) := by
  refine calls_start Try.func64 rfl rfl ?_
  refine RunC.seq ?_
  refine RunC.region ?_
  refine RunL.new (New.box rfl) rfl rfl rfl (fun b2 => ?_)
  refine RunL.val (Val.pure rfl) rfl rfl rfl ?_
  refine RunL.nil ?_
  refine RunE.next ?_
  refine RunC.seq ?_
  refine RunC.region ?_
  refine RunL.val (Val.fieldAddr rfl fld_64_0) rfl rfl rfl ?_
  refine RunL.val (Val.load_one rfl (.head _) ty_3 rfl) rfl rfl rfl ?_
  iterate 3 refine RunL.val (Val.pure rfl) rfl rfl rfl ?_
  refine RunL.andPart (dj := 9) (dp := 14) 5 rfl (fun g9 => by
    have g9' := g9
    try simp only [decide_eq_true_eq, decide_eq_false_iff_not, Bool.not_eq_true', Bool.not_eq_false', Bool.and_eq_true, Bool.or_eq_true, Bool.and_eq_false_iff, Bool.or_eq_false_iff, Int.not_le, Int.not_lt] at g9'
    refine RunL.val (Val.pure rfl) rfl rfl rfl ?_
    refine RunL.val (Val.fieldAddr rfl fld_64_1) rfl rfl rfl ?_
    refine RunL.val (Val.load_one rfl (.head _) ty_3 rfl) rfl rfl rfl ?_
    refine RunL.val (Val.pure rfl) rfl rfl rfl ?_
    refine RunL.val (Val.pure rfl) rfl rfl rfl ?_
    exact RunL.segEnd (Sub.cons rfl (Sub.skip rfl (Sub.skip rfl (Sub.skip rfl (Sub.skip rfl (Sub.skip rfl (Sub.same rfl (by rw [g9]) (Sub.refl _)))))))) (List.Sublist.refl _)
  ) (fun g9 => by
    have g9' := g9
    try simp only [decide_eq_true_eq, decide_eq_false_iff_not, Bool.not_eq_true', Bool.not_eq_false', Bool.and_eq_true, Bool.or_eq_true, Bool.and_eq_false_iff, Bool.or_eq_false_iff, Int.not_le, Int.not_lt] at g9'
    iterate 4 refine RunL.no rfl rfl rfl ?_
    refine RunL.val (Val.pure rfl) rfl rfl rfl ?_
    exact RunL.segEnd (Sub.cons rfl (Sub.skip rfl (Sub.skip rfl (Sub.skip rfl (Sub.skip rfl (Sub.skip rfl (Sub.same rfl (by rw [g9]) (Sub.refl _)))))))) (List.Sublist.refl _)
  ) ?_
  refine RunL.val (Val.pure rfl) rfl rfl rfl ?_
  refine RunL.nil ?_
  refine RunE.next ?_
  refine RunC.ret ?_
  exact RunE.retP (.r1 rfl (.tmp rfl)) (by first | rfl | simp)
theorem setL_lt12 {g : Gl} {p : Nat → Bool} (hlen : g.f.things.length ≤ 12) (pre : List (Sn g)) : setL p (vals pre) < 4096 := by
  refine setL_lt (m := 12) (fun i hi => ?_)
  obtain ⟨x, hx, rfl⟩ := List.mem_map.1 hi
  obtain ⟨_, _, k, hk, h1, _⟩ := seen_in x.2
  have : x.1 = k := by omega
  omega
theorem sn_lt {g : Gl} (hlen : g.f.things.length ≤ 12) (x : Sn g) : x.1 < 12 := by
  obtain ⟨_, _, k, hk, h1, _⟩ := seen_in x.2
  have : x.1 = k := by omega
  omega
theorem or_lt12 {s i : Nat} (hs : s < 4096) (hi : i < 12) : s ||| 2 ^ i < 4096 := Nat.or_lt_two_pow (n := 12) hs (Nat.pow_lt_pow_right (by decide) hi)
theorem yStays_calls (g : Gl) (a : Ga) (W : World) (hG : GIn W g a) : Calls Try.prog 24 #[g.v a] W (Pure (.tuple #[.int .i64 (gStays g).1.1, .int .i64 (gStays g).1.2, .int .i64 (gStays g).2]) W) := by
  refine calls_start_marks Try.func24 rfl rfl ?_
  refine RunC.seq ?_
  refine RunC.region ?_
  refine RunL.new (New.box rfl) rfl rfl rfl (fun b1 => ?_)
  refine RunL.new (New.alloc zero_3) rfl rfl rfl (fun b2 => ?_)
  refine RunL.new (New.alloc zero_3) rfl rfl rfl (fun b3 => ?_)
  refine RunL.new (New.alloc zero_31) rfl rfl rfl (fun b4 => ?_)
  refine RunL.nil ?_
  refine RunE.next ?_
  refine RunC.seq ?_
  refine RunC.region ?_
  refine RunL.val (Val.pure rfl) rfl rfl rfl ?_
  refine RunL.deferC rfl ?_
  refine RunL.nil ?_
  refine RunE.next ?_
  refine RunC.seq ?_
  refine RunC.region ?_
  refine RunL.val (Val.load_agg rfl (.tail _ (.tail _ (.tail _ (.head _)))) ty_28 rfl) rfl rfl rfl ?_
  refine RunL.callTN (isCall_func rfl ent_35) rfl rfl rfl (fun w hm => yopen_calls g a _ w (hG.mono hm)) (fun e15 he15 => ?_) (fun a15 ha15 b15 => ?_)
  · refine RunE.pass_panic ?_
    exact RunE.panMC yStays_catches ent_62 .here (.r3 rfl (.one rfl (.tail _ (.tail _ (.head _))) ty_3 rfl) (.one rfl (.tail _ (.head _)) ty_3 rfl) (.one rfl (.head _) ty_31 rfl)) (by simp [gStays, he15])
  obtain ⟨hpf, hps, hll⟩ := openG_pairs ha15
  have hlen := hpf.len
  refine RunL.new (New.alloc zero_65) rfl rfl rfl (fun b5 => ?_)
  refine RunL.sto (Sto.store rfl rfl .here ty_65 rfl rfl) rfl rfl ?_
  refine RunL.nil ?_
  refine RunE.next ?_
  refine RunC.seq ?_
  refine RunC.seq ?_
  refine RunC.region ?_
  refine RunL.val (Val.load_one rfl (.head _) ty_65 rfl) rfl rfl rfl ?_
  refine RunL.callN (isCall_func rfl ent_56) rfl rfl rfl (fun w hm => yseen_calls b15 w) (fun b17 => ?_)
  refine RunL.nil ?_
  refine RunE.next ?_
  refine RunC.block ?_
  refine RunC.rangeH (α := Sn g) (Y := Nat) (N := 100) (S := fun xs => xs = seenA g g.f.things.length) (Sp := fun _ => True) [(b17, _), (b5, _), (b15, _), (b4, _), (b1, _)] (fun x => [.int .i64 (x.1 : Int), z2v (farG g x.1)]) (fun pre => [(b2, .cells [.int .i64 ((setL (sureB g) (vals pre) : Nat) : Int)].toArray 3 (0, 0)), (b3, .cells [.int .i64 ((setL (canB g) (vals pre) : Nat) : Int)].toArray 3 (0, 0))]) (fun x y q => (6, .int .i64 (x.1 : Int)) :: (7, .pointer (some ⟨y, 0, none⟩)) :: q) (fun x y => [(y, .cells (z2c (farG g x.1)).toArray 72 (0, 0))]) (fun _ _ _ => False) (Sub.cons (t := 2) rfl (Sub.cons (t := 3) rfl (Sub.cons (t := 4) rfl (Sub.cons (t := 5) rfl (Sub.nil _))))) (.cons (.there (.there (.there (.there (.there .here))))) rfl (.cons (.there (.there (.there (.there .here)))) rfl (.cons .here rfl (.cons .here rfl (.cons .here rfl (.cons .here rfl (.cons .here rfl .nil))))))) (fun _ => rfl) (fun _ _ _ hb => by simp only [List.mem_cons, List.not_mem_nil, or_false, Prod.mk.injEq] at hb; rcases hb with ⟨_, rfl⟩ | ⟨_, rfl⟩ <;> rfl) (fun _ _ _ _ hb => by simp only [List.mem_cons, List.not_mem_nil, or_false, Prod.mk.injEq] at hb; obtain ⟨_, rfl⟩ := hb; rfl) (fun _ => rfl) rfl rfl ent_81 (fun w hm => seen_stops g a b15 b17 w _ hlen ⟨hm.at (.tail _ (.tail _ (.tail _ (.tail _ (.head _))))), hm.at (.tail _ (.tail _ (.head _))), hG.mono hm⟩ ⟨hm.apart (.tail _ (.tail _ (.head _))), hm.apart (.head _), fun hx => hm.oldApart (hG.s1.lt0 (by decide) hx), fun hx => hm.oldApart (hG.s2.lt0 (by decide) hx)⟩) ?_ ?_ ?_ ?_
  · intro l1 pre x V1 hV1
    refine RunCR.seq ?_
    refine RunCR.regionP ?_
    refine RunL.val (Val.pure rfl) rfl rfl rfl ?_
    refine RunL.nil ?_
    refine RunER.next ?_
    refine RunCR.regionP ?_
    refine RunL.new (New.alloc zero_72) rfl rfl rfl (fun b7 => ?_)
    refine RunL.sto (Sto.store rfl rfl .here ty_72 rfl rfl) rfl rfl ?_
    refine RunL.nil ?_
    exact RunE.asg b7 rfl (Sub.consE (t := 6) rfl rfl (Sub.consE (t := 7) rfl rfl (Sub.cons (t := 2) rfl (Sub.cons (t := 3) rfl (Sub.cons (t := 4) rfl (Sub.cons (t := 5) rfl (Sub.nil _))))))) (.cons .here rfl .nil)
  · intro l1 pre x y W1 hlen1 hI1 hL1 hAp1
    have hv1_b17 := hI1.at (.tail _ (.tail _ (.head _)))
    have hn1_b17 := hAp1 _ (.inl ⟨_, (.head _)⟩)
    have hv1_b5 := hI1.at (.tail _ (.tail _ (.tail _ (.head _))))
    have hn1_b5 := hAp1 _ (.inl ⟨_, (.tail _ (.head _))⟩)
    have hv1_b15 := hI1.at (.tail _ (.tail _ (.tail _ (.tail _ (.head _)))))
    have hn1_b15 := hAp1 _ (.inl ⟨_, (.tail _ (.tail _ (.head _)))⟩)
    have hv1_b4 := hI1.at (.tail _ (.tail _ (.tail _ (.tail _ (.tail _ (.head _))))))
    have hn1_b4 := hAp1 _ (.inl ⟨_, (.tail _ (.tail _ (.tail _ (.head _))))⟩)
    have hv1_b1 := hI1.at (.tail _ (.tail _ (.tail _ (.tail _ (.tail _ (.tail _ (.head _)))))))
    have hn1_b1 := hAp1 _ (.inl ⟨_, (.tail _ (.tail _ (.tail _ (.tail _ (.head _)))))⟩)
    have hx12 := sn_lt hlen x
    have hp1 := setL_lt12 (p := sureB g) hlen pre
    have hp2 := setL_lt12 (p := canB g) hlen pre
    have h2x : 2 ^ x.1 < 2 ^ 12 := Nat.pow_lt_pow_right (by decide) hx12
    have hG1 : ∀ {c nw : Blks} {w : World}, Mem W1 c nw w → c.map (·.1) = _ → GIn w g a := fun hm hc => hG.mono (hI1.flat hm (fun b hb => by rw [hc]; exact hAp1 b (.inr hb)))
    refine RunCR.block ?_
    refine RunCR.seq ?_
    refine RunCR.regionP ?_
    refine RunL.val (Val.pure rfl) rfl rfl rfl ?_
    refine RunL.val (Val.pure rfl) rfl rfl rfl ?_
    refine RunL.nil ?_
    refine RunER.next ?_
    refine RunCR.seq ?_
    refine RunCR.seq ?_
    refine RunCR.regionP ?_
    refine RunL.val (Val.build (parts := []) rfl zero_69 places_69 rfl) rfl rfl rfl ?_
    refine RunL.val (Val.makeInterface rfl noif_69) rfl rfl rfl ?_
    refine RunL.val (Val.build (parts := []) rfl zero_78 places_78 rfl) rfl rfl rfl ?_
    refine RunL.val (Val.makeInterface rfl noif_78) rfl rfl rfl ?_
    refine RunL.new (New.buildSlice (parts := [(0, .tmp 21), (1, .tmp 23)]) rfl sl_90 zero_92 rfl rfl rfl rfl) rfl rfl rfl (fun b24 => ?_)
    refine RunL.val (Val.len_sl rfl sl_90) rfl rfl rfl ?_
    refine RunL.val (Val.pure rfl) rfl rfl rfl ?_
    refine RunL.nil ?_
    refine RunER.next ?_
    refine RunCR.block ?_
    refine RunCR.unroll 2 ?_
    refine RunCR.seq ?_
    refine RunCR.regionP ?_
    refine RunL.val (Val.pure rfl) rfl rfl rfl ?_
    refine RunL.nil ?_
    refine RunER.next ?_
    refine RunCR.seq ?_
    refine RunCR.cond rfl ?_ (fun h => absurd h (by decide))
    intro c0
    clear c0
    refine RunCR.skip ?_
    refine RunER.next ?_
    refine RunCR.seq ?_
    refine RunCR.block ?_
    refine RunCR.seq ?_
    refine RunCR.regionP ?_
    refine RunL.val (Val.indexAddr_sl rfl rfl sl_90 (by omega) (by omega)) rfl rfl rfl ?_
    refine RunL.val (Val.load_one rfl (.tail _ (.tail _ (.tail _ (.head _)))) ty_92 rfl) rfl rfl rfl ?_
    refine RunL.val (Val.pure rfl) rfl rfl rfl ?_
    refine RunL.nil ?_
    refine RunER.next ?_
    refine RunCR.seq ?_
    refine RunCR.regionP ?_
    refine RunL.val (Val.pure rfl) rfl rfl rfl ?_
    refine RunL.val (Val.oload_one rfl hv1_b5 (notin_of rfl hn1_b5) ty_65 rfl) rfl rfl rfl ?_
    refine RunL.val (Val.pure rfl) rfl rfl rfl ?_
    refine RunL.val (Val.load_agg rfl (.tail _ (.tail _ (.head _))) ty_72 rfl) rfl rfl rfl ?_
    refine RunL.callP (isCall_invoke rfl rfl (fun w => meth_69_pairworks_years_answer _ w) ent_125) rfl rfl rfl (fun w hm => yanswerM_calls x.1 b15 _ (farG_ok g x.1) w) ?_
    refine RunL.new (New.alloc zero_64) rfl rfl rfl (fun b12 => ?_)
    refine RunL.sto (Sto.store rfl rfl .here ty_64 rfl rfl) rfl rfl ?_
    refine RunL.nil ?_
    refine RunER.next ?_
    refine RunCR.regionP ?_
    refine RunL.val (Val.pure rfl) rfl rfl rfl ?_
    refine RunL.val (Val.pure rfl) rfl rfl rfl ?_
    refine RunL.andPart (dj := 36) (dp := 39) 3 rfl (fun g36 => by
      have g36' := g36
      try simp only [decide_eq_true_eq, decide_eq_false_iff_not, Bool.not_eq_true', Bool.not_eq_false', Bool.and_eq_true, Bool.or_eq_true, Bool.and_eq_false_iff, Bool.or_eq_false_iff, Int.not_le, Int.not_lt] at g36'
      refine RunL.val (Val.load_agg rfl (.tail _ (.tail _ (.tail _ (.head _)))) ty_64 rfl) rfl rfl rfl ?_
      refine RunL.callP (isCall_func rfl ent_63) rfl rfl rfl (fun w hm => yonly_calls _ w) ?_
      refine RunL.val (Val.pure rfl) rfl rfl rfl ?_
      exact RunL.segEnd (Sub.cons rfl (Sub.skip rfl (Sub.skip rfl (Sub.skip rfl (Sub.same rfl (by rw [g36]) (Sub.refl _)))))) (List.Sublist.refl _)
    ) (fun g36 => by
      have g36' := g36
      try simp only [decide_eq_true_eq, decide_eq_false_iff_not, Bool.not_eq_true', Bool.not_eq_false', Bool.and_eq_true, Bool.or_eq_true, Bool.and_eq_false_iff, Bool.or_eq_false_iff, Int.not_le, Int.not_lt] at g36'
      refine RunL.no rfl rfl rfl ?_
      refine RunL.no rfl rfl rfl ?_
      refine RunL.val (Val.pure rfl) rfl rfl rfl ?_
      exact RunL.segEnd (Sub.cons rfl (Sub.skip rfl (Sub.skip rfl (Sub.skip rfl (Sub.same rfl (by rw [g36]) (Sub.refl _)))))) (List.Sublist.refl _)
    ) ?_
    refine RunL.val (Val.pure rfl) rfl rfl rfl ?_
    refine RunL.val (Val.pure rfl) rfl rfl rfl ?_
    refine RunL.andPart (dj := 41) (dp := 44) 3 rfl (fun g41 => by
      have g41' := g41
      try simp only [decide_eq_true_eq, decide_eq_false_iff_not, Bool.not_eq_true', Bool.not_eq_false', Bool.and_eq_true, Bool.or_eq_true, Bool.and_eq_false_iff, Bool.or_eq_false_iff, Int.not_le, Int.not_lt] at g41'
      refine RunL.val (Val.load_agg rfl (.tail _ (.tail _ (.tail _ (.head _)))) ty_64 rfl) rfl rfl rfl ?_
      refine RunL.callP (isCall_func rfl ent_64) rfl rfl rfl (fun w hm => yhas_calls _ w) ?_
      refine RunL.val (Val.pure rfl) rfl rfl rfl ?_
      exact RunL.segEnd (Sub.cons rfl (Sub.skip rfl (Sub.skip rfl (Sub.skip rfl (Sub.same rfl (by rw [g41]) (Sub.refl _)))))) (List.Sublist.refl _)
    ) (fun g41 => by
      have g41' := g41
      try simp only [decide_eq_true_eq, decide_eq_false_iff_not, Bool.not_eq_true', Bool.not_eq_false', Bool.and_eq_true, Bool.or_eq_true, Bool.and_eq_false_iff, Bool.or_eq_false_iff, Int.not_le, Int.not_lt] at g41'
      refine RunL.no rfl rfl rfl ?_
      refine RunL.no rfl rfl rfl ?_
      refine RunL.val (Val.pure rfl) rfl rfl rfl ?_
      exact RunL.segEnd (Sub.cons rfl (Sub.skip rfl (Sub.skip rfl (Sub.skip rfl (Sub.same rfl (by rw [g41]) (Sub.refl _)))))) (List.Sublist.refl _)
    ) ?_
    refine RunL.val (Val.pure rfl) rfl rfl rfl ?_
    refine RunL.val (Val.pure rfl) rfl rfl rfl ?_
    refine RunL.nil ?_
    refine RunE.block_normal ?_
    refine RunER.next ?_
    refine RunCR.regionP ?_
    refine RunL.val (Val.add rfl rfl (IntWalk.i64_in _ ⟨by decide, by decide⟩)) rfl rfl rfl ?_
    refine RunL.val (Val.pure rfl) rfl rfl rfl ?_
    refine RunL.nil ?_
    refine RunE.keep (Sub.cons (t := 2) rfl (Sub.cons (t := 3) rfl (Sub.cons (t := 4) rfl (Sub.cons (t := 5) rfl (Sub.cons (t := 6) rfl (Sub.cons (t := 7) rfl (Sub.cons (t := 8) rfl (Sub.cons (t := 9) rfl (Sub.cons (t := 24) rfl (Sub.cons (t := 25) rfl (Sub.cons (t := 26) rfl (Sub.nil _)))))))))))) (.cons (.there .here) rfl .nil) ?_
    refine RunER.rounds ?_
    refine RunCR.seq ?_
    refine RunCR.regionP ?_
    refine RunL.val (Val.pure rfl) rfl rfl rfl ?_
    refine RunL.nil ?_
    refine RunER.next ?_
    refine RunCR.seq ?_
    refine RunCR.cond rfl ?_ (fun h => absurd h (by decide))
    intro c0
    clear c0
    refine RunCR.skip ?_
    refine RunER.next ?_
    refine RunCR.seq ?_
    refine RunCR.block ?_
    refine RunCR.seq ?_
    refine RunCR.regionP ?_
    refine RunL.val (Val.indexAddr_sl rfl rfl sl_90 (by omega) (by omega)) rfl rfl rfl ?_
    refine RunL.val (Val.load_one rfl (.tail _ (.tail _ (.tail _ (.head _)))) ty_92 rfl) rfl rfl rfl ?_
    refine RunL.val (Val.pure rfl) rfl rfl rfl ?_
    refine RunL.nil ?_
    refine RunER.next ?_
    refine RunCR.seq ?_
    refine RunCR.regionP ?_
    refine RunL.val (Val.pure rfl) rfl rfl rfl ?_
    refine RunL.val (Val.oload_one rfl hv1_b5 (notin_of rfl hn1_b5) ty_65 rfl) rfl rfl rfl ?_
    refine RunL.val (Val.pure rfl) rfl rfl rfl ?_
    refine RunL.val (Val.load_agg rfl (.tail _ (.tail _ (.head _))) ty_72 rfl) rfl rfl rfl ?_
    refine RunL.callP (isCall_invoke rfl rfl (fun w => meth_78_pairworks_years_answer _ w) ent_126) rfl rfl rfl (fun w hm => yanswerS_calls g a x.1 _ b15 w (hm.old_at hv1_b15 (notin_of rfl hn1_b15)) (hG1 hm rfl) x.2 (farG_ok g x.1)) ?_
    refine RunL.new (New.alloc zero_64) rfl rfl rfl (fun b12 => ?_)
    refine RunL.sto (Sto.store rfl rfl .here ty_64 rfl rfl) rfl rfl ?_
    refine RunL.nil ?_
    refine RunER.next ?_
    refine RunCR.regionP ?_
    refine RunL.val (Val.pure rfl) rfl rfl rfl ?_
    refine RunL.val (Val.pure rfl) rfl rfl rfl ?_
    refine RunL.andPart (dj := 36) (dp := 39) 3 rfl (fun g36 => by
      have g36' := g36
      try simp only [decide_eq_true_eq, decide_eq_false_iff_not, Bool.not_eq_true', Bool.not_eq_false', Bool.and_eq_true, Bool.or_eq_true, Bool.and_eq_false_iff, Bool.or_eq_false_iff, Int.not_le, Int.not_lt] at g36'
      refine RunL.val (Val.load_agg rfl (.tail _ (.tail _ (.tail _ (.head _)))) ty_64 rfl) rfl rfl rfl ?_
      refine RunL.callP (isCall_func rfl ent_63) rfl rfl rfl (fun w hm => yonly_calls _ w) ?_
      refine RunL.val (Val.pure rfl) rfl rfl rfl ?_
      exact RunL.segEnd (Sub.cons rfl (Sub.skip rfl (Sub.skip rfl (Sub.skip rfl (Sub.same rfl (by rw [g36]) (Sub.refl _)))))) (List.Sublist.refl _)
    ) (fun g36 => by
      have g36' := g36
      try simp only [decide_eq_true_eq, decide_eq_false_iff_not, Bool.not_eq_true', Bool.not_eq_false', Bool.and_eq_true, Bool.or_eq_true, Bool.and_eq_false_iff, Bool.or_eq_false_iff, Int.not_le, Int.not_lt] at g36'
      refine RunL.no rfl rfl rfl ?_
      refine RunL.no rfl rfl rfl ?_
      refine RunL.val (Val.pure rfl) rfl rfl rfl ?_
      exact RunL.segEnd (Sub.cons rfl (Sub.skip rfl (Sub.skip rfl (Sub.skip rfl (Sub.same rfl (by rw [g36]) (Sub.refl _)))))) (List.Sublist.refl _)
    ) ?_
    refine RunL.val (Val.pure rfl) rfl rfl rfl ?_
    refine RunL.val (Val.pure rfl) rfl rfl rfl ?_
    refine RunL.andPart (dj := 41) (dp := 44) 3 rfl (fun g41 => by
      have g41' := g41
      try simp only [decide_eq_true_eq, decide_eq_false_iff_not, Bool.not_eq_true', Bool.not_eq_false', Bool.and_eq_true, Bool.or_eq_true, Bool.and_eq_false_iff, Bool.or_eq_false_iff, Int.not_le, Int.not_lt] at g41'
      refine RunL.val (Val.load_agg rfl (.tail _ (.tail _ (.tail _ (.head _)))) ty_64 rfl) rfl rfl rfl ?_
      refine RunL.callP (isCall_func rfl ent_64) rfl rfl rfl (fun w hm => yhas_calls _ w) ?_
      refine RunL.val (Val.pure rfl) rfl rfl rfl ?_
      exact RunL.segEnd (Sub.cons rfl (Sub.skip rfl (Sub.skip rfl (Sub.skip rfl (Sub.same rfl (by rw [g41]) (Sub.refl _)))))) (List.Sublist.refl _)
    ) (fun g41 => by
      have g41' := g41
      try simp only [decide_eq_true_eq, decide_eq_false_iff_not, Bool.not_eq_true', Bool.not_eq_false', Bool.and_eq_true, Bool.or_eq_true, Bool.and_eq_false_iff, Bool.or_eq_false_iff, Int.not_le, Int.not_lt] at g41'
      refine RunL.no rfl rfl rfl ?_
      refine RunL.no rfl rfl rfl ?_
      refine RunL.val (Val.pure rfl) rfl rfl rfl ?_
      exact RunL.segEnd (Sub.cons rfl (Sub.skip rfl (Sub.skip rfl (Sub.skip rfl (Sub.same rfl (by rw [g41]) (Sub.refl _)))))) (List.Sublist.refl _)
    ) ?_
    refine RunL.val (Val.pure rfl) rfl rfl rfl ?_
    refine RunL.val (Val.pure rfl) rfl rfl rfl ?_
    refine RunL.nil ?_
    refine RunE.block_normal ?_
    refine RunER.next ?_
    refine RunCR.regionP ?_
    refine RunL.val (Val.add rfl rfl (IntWalk.i64_in _ ⟨by decide, by decide⟩)) rfl rfl rfl ?_
    refine RunL.val (Val.pure rfl) rfl rfl rfl ?_
    refine RunL.nil ?_
    refine RunE.keep (Sub.cons (t := 2) rfl (Sub.cons (t := 3) rfl (Sub.cons (t := 4) rfl (Sub.cons (t := 5) rfl (Sub.cons (t := 6) rfl (Sub.cons (t := 7) rfl (Sub.cons (t := 8) rfl (Sub.cons (t := 9) rfl (Sub.cons (t := 24) rfl (Sub.cons (t := 25) rfl (Sub.cons (t := 26) rfl (Sub.nil _)))))))))))) (.cons (.there .here) rfl .nil) ?_
    refine RunER.rounds ?_
    refine RunCR.seq ?_
    refine RunCR.regionP ?_
    refine RunL.val (Val.pure rfl) rfl rfl rfl ?_
    refine RunL.nil ?_
    refine RunER.next ?_
    refine RunCR.seq ?_
    refine RunCR.cond rfl (fun h => absurd h (by decide)) ?_
    intro c0
    clear c0
    refine RunCR.exit ?_
    refine RunE.pass_exit ?_
    refine RunE.pass_exit ?_
    refine RunE.block_here ?_
    refine RunER.next ?_
    refine RunCR.seq ?_
    refine RunCR.seq ?_
    refine RunCR.regionP ?_
    refine RunL.val (Val.pure rfl) rfl rfl rfl ?_
    refine RunL.nil ?_
    refine RunER.next ?_
    refine RunCR.cond rfl ?_ ?_
    · intro c1
      have c1' := c1; clear c1
      try simp only [decide_eq_true_eq, decide_eq_false_iff_not, Bool.not_eq_true', Bool.not_eq_false', Bool.and_eq_true, Bool.or_eq_true, Bool.and_eq_false_iff, Bool.or_eq_false_iff, Int.not_le, Int.not_lt] at c1'
      have hs1 : sureB g x.1 = true := by simpa [sureB, mvZ] using c1'
      refine RunCR.draw 3 fol_ (.cons .here rfl .nil) ?_
      refine RunA.val (i := 0) rfl (by kernel_rfl) (by kernel_rfl) (Val.load_one rfl (.head _) ty_3 rfl) rfl rfl rfl (fun _ _ _ h => h) (.cons .here rfl .nil) rfl ?_
      refine RunA.val (i := 1) rfl (by kernel_rfl) (by kernel_rfl) (Val.pure rfl) rfl rfl rfl (fun _ _ _ h => h) (.cons .here rfl .nil) rfl ?_
      refine RunA.val (i := 2) rfl (by kernel_rfl) (by kernel_rfl) (Val.shl1 (b := x.1) rfl rfl (by show x.1 ≤ 64; omega) (i64_inN (n := 2 ^ x.1) (by omega))) rfl rfl rfl (fun _ _ _ h => h) (.cons .here rfl .nil) rfl ?_
      refine RunA.toB (by kernel_rfl) ?_
      refine RunB.one (i := 3) (by kernel_rfl) ?_
      refine RunI.val rfl (Val.or (a := setL (sureB g) (vals pre)) (b := 2 ^ x.1) rfl rfl (by show _ < 18446744073709551616; omega) (by show _ < 18446744073709551616; omega) (i64_inN (by have := or_lt12 hp1 hx12; omega))) rfl rfl rfl (RunK.toB ?_)
      refine RunB.one (i := 4) (by kernel_rfl) ?_
      refine RunI.sto rfl (Sto.store_chg rfl rfl .here ty_3 rfl rfl) rfl rfl (RunK.toB ?_)
      refine RunB.done (by kernel_rfl) ?_
      refine RunER.next ?_
      refine RunCR.seq ?_
      refine RunCR.regionP ?_
      refine RunL.val (Val.pure rfl) rfl rfl rfl ?_
      refine RunL.nil ?_
      refine RunER.next ?_
      refine RunCR.cond rfl ?_ ?_
      · intro c2
        have c2' := c2; clear c2
        try simp only [decide_eq_true_eq, decide_eq_false_iff_not, Bool.not_eq_true', Bool.not_eq_false', Bool.and_eq_true, Bool.or_eq_true, Bool.and_eq_false_iff, Bool.or_eq_false_iff, Int.not_le, Int.not_lt] at c2'
        have hs2 : canB g x.1 = true := by simpa [canB, mvZ] using c2'
        refine RunCR.draw 3 fol_ (.cons .here rfl .nil) ?_
        refine RunA.val (i := 0) rfl (by kernel_rfl) (by kernel_rfl) (Val.load_one rfl (.tail _ (.head _)) ty_3 rfl) rfl rfl rfl (fun _ _ _ h => h) (.cons .here rfl .nil) rfl ?_
        refine RunA.val (i := 1) rfl (by kernel_rfl) (by kernel_rfl) (Val.pure rfl) rfl rfl rfl (fun _ _ _ h => h) (.cons .here rfl .nil) rfl ?_
        refine RunA.val (i := 2) rfl (by kernel_rfl) (by kernel_rfl) (Val.shl1 (b := x.1) rfl rfl (by show x.1 ≤ 64; omega) (i64_inN (n := 2 ^ x.1) (by omega))) rfl rfl rfl (fun _ _ _ h => h) (.cons .here rfl .nil) rfl ?_
        refine RunA.toB (by kernel_rfl) ?_
        refine RunB.one (i := 3) (by kernel_rfl) ?_
        refine RunI.val rfl (Val.or (a := setL (canB g) (vals pre)) (b := 2 ^ x.1) rfl rfl (by show _ < 18446744073709551616; omega) (by show _ < 18446744073709551616; omega) (i64_inN (by have := or_lt12 hp2 hx12; omega))) rfl rfl rfl (RunK.toB ?_)
        refine RunB.one (i := 4) (by kernel_rfl) ?_
        refine RunI.sto rfl (Sto.store_chg rfl rfl (.there .here) ty_3 rfl rfl) rfl rfl (RunK.toB ?_)
        refine RunB.done (by kernel_rfl) ?_
        refine RunE.block_normal ?_
        exact RunE.bodyX [(y, _)] (by simp only [vals_snoc, setL_snoc, hs1, hs2, if_true, if_false, Bool.false_eq_true]; rfl)
      · intro c2
        have c2' := c2; clear c2
        try simp only [decide_eq_true_eq, decide_eq_false_iff_not, Bool.not_eq_true', Bool.not_eq_false', Bool.and_eq_true, Bool.or_eq_true, Bool.and_eq_false_iff, Bool.or_eq_false_iff, Int.not_le, Int.not_lt] at c2'
        have hs2 : canB g x.1 = false := by
          cases hh : canB g x.1 with
          | false => rfl
          | true =>
            exfalso
            simp only [canB, mvZ, Bool.and_eq_true] at hh
            simp [hh.1, hh.2] at c2'
        refine RunCR.skip ?_
        refine RunE.block_normal ?_
        exact RunE.bodyX [(y, _)] (by simp only [vals_snoc, setL_snoc, hs1, hs2, if_true, if_false, Bool.false_eq_true]; rfl)
    · intro c1
      have c1' := c1; clear c1
      try simp only [decide_eq_true_eq, decide_eq_false_iff_not, Bool.not_eq_true', Bool.not_eq_false', Bool.and_eq_true, Bool.or_eq_true, Bool.and_eq_false_iff, Bool.or_eq_false_iff, Int.not_le, Int.not_lt] at c1'
      have hs1 : sureB g x.1 = false := by
        cases hh : sureB g x.1 with
        | false => rfl
        | true =>
          exfalso
          simp only [sureB, mvZ, Bool.and_eq_true] at hh
          simp [hh.1, hh.2] at c1'
      refine RunCR.skip ?_
      refine RunER.next ?_
      refine RunCR.seq ?_
      refine RunCR.regionP ?_
      refine RunL.val (Val.pure rfl) rfl rfl rfl ?_
      refine RunL.nil ?_
      refine RunER.next ?_
      refine RunCR.cond rfl ?_ ?_
      · intro c2
        have c2' := c2; clear c2
        try simp only [decide_eq_true_eq, decide_eq_false_iff_not, Bool.not_eq_true', Bool.not_eq_false', Bool.and_eq_true, Bool.or_eq_true, Bool.and_eq_false_iff, Bool.or_eq_false_iff, Int.not_le, Int.not_lt] at c2'
        have hs2 : canB g x.1 = true := by simpa [canB, mvZ] using c2'
        refine RunCR.draw 3 fol_ (.cons .here rfl .nil) ?_
        refine RunA.val (i := 0) rfl (by kernel_rfl) (by kernel_rfl) (Val.load_one rfl (.tail _ (.head _)) ty_3 rfl) rfl rfl rfl (fun _ _ _ h => h) (.cons .here rfl .nil) rfl ?_
        refine RunA.val (i := 1) rfl (by kernel_rfl) (by kernel_rfl) (Val.pure rfl) rfl rfl rfl (fun _ _ _ h => h) (.cons .here rfl .nil) rfl ?_
        refine RunA.val (i := 2) rfl (by kernel_rfl) (by kernel_rfl) (Val.shl1 (b := x.1) rfl rfl (by show x.1 ≤ 64; omega) (i64_inN (n := 2 ^ x.1) (by omega))) rfl rfl rfl (fun _ _ _ h => h) (.cons .here rfl .nil) rfl ?_
        refine RunA.toB (by kernel_rfl) ?_
        refine RunB.one (i := 3) (by kernel_rfl) ?_
        refine RunI.val rfl (Val.or (a := setL (canB g) (vals pre)) (b := 2 ^ x.1) rfl rfl (by show _ < 18446744073709551616; omega) (by show _ < 18446744073709551616; omega) (i64_inN (by have := or_lt12 hp2 hx12; omega))) rfl rfl rfl (RunK.toB ?_)
        refine RunB.one (i := 4) (by kernel_rfl) ?_
        refine RunI.sto rfl (Sto.store_chg rfl rfl (.there .here) ty_3 rfl rfl) rfl rfl (RunK.toB ?_)
        refine RunB.done (by kernel_rfl) ?_
        refine RunE.block_normal ?_
        exact RunE.bodyX [(y, _)] (by simp only [vals_snoc, setL_snoc, hs1, hs2, if_true, if_false, Bool.false_eq_true]; rfl)
      · intro c2
        have c2' := c2; clear c2
        try simp only [decide_eq_true_eq, decide_eq_false_iff_not, Bool.not_eq_true', Bool.not_eq_false', Bool.and_eq_true, Bool.or_eq_true, Bool.and_eq_false_iff, Bool.or_eq_false_iff, Int.not_le, Int.not_lt] at c2'
        have hs2 : canB g x.1 = false := by
          cases hh : canB g x.1 with
          | false => rfl
          | true =>
            exfalso
            simp only [canB, mvZ, Bool.and_eq_true] at hh
            simp [hh.1, hh.2] at c2'
        refine RunCR.skip ?_
        refine RunE.block_normal ?_
        exact RunE.bodyX [(y, _)] (by simp only [vals_snoc, setL_snoc, hs1, hs2, if_true, if_false, Bool.false_eq_true]; rfl)
  · intro xs bD0 hXS
    obtain rfl := hXS
    rw [seenA_vals]
    refine RunE.block_normal ?_
    refine RunE.next ?_
    refine RunC.seq ?_
    refine RunC.drawN 3 fol_ (.cons .here rfl (.cons (.there .here) rfl (.cons (.there .here) rfl (.cons (.there .here) rfl (.cons (.there .here) rfl (.cons (.there .here) rfl (.cons (.there .here) rfl .nil))))))) ?_
    refine RunA.val (i := 1) rfl (by kernel_rfl) (by kernel_rfl) (Val.load_one rfl (.tail _ (.head _)) ty_3 rfl) rfl rfl rfl (fun _ _ _ h => h) (.cons .here rfl (.cons (.there .here) rfl (.cons (.there .here) rfl (.cons (.there .here) rfl (.cons (.there .here) rfl (.cons (.there .here) rfl (.cons (.there .here) rfl .nil))))))) rfl ?_
    refine RunA.one (i := 0) (by kernel_rfl) (by kernel_rfl) ?_
    refine RunI.val rfl (Val.load_one rfl (.tail _ (.head _)) ty_3 rfl) rfl rfl rfl (RunK.toA (.cons .here rfl (.cons (.there .here) rfl (.cons (.there .here) rfl (.cons (.there .here) rfl (.cons (.there .here) rfl (.cons (.there .here) rfl (.cons (.there .here) rfl .nil))))))) (.cons .here rfl (.cons .here rfl (.cons .here rfl (.cons .here rfl (.cons .here rfl (.cons .here rfl (.cons .here rfl .nil))))))) rfl ?_)
    refine RunA.one (i := 2) (by kernel_rfl) (by kernel_rfl) ?_
    refine RunI.sto rfl (Sto.store rfl rfl (.there .here) ty_3 rfl rfl) rfl rfl (RunK.toA (.cons .here rfl (.cons (.there .here) rfl (.cons (.there .here) rfl (.cons (.there .here) rfl (.cons (.there .here) rfl (.cons (.there .here) rfl (.cons (.there .here) rfl .nil))))))) (.cons .here rfl (.cons .here rfl (.cons .here rfl (.cons .here rfl (.cons .here rfl (.cons .here rfl (.cons .here rfl .nil))))))) rfl ?_)
    refine RunA.toB (by kernel_rfl) ?_
    refine RunB.one (i := 3) (by kernel_rfl) ?_
    refine RunI.sto rfl (Sto.store rfl rfl (.there (.there .here)) ty_3 rfl rfl) rfl rfl (RunK.toB ?_)
    refine RunB.one (i := 4) (by kernel_rfl) ?_
    refine RunI.sto rfl (Sto.store rfl rfl (.there (.there (.there (.there (.there (.there .here)))))) ty_31 rfl rfl) rfl rfl (RunK.toB ?_)
    refine RunB.done (by kernel_rfl) ?_
    refine RunE.noPan ?_
    refine RunE.next ?_
    refine RunC.ret ?_
    exact RunE.outMC [bD0] yStays_catches ent_62 (.cons .here rfl (.cons .here rfl (.cons .here rfl (.cons .here rfl (.cons .here rfl (.cons .here rfl (.cons .here rfl (.cons .here rfl .nil)))))))) (.r3 rfl (.one rfl (.head _) ty_3 rfl) (.one rfl (.tail _ (.head _)) ty_3 rfl) (.one rfl (.tail _ (.tail _ (.tail _ (.tail _ (.tail _ (.head _)))))) ty_31 rfl)) (out_pure (by simp only [gStays, ha15]; rfl))
  · intro c pre V' bD0 hSp hNm hSt
    exact hSt.elim
end Go.Proofs.Ytjijeeadmhpfcaa
/- Walk of package years: Fastest. -/
set_option linter.unusedSimpArgs false
set_option linter.unusedVariables false
namespace Go.Proofs.Ytjijeeadmhpfcaa
open Go Go.Eng Go.Pw1

theorem yFastest_calls (g : Gl) (a : Ga) (W : World) (hG : GIn W g a) : Calls Try.prog 25 #[g.v a] W (Pure (.tuple #[.int .i64 (gFastest g).1, .int .i64 (gFastest g).2]) W) := by
  refine calls_start_marks Try.func25 rfl rfl ?_
  refine RunC.seq ?_
  refine RunC.region ?_
  refine RunL.new (New.box rfl) rfl rfl rfl (fun b1 => ?_)
  refine RunL.new (New.alloc zero_3) rfl rfl rfl (fun b2 => ?_)
  refine RunL.new (New.alloc zero_31) rfl rfl rfl (fun b3 => ?_)
  refine RunL.nil ?_
  refine RunE.next ?_
  refine RunC.seq ?_
  refine RunC.region ?_
  refine RunL.val (Val.pure rfl) rfl rfl rfl ?_
  refine RunL.deferC rfl ?_
  refine RunL.nil ?_
  refine RunE.next ?_
  refine RunC.seq ?_
  refine RunC.region ?_
  refine RunL.val (Val.load_agg rfl (.tail _ (.tail _ (.head _))) ty_28 rfl) rfl rfl rfl ?_
  refine RunL.callTN (isCall_func rfl ent_35) rfl rfl rfl (fun w hm => yopen_calls g a _ w (hG.mono hm)) (fun e15 he15 => ?_) (fun a15 ha15 b15 => ?_)
  · refine RunE.pass_panic ?_
    exact RunE.panMC yFastest_catches ent_65 .here (.r2 rfl (.one rfl (.tail _ (.head _)) ty_3 rfl) (.one rfl (.head _) ty_31 rfl)) (by simp [gFastest, he15])
  obtain ⟨hpf, hps, hll⟩ := openG_pairs ha15
  have hlen := hpf.len
  refine RunL.val (Val.pure rfl) rfl rfl rfl ?_
  refine RunL.nil ?_
  refine RunE.next ?_
  refine RunC.seq ?_
  refine RunC.region ?_
  refine RunL.new (New.alloc zero_3) rfl rfl rfl (fun b5 => ?_)
  refine RunL.new (New.alloc zero_4) rfl rfl rfl (fun b6 => ?_)
  refine RunL.sto (Sto.store rfl rfl (.there .here) ty_3 rfl rfl) rfl rfl ?_
  refine RunL.sto (Sto.store rfl rfl .here ty_4 rfl rfl) rfl rfl ?_
  refine RunL.nil ?_
  refine RunE.next ?_
  refine RunC.seq ?_
  refine RunC.seq ?_
  refine RunC.region ?_
  refine RunL.val (Val.pure rfl) rfl rfl rfl ?_
  refine RunL.callN (isCall_func rfl ent_56) rfl rfl rfl (fun w hm => yseen_calls b15 w) (fun b17 => ?_)
  refine RunL.nil ?_
  refine RunE.next ?_
  refine RunC.block ?_
  refine RunC.rangeH (α := Sn g) (Y := Nat) (N := 100) (S := fun xs => xs = seenA g g.f.things.length) (Sp := fun _ => True) [(b17, _), (b15, _), (b3, _), (b2, _), (b1, _)] (fun x => [.int .i64 (x.1 : Int), z2v (farG g x.1)]) (fun pre => [(b5, .cells [.int .i64 (leastF g (vals pre)).1].toArray 3 (0, 0)), (b6, .cells [.bool (leastF g (vals pre)).2].toArray 4 (0, 0))]) (fun x y q => (8, .pointer (some ⟨y, 0, none⟩)) :: q) (fun x y => [(y, .cells (z2c (farG g x.1)).toArray 72 (0, 0))]) (fun _ _ _ => False) (Sub.cons (t := 2) rfl (Sub.cons (t := 4) rfl (Sub.cons (t := 5) rfl (Sub.cons (t := 6) rfl (Sub.nil _))))) (.cons (.there (.there .here)) rfl (.cons (.there .here) rfl (.cons .here rfl (.cons .here rfl (.cons .here rfl (.cons .here rfl (.cons .here rfl .nil))))))) (fun _ => rfl) (fun _ _ _ hb => by simp only [List.mem_cons, List.not_mem_nil, or_false, Prod.mk.injEq] at hb; rcases hb with ⟨_, rfl⟩ | ⟨_, rfl⟩ <;> rfl) (fun _ _ _ _ hb => by simp only [List.mem_cons, List.not_mem_nil, or_false, Prod.mk.injEq] at hb; obtain ⟨_, rfl⟩ := hb; rfl) (fun _ => rfl) rfl rfl ent_81 (fun w hm => seen_stops g a b15 b17 w _ hlen ⟨hm.at (.tail _ (.tail _ (.tail _ (.head _)))), hm.at (.tail _ (.tail _ (.head _))), hG.mono hm⟩ ⟨hm.apart (.tail _ (.head _)), hm.apart (.head _), fun hx => hm.oldApart (hG.s1.lt0 (by decide) hx), fun hx => hm.oldApart (hG.s2.lt0 (by decide) hx)⟩) ?_ ?_ ?_ ?_
  · intro l1 pre x V1 hV1
    refine RunCR.regionP ?_
    refine RunL.new (New.alloc zero_72) rfl rfl rfl (fun b8 => ?_)
    refine RunL.sto (Sto.store rfl rfl .here ty_72 rfl rfl) rfl rfl ?_
    refine RunL.nil ?_
    exact RunE.asg b8 rfl (Sub.consE (t := 8) rfl rfl (Sub.cons (t := 2) rfl (Sub.cons (t := 4) rfl (Sub.cons (t := 5) rfl (Sub.cons (t := 6) rfl (Sub.nil _)))))) (.cons .here rfl .nil)
  · intro l1 pre x y W1 hlen1 hI1 hL1 hAp1
    have hv1_b17 := hI1.at (.tail _ (.tail _ (.head _)))
    have hn1_b17 := hAp1 _ (.inl ⟨_, (.head _)⟩)
    have hv1_b15 := hI1.at (.tail _ (.tail _ (.tail _ (.head _))))
    have hn1_b15 := hAp1 _ (.inl ⟨_, (.tail _ (.head _))⟩)
    have hv1_b3 := hI1.at (.tail _ (.tail _ (.tail _ (.tail _ (.head _)))))
    have hn1_b3 := hAp1 _ (.inl ⟨_, (.tail _ (.tail _ (.head _)))⟩)
    have hv1_b2 := hI1.at (.tail _ (.tail _ (.tail _ (.tail _ (.tail _ (.head _))))))
    have hn1_b2 := hAp1 _ (.inl ⟨_, (.tail _ (.tail _ (.tail _ (.head _))))⟩)
    have hv1_b1 := hI1.at (.tail _ (.tail _ (.tail _ (.tail _ (.tail _ (.tail _ (.head _)))))))
    have hn1_b1 := hAp1 _ (.inl ⟨_, (.tail _ (.tail _ (.tail _ (.tail _ (.head _)))))⟩)
    obtain ⟨hz1, hz2, hz3, hz4⟩ := farG_ok g x.1
    refine RunCR.block ?_
    refine RunCR.seq ?_
    refine RunCR.regionP ?_
    refine RunL.val (Val.indexAddr_arr rfl rfl arr_72 (by decide) (by decide)) rfl rfl rfl ?_
    refine RunL.val (Val.load_agg rfl (.tail _ (.tail _ (.head _))) ty_64 rfl) rfl rfl rfl ?_
    refine RunL.val (Val.pure rfl) rfl rfl rfl ?_
    refine RunL.val (Val.pure rfl) rfl rfl rfl ?_
    refine RunL.nil ?_
    refine RunER.next ?_
    refine RunCR.seq ?_
    refine RunCR.regionP ?_
    refine RunL.val (Val.pure rfl) rfl rfl rfl ?_
    refine RunL.val (Val.indexAddr_arr rfl rfl arr_72 (by decide) (by decide)) rfl rfl rfl ?_
    refine RunL.val (Val.load_agg rfl (.tail _ (.tail _ (.head _))) ty_64 rfl) rfl rfl rfl ?_
    refine RunL.callP (isCall_value rfl rfl ent_57) rfl rfl rfl (fun w hm => yless_calls (farG g x.1).2 (farG g x.1).1 (by omega) w) ?_
    refine RunL.new (New.alloc zero_64) rfl rfl rfl (fun b10 => ?_)
    refine RunL.sto (Sto.store rfl rfl .here ty_64 rfl rfl) rfl rfl ?_
    refine RunL.nil ?_
    refine RunER.next ?_
    refine RunCR.seq ?_
    refine RunCR.regionP ?_
    refine RunL.val (Val.load_one rfl (.tail _ (.head _)) ty_4 rfl) rfl rfl rfl ?_
    refine RunL.val (Val.pure rfl) rfl rfl rfl ?_
    refine RunL.val (Val.pure rfl) rfl rfl rfl ?_
    refine RunL.orPart (dj := 29) (dp := 34) 5 rfl (fun g29 => by
      have g29' := g29
      try simp only [decide_eq_true_eq, decide_eq_false_iff_not, Bool.not_eq_true', Bool.not_eq_false', Bool.and_eq_true, Bool.or_eq_true, Bool.and_eq_false_iff, Bool.or_eq_false_iff, Int.not_le, Int.not_lt] at g29'
      refine RunL.val (Val.fieldAddr rfl fld_64_1) rfl rfl rfl ?_
      refine RunL.val (Val.load_one rfl (.tail _ (.tail _ (.tail _ (.head _)))) ty_3 rfl) rfl rfl rfl ?_
      refine RunL.val (Val.load_one rfl (.head _) ty_3 rfl) rfl rfl rfl ?_
      refine RunL.val (Val.pure rfl) rfl rfl rfl ?_
      refine RunL.val (Val.pure rfl) rfl rfl rfl ?_
      exact RunL.segEnd (Sub.cons rfl (Sub.skip rfl (Sub.skip rfl (Sub.skip rfl (Sub.skip rfl (Sub.skip rfl (Sub.same rfl (by rw [g29]) (Sub.refl _)))))))) (List.Sublist.refl _)
    ) (fun g29 => by
      have g29' := g29
      try simp only [decide_eq_true_eq, decide_eq_false_iff_not, Bool.not_eq_true', Bool.not_eq_false', Bool.and_eq_true, Bool.or_eq_true, Bool.and_eq_false_iff, Bool.or_eq_false_iff, Int.not_le, Int.not_lt] at g29'
      iterate 4 refine RunL.no rfl rfl rfl ?_
      refine RunL.val (Val.pure rfl) rfl rfl rfl ?_
      exact RunL.segEnd (Sub.cons rfl (Sub.skip rfl (Sub.skip rfl (Sub.skip rfl (Sub.skip rfl (Sub.skip rfl (Sub.same rfl (by rw [g29]) (Sub.refl _)))))))) (List.Sublist.refl _)
    ) ?_
    refine RunL.nil ?_
    refine RunER.next ?_
    refine RunCR.cond rfl ?_ ?_
    · intro c0
      have c0' := c0; clear c0
      try simp only [decide_eq_true_eq, decide_eq_false_iff_not, Bool.not_eq_true', Bool.not_eq_false', Bool.and_eq_true, Bool.or_eq_true, Bool.and_eq_false_iff, Bool.or_eq_false_iff, Int.not_le, Int.not_lt] at c0'
      have hs0 : (!(leastF g (vals pre)).2 || decide ((mvZ g x.1).2 < (leastF g (vals pre)).1)) = true := by
        simp only [Bool.or_eq_true, Bool.not_eq_true', decide_eq_true_eq]; exact c0'
      refine RunCR.regionP ?_
      refine RunL.val (Val.fieldAddr rfl fld_64_1) rfl rfl rfl ?_
      refine RunL.val (Val.load_one rfl (.tail _ (.tail _ (.tail _ (.head _)))) ty_3 rfl) rfl rfl rfl ?_
      refine RunL.sto (Sto.store_chg rfl rfl .here ty_3 rfl rfl) rfl rfl ?_
      refine RunL.sto (Sto.store_chg rfl rfl (.there .here) ty_4 rfl rfl) rfl rfl ?_
      refine RunL.nil ?_
      refine RunE.block_normal ?_
      exact RunE.bodyX [(y, _)] (by simp only [vals_snoc, leastF_snoc, hs0, if_true, if_false, Bool.false_eq_true]; rfl)
    · intro c0
      have c0' := c0; clear c0
      try simp only [decide_eq_true_eq, decide_eq_false_iff_not, Bool.not_eq_true', Bool.not_eq_false', Bool.and_eq_true, Bool.or_eq_true, Bool.and_eq_false_iff, Bool.or_eq_false_iff, Int.not_le, Int.not_lt] at c0'
      have hs0 : (!(leastF g (vals pre)).2 || decide ((mvZ g x.1).2 < (leastF g (vals pre)).1)) = false := by
        simp only [Bool.or_eq_false_iff, Bool.not_eq_false', decide_eq_false_iff_not]; exact ⟨c0'.1, Int.not_lt.2 c0'.2⟩
      refine RunCR.skip ?_
      refine RunE.block_normal ?_
      exact RunE.bodyX [(y, _)] (by simp only [vals_snoc, leastF_snoc, hs0, if_true, if_false, Bool.false_eq_true]; rfl)
  · intro xs bD0 hXS
    obtain rfl := hXS
    rw [show vals (seenA g g.f.things.length) = seenL g from seenA_vals g _]
    refine RunE.block_normal ?_
    refine RunE.next ?_
    refine RunC.seq ?_
    refine RunC.seq ?_
    refine RunC.region ?_
    refine RunL.val (Val.pure rfl) rfl rfl rfl ?_
    refine RunL.callN (isCall_func rfl ent_56) rfl rfl rfl (fun w hm => yseen_calls b15 w) (fun b38 => ?_)
    refine RunL.nil ?_
    refine RunE.next ?_
    refine RunC.block ?_
    refine RunC.rangeH (α := Sn g) (Y := Nat) (N := 100) (S := fun xs => xs = seenA g g.f.things.length) (Sp := fun _ => True) [(b38, _), (bD0, _), (b5, _), (b6, _), (b17, _), (b15, _), (b3, _), (b1, _)] (fun x => [.int .i64 (x.1 : Int), z2v (farG g x.1)]) (fun pre => [(b2, .cells [.int .i64 ((setL (fun i => decide ((mvZ g i).1 ≤ (leastF g (seenL g)).1)) (vals pre) : Nat) : Int)].toArray 3 (0, 0))]) (fun x y q => (11, .int .i64 (x.1 : Int)) :: (12, .pointer (some ⟨y, 0, none⟩)) :: q) (fun x y => [(y, .cells (z2c (farG g x.1)).toArray 72 (0, 0))]) (fun _ _ _ => False) (Sub.cons (t := 2) rfl (Sub.cons (t := 4) rfl (Sub.cons (t := 5) rfl (Sub.nil _)))) (.cons (.there (.there (.there (.there (.there (.there (.there .here))))))) rfl (.cons .here rfl (.cons .here rfl (.cons .here rfl (.cons .here rfl (.cons .here rfl (.cons .here rfl (.cons .here rfl (.cons .here rfl .nil))))))))) (fun _ => rfl) (fun _ _ _ hb => by simp only [List.mem_cons, List.not_mem_nil, or_false, Prod.mk.injEq] at hb; obtain ⟨_, rfl⟩ := hb; rfl) (fun _ _ _ _ hb => by simp only [List.mem_cons, List.not_mem_nil, or_false, Prod.mk.injEq] at hb; obtain ⟨_, rfl⟩ := hb; rfl) (fun _ => rfl) rfl rfl ent_81 (fun w hm => seen_stops g a b15 b38 w _ hlen ⟨hm.at (.tail _ (.tail _ (.tail _ (.tail _ (.tail _ (.tail _ (.head _))))))), hm.at (.tail _ (.head _)), hG.mono hm⟩ ⟨hm.apart (.tail _ (.tail _ (.tail _ (.tail _ (.tail _ (.head _)))))), hm.apart (.head _), fun hx => hm.oldApart (hG.s1.lt0 (by decide) hx), fun hx => hm.oldApart (hG.s2.lt0 (by decide) hx)⟩) ?_ ?_ ?_ ?_
    · intro l1 pre x V1 hV1
      refine RunCR.seq ?_
      refine RunCR.regionP ?_
      refine RunL.val (Val.pure rfl) rfl rfl rfl ?_
      refine RunL.nil ?_
      refine RunER.next ?_
      refine RunCR.regionP ?_
      refine RunL.new (New.alloc zero_72) rfl rfl rfl (fun b12 => ?_)
      refine RunL.sto (Sto.store rfl rfl .here ty_72 rfl rfl) rfl rfl ?_
      refine RunL.nil ?_
      exact RunE.asg b12 rfl (Sub.consE (t := 11) rfl rfl (Sub.consE (t := 12) rfl rfl (Sub.cons (t := 2) rfl (Sub.cons (t := 4) rfl (Sub.cons (t := 5) rfl (Sub.nil _)))))) (.cons .here rfl .nil)
    · intro l1 pre x y W1 hlen1 hI1 hL1 hAp1
      have hv1_b38 := hI1.at (.tail _ (.head _))
      have hn1_b38 := hAp1 _ (.inl ⟨_, (.head _)⟩)
      have hv1_bD0 := hI1.at (.tail _ (.tail _ (.head _)))
      have hn1_bD0 := hAp1 _ (.inl ⟨_, (.tail _ (.head _))⟩)
      have hv1_b5 := hI1.at (.tail _ (.tail _ (.tail _ (.head _))))
      have hn1_b5 := hAp1 _ (.inl ⟨_, (.tail _ (.tail _ (.head _)))⟩)
      have hv1_b6 := hI1.at (.tail _ (.tail _ (.tail _ (.tail _ (.head _)))))
      have hn1_b6 := hAp1 _ (.inl ⟨_, (.tail _ (.tail _ (.tail _ (.head _))))⟩)
      have hv1_b17 := hI1.at (.tail _ (.tail _ (.tail _ (.tail _ (.tail _ (.head _))))))
      have hn1_b17 := hAp1 _ (.inl ⟨_, (.tail _ (.tail _ (.tail _ (.tail _ (.head _)))))⟩)
      have hv1_b15 := hI1.at (.tail _ (.tail _ (.tail _ (.tail _ (.tail _ (.tail _ (.head _)))))))
      have hn1_b15 := hAp1 _ (.inl ⟨_, (.tail _ (.tail _ (.tail _ (.tail _ (.tail _ (.head _))))))⟩)
      have hv1_b3 := hI1.at (.tail _ (.tail _ (.tail _ (.tail _ (.tail _ (.tail _ (.tail _ (.head _))))))))
      have hn1_b3 := hAp1 _ (.inl ⟨_, (.tail _ (.tail _ (.tail _ (.tail _ (.tail _ (.tail _ (.head _)))))))⟩)
      have hv1_b1 := hI1.at (.tail _ (.tail _ (.tail _ (.tail _ (.tail _ (.tail _ (.tail _ (.tail _ (.head _)))))))))
      have hn1_b1 := hAp1 _ (.inl ⟨_, (.tail _ (.tail _ (.tail _ (.tail _ (.tail _ (.tail _ (.tail _ (.head _))))))))⟩)
      obtain ⟨hz1, hz2, hz3, hz4⟩ := farG_ok g x.1
      have hx12 := sn_lt hlen x
      have hp1 := setL_lt12 (p := fun i => decide ((mvZ g i).1 ≤ (leastF g (seenL g)).1)) hlen pre
      have h2x : 2 ^ x.1 < 2 ^ 12 := Nat.pow_lt_pow_right (by decide) hx12
      refine RunCR.block ?_
      refine RunCR.seq ?_
      refine RunCR.draw 7 fol_ .nil ?_
      refine RunA.val (i := 0) rfl (by kernel_rfl) (by kernel_rfl) (Val.indexAddr_arr rfl rfl arr_72 (by decide) (by decide)) rfl rfl rfl (fun _ _ _ h => h) .nil rfl ?_
      refine RunA.val (i := 1) rfl (by kernel_rfl) (by kernel_rfl) (Val.load_agg rfl (.tail _ (.head _)) ty_64 rfl) rfl rfl rfl (fun _ _ _ h => h) .nil rfl ?_
      refine RunA.val (i := 2) rfl (by kernel_rfl) (by kernel_rfl) (Val.indexAddr_arr rfl rfl arr_72 (by decide) (by decide)) rfl rfl rfl (fun _ _ _ h => h) .nil rfl ?_
      refine RunA.val (i := 3) rfl (by kernel_rfl) (by kernel_rfl) (Val.load_agg rfl (.tail _ (.head _)) ty_64 rfl) rfl rfl rfl (fun _ _ _ h => h) .nil rfl ?_
      refine RunA.val (i := 6) rfl (by kernel_rfl) (by kernel_rfl) (Val.oload_one rfl hv1_b5 (notin_of rfl hn1_b5) ty_3 rfl) rfl rfl rfl (fun _ _ _ h => h) .nil rfl ?_
      refine RunA.one (i := 4) (by kernel_rfl) (by kernel_rfl) ?_
      refine RunI.callP rfl (isCall_func rfl ent_57) rfl rfl rfl (fun w hm => yless_calls (farG g x.1).2 (farG g x.1).1 (by omega) w) (RunK.toA .nil .nil rfl ?_)
      refine RunA.val (i := 5) rfl (by kernel_rfl) (by kernel_rfl) (Val.field rfl field1_64_0 rfl) rfl rfl rfl (fun _ _ _ h => h) .nil rfl ?_
      refine RunA.toB (by kernel_rfl) ?_
      refine RunB.one (i := 7) (by kernel_rfl) ?_
      refine RunI.val rfl (Val.pure rfl) rfl rfl rfl (RunK.toB ?_)
      refine RunB.done (by kernel_rfl) ?_
      refine RunER.next ?_
      refine RunCR.cond rfl ?_ ?_
      · intro c1
        have c1' := c1; clear c1
        try simp only [decide_eq_true_eq, decide_eq_false_iff_not, Bool.not_eq_true', Bool.not_eq_false', Bool.and_eq_true, Bool.or_eq_true, Bool.and_eq_false_iff, Bool.or_eq_false_iff, Int.not_le, Int.not_lt] at c1'
        have hs1 : decide ((mvZ g x.1).1 ≤ (leastF g (seenL g)).1) = true := decide_eq_true c1'
        refine RunCR.draw 3 fol_ .nil ?_
        refine RunA.val (i := 0) rfl (by kernel_rfl) (by kernel_rfl) (Val.load_one rfl (.head _) ty_3 rfl) rfl rfl rfl (fun _ _ _ h => h) .nil rfl ?_
        refine RunA.val (i := 1) rfl (by kernel_rfl) (by kernel_rfl) (Val.pure rfl) rfl rfl rfl (fun _ _ _ h => h) .nil rfl ?_
        refine RunA.val (i := 2) rfl (by kernel_rfl) (by kernel_rfl) (Val.shl1 (b := x.1) rfl rfl (by show x.1 ≤ 64; omega) (i64_inN (n := 2 ^ x.1) (by omega))) rfl rfl rfl (fun _ _ _ h => h) .nil rfl ?_
        refine RunA.toB (by kernel_rfl) ?_
        refine RunB.one (i := 3) (by kernel_rfl) ?_
        refine RunI.val rfl (Val.or (a := setL _ (vals pre)) (b := 2 ^ x.1) rfl rfl (by show _ < 18446744073709551616; omega) (by show _ < 18446744073709551616; omega) (i64_inN (Nat.lt_trans (or_lt12 hp1 hx12) (by decide)))) rfl rfl rfl (RunK.toB ?_)
        refine RunB.one (i := 4) (by kernel_rfl) ?_
        refine RunI.sto rfl (Sto.store_chg rfl rfl .here ty_3 rfl rfl) rfl rfl (RunK.toB ?_)
        refine RunB.done (by kernel_rfl) ?_
        refine RunE.block_normal ?_
        exact RunE.bodyX [(y, _)] (by simp only [vals_snoc, setL_snoc, hs1, if_true, if_false, Bool.false_eq_true]; rfl)
      · intro c1
        have c1' := c1; clear c1
        try simp only [decide_eq_true_eq, decide_eq_false_iff_not, Bool.not_eq_true', Bool.not_eq_false', Bool.and_eq_true, Bool.or_eq_true, Bool.and_eq_false_iff, Bool.or_eq_false_iff, Int.not_le, Int.not_lt] at c1'
        have hs1 : decide ((mvZ g x.1).1 ≤ (leastF g (seenL g)).1) = false := decide_eq_false (Int.not_le.2 c1')
        refine RunCR.skip ?_
        refine RunE.block_normal ?_
        exact RunE.bodyX [(y, _)] (by simp only [vals_snoc, setL_snoc, hs1, if_true, if_false, Bool.false_eq_true]; rfl)
    · intro xs bD1 hXS
      obtain rfl := hXS
      rw [show vals (seenA g g.f.things.length) = seenL g from seenA_vals g _]
      refine RunE.block_normal ?_
      refine RunE.next ?_
      refine RunC.seq ?_
      refine RunC.region ?_
      refine RunL.val (Val.load_one rfl (.tail _ (.head _)) ty_3 rfl) rfl rfl rfl ?_
      refine RunL.sto (Sto.store rfl rfl (.there .here) ty_3 rfl rfl) rfl rfl ?_
      refine RunL.sto (Sto.store rfl rfl (.there (.there (.there (.there (.there (.there (.there (.there .here)))))))) ty_31 rfl rfl) rfl rfl ?_
      refine RunL.nil ?_
      refine RunE.next ?_
      refine RunC.ret ?_
      exact RunE.outMC [bD1, bD0] yFastest_catches ent_65 (.cons .here rfl (.cons (.there (.there .here)) rfl (.cons .here rfl (.cons .here rfl (.cons .here rfl (.cons .here rfl (.cons .here rfl (.cons .here rfl (.cons .here rfl (.cons .here rfl .nil)))))))))) (.r2 rfl (.one rfl (.head _) ty_3 rfl) (.one rfl (.tail _ (.tail _ (.tail _ (.tail _ (.tail _ (.tail _ (.head _))))))) ty_31 rfl)) (out_pure (by simp only [gFastest, ha15]))
    · intro c pre V' bD1 hSp hNm hSt
      exact hSt.elim
  · intro c pre V' bD0 hSp hNm hSt
    exact hSt.elim
end Go.Proofs.Ytjijeeadmhpfcaa
/- Walks of package pair: sets and ranks. -/
set_option linter.unusedSimpArgs false
set_option linter.unusedVariables false
namespace Go.Proofs.Ytjijeeadmhpfcaa
open Go Go.Eng Go.Pw1

theorem ones64_calls (s : Nat) (hs : s < 4096) (W : World) : Calls Try.prog 80 #[.int .u64 (s : Int)] W (Pure (.int .i64 (oc s : Int)) W) := by
  have b1 := oc1_le s
  have b2' := oc2_le s
  have b3 := oc3a_le s
  have b3' := oc3_le s
  have b4 := oc4_le s
  have b5 := oc5_le s
  have b6 := oc6_le s
  have h1 := Nat.shiftRight_le s 1
  have h2 := Nat.shiftRight_le (oc1 s) 2
  refine calls_start Try.func80 rfl rfl ?_
  refine RunC.seq ?_
  refine RunC.region ?_
  refine RunL.val (Val.pure rfl) rfl rfl rfl ?_
  refine RunL.nil ?_
  refine RunE.next ?_
  refine RunC.seq ?_
  refine RunC.region ?_
  refine RunL.val (Val.pure rfl) rfl rfl rfl ?_
  refine RunL.val (Val.shrN (a := s) (b := 1) rfl rfl (by decide)) rfl rfl rfl ?_
  refine RunL.val (Val.and (a := s >>> 1) (b := 6148914691236517205) rfl rfl (by show _ < 18446744073709551616; omega) (by decide) (u64_in (by have := Nat.and_le_right (n := s >>> 1) (m := 6148914691236517205); omega))) rfl rfl rfl ?_
  refine RunL.val (Val.pure rfl) rfl rfl rfl ?_
  refine RunL.val (Val.and (a := s) (b := 6148914691236517205) rfl rfl (by show _ < 18446744073709551616; omega) (by decide) (u64_in (by have := Nat.and_le_right (n := s) (m := 6148914691236517205); omega))) rfl rfl rfl ?_
  refine RunL.val (Val.addN (oc1 s) rfl rfl rfl (u64_in (by omega))) rfl rfl rfl ?_
  refine RunL.val (Val.pure rfl) rfl rfl rfl ?_
  refine RunL.nil ?_
  refine RunE.next ?_
  refine RunC.seq ?_
  refine RunC.region ?_
  refine RunL.val (Val.pure rfl) rfl rfl rfl ?_
  refine RunL.val (Val.shrN (a := oc1 s) (b := 2) rfl rfl (by decide)) rfl rfl rfl ?_
  refine RunL.val (Val.and (a := oc1 s >>> 2) (b := 3689348814741910323) rfl rfl (by show _ < 18446744073709551616; omega) (by decide) (u64_in (by have := Nat.and_le_right (n := oc1 s >>> 2) (m := 3689348814741910323); omega))) rfl rfl rfl ?_
  refine RunL.val (Val.pure rfl) rfl rfl rfl ?_
  refine RunL.val (Val.and (a := oc1 s) (b := 3689348814741910323) rfl rfl (by show _ < 18446744073709551616; omega) (by decide) (u64_in (by have := Nat.and_le_right (n := oc1 s) (m := 3689348814741910323); omega))) rfl rfl rfl ?_
  refine RunL.val (Val.addN (oc2 s) rfl rfl rfl (u64_in (by omega))) rfl rfl rfl ?_
  refine RunL.val (Val.pure rfl) rfl rfl rfl ?_
  refine RunL.nil ?_
  refine RunE.next ?_
  refine RunC.seq ?_
  refine RunC.region ?_
  refine RunL.val (Val.pure rfl) rfl rfl rfl ?_
  refine RunL.val (Val.shrN (a := oc2 s) (b := 4) rfl rfl (by decide)) rfl rfl rfl ?_
  refine RunL.val (Val.pure rfl) rfl rfl rfl ?_
  refine RunL.val (Val.addN (oc3a s) rfl rfl rfl (u64_in (by omega))) rfl rfl rfl ?_
  refine RunL.val (Val.and (a := oc3a s) (b := 1085102592571150095) rfl rfl (by show _ < 18446744073709551616; omega) (by decide) (u64_in (by have := Nat.and_le_right (n := oc3a s) (m := 1085102592571150095); omega))) rfl rfl rfl ?_
  refine RunL.val (Val.pure rfl) rfl rfl rfl ?_
  refine RunL.nil ?_
  refine RunE.next ?_
  refine RunC.seq ?_
  refine RunC.region ?_
  refine RunL.val (Val.pure rfl) rfl rfl rfl ?_
  refine RunL.val (Val.pure rfl) rfl rfl rfl ?_
  refine RunL.val (Val.shrN (a := oc3 s) (b := 8) rfl rfl (by decide)) rfl rfl rfl ?_
  refine RunL.val (Val.addN (oc4 s) rfl rfl rfl (u64_in (by omega))) rfl rfl rfl ?_
  refine RunL.val (Val.pure rfl) rfl rfl rfl ?_
  refine RunL.nil ?_
  refine RunE.next ?_
  refine RunC.seq ?_
  refine RunC.region ?_
  refine RunL.val (Val.pure rfl) rfl rfl rfl ?_
  refine RunL.val (Val.pure rfl) rfl rfl rfl ?_
  refine RunL.val (Val.shrN (a := oc4 s) (b := 16) rfl rfl (by decide)) rfl rfl rfl ?_
  refine RunL.val (Val.addN (oc5 s) rfl rfl rfl (u64_in (by omega))) rfl rfl rfl ?_
  refine RunL.val (Val.pure rfl) rfl rfl rfl ?_
  refine RunL.nil ?_
  refine RunE.next ?_
  refine RunC.seq ?_
  refine RunC.region ?_
  refine RunL.val (Val.pure rfl) rfl rfl rfl ?_
  refine RunL.val (Val.pure rfl) rfl rfl rfl ?_
  refine RunL.val (Val.shrN (a := oc5 s) (b := 32) rfl rfl (by decide)) rfl rfl rfl ?_
  refine RunL.val (Val.addN (oc6 s) rfl rfl rfl (u64_in (by omega))) rfl rfl rfl ?_
  refine RunL.val (Val.pure rfl) rfl rfl rfl ?_
  refine RunL.nil ?_
  refine RunE.next ?_
  refine RunC.seq ?_
  refine RunC.region ?_
  refine RunL.val (Val.pure rfl) rfl rfl rfl ?_
  refine RunL.val (Val.convInt rfl und_126 und_3 (IntWalk.i64_in _ ⟨by omega, by omega⟩)) rfl rfl rfl ?_
  refine RunL.val (Val.and (a := oc6 s) (b := 127) rfl rfl (by show _ < 18446744073709551616; omega) (by decide) (i64_inN (by have := Nat.and_le_right (n := oc6 s) (m := 127); omega))) rfl rfl rfl ?_
  refine RunL.val (Val.pure rfl) rfl rfl rfl ?_
  refine RunL.nil ?_
  refine RunE.next ?_
  refine RunC.ret ?_
  exact RunE.retP (.r1 rfl (.tmp rfl)) (by first | rfl | simp)
theorem ones_calls (s : Nat) (hs : s < 4096) (W : World) : Calls Try.prog 55 #[.int .u64 (s : Int)] W (Pure (.int .i64 (pc s 12 : Int)) W) := by
  rw [← oc_eq hs]
  refine calls_start Try.func55 rfl rfl ?_
  refine RunC.seq ?_
  refine RunC.region ?_
  refine RunL.val (Val.pure rfl) rfl rfl rfl ?_
  refine RunL.nil ?_
  refine RunE.next ?_
  refine RunC.seq ?_
  refine RunC.cond_false rfl ?_
  refine RunC.skip ?_
  refine RunE.next ?_
  refine RunC.seq ?_
  refine RunC.region ?_
  refine RunL.val (Val.pure rfl) rfl rfl rfl ?_
  refine RunL.callP (isCall_func rfl ent_80) rfl rfl rfl (fun w hm => ones64_calls s hs w) ?_
  refine RunL.val (Val.pure rfl) rfl rfl rfl ?_
  refine RunL.nil ?_
  refine RunE.next ?_
  refine RunC.ret ?_
  exact RunE.retP (.r1 rfl (.tmp rfl)) (by first | rfl | simp)
def rankV (s : Nat) : Value := .agg #[.int .i64 (pc s 12 : Int), .int .u64 (s : Int)]
theorem befS_eq (s u : Nat) : befS s u = (!(decide ((pc s 12 : Int) = (pc u 12 : Int)) && decide ((s : Int) = (u : Int))) && (decide ((pc s 12 : Int) < (pc u 12 : Int)) || (decide ((pc s 12 : Int) = (pc u 12 : Int)) && decide ((s : Int) < (u : Int))))) := by
  unfold befS
  rw [Bool.eq_iff_iff]
  simp only [Bool.or_eq_true, Bool.and_eq_true, decide_eq_true_eq, Bool.not_eq_true', Bool.and_eq_false_iff, decide_eq_false_iff_not]
  omega
end Go.Proofs.Ytjijeeadmhpfcaa
/- Walk of package years: Alike. -/
set_option linter.unusedSimpArgs false
set_option linter.unusedVariables false
namespace Go.Proofs.Ytjijeeadmhpfcaa
open Go Go.Eng Go.Pw1

theorem offer_calls (best s : Nat) (hb : best < 4096) (hs : s < 4096) (b : Nat) (W : World) (hB : W.heap[b]? = some (.cells [.int .i64 (best : Int)].toArray 3 (0, 0))) :
    Calls Try.prog 54 #[.int .i64 (s : Int), .pointer (some ⟨b, 0, none⟩)] W (TurnsX b (.cells [.int .i64 (offerS best s : Int)].toArray 3 (0, 0)) (fun _ : Unit => .tuple #[]) (fun _ => True) W) := by
  refine calls_start_chg hB Try.func54 rfl rfl ?_
  refine RunC.seq ?_
  refine RunC.draw 5 fol_ .nil ?_
  refine RunA.val (i := 0) rfl (by kernel_rfl) (by kernel_rfl) (Val.pure rfl) rfl rfl rfl (fun _ _ _ h => h) .nil rfl ?_
  refine RunA.val (i := 1) rfl (by kernel_rfl) (by kernel_rfl) (Val.convInt rfl und_3 und_82 (u64_in (n := s) (by omega))) rfl rfl rfl (fun _ _ _ h => h) .nil rfl ?_
  refine RunA.val (i := 3) rfl (by kernel_rfl) (by kernel_rfl) (Val.load_one rfl (.head _) ty_3 rfl) rfl rfl rfl (fun _ _ _ h => h) .nil rfl ?_
  refine RunA.val (i := 4) rfl (by kernel_rfl) (by kernel_rfl) (Val.convInt rfl und_3 und_82 (u64_in (n := best) (by omega))) rfl rfl rfl (fun _ _ _ h => h) .nil rfl ?_
  refine RunA.one (i := 2) (by kernel_rfl) (by kernel_rfl) ?_
  refine RunI.callP rfl (isCall_func rfl ent_55) rfl rfl rfl (fun w hm => ones_calls s hs w) (RunK.toA .nil .nil rfl ?_)
  refine RunA.toB (by kernel_rfl) ?_
  refine RunB.one (i := 5) (by kernel_rfl) ?_
  refine RunI.callP rfl (isCall_func rfl ent_55) rfl rfl rfl (fun w hm => ones_calls best hb w) (RunK.toB ?_)
  refine RunB.one (i := 6) (by kernel_rfl) ?_
  refine RunI.val rfl (Val.pure rfl) rfl rfl rfl (RunK.toB ?_)
  refine RunB.one (i := 7) (by kernel_rfl) ?_
  refine RunI.val rfl (Val.pure rfl) rfl rfl rfl (RunK.toB ?_)
  refine RunB.done (by kernel_rfl) ?_
  refine RunE.next ?_
  refine RunC.seq ?_
  refine RunC.region ?_
  iterate 4 refine RunL.val (Val.pure rfl) rfl rfl rfl ?_
  refine RunL.orPart (dj := 14) (dp := 23) 9 rfl (fun g14 => by
    have g14' := g14
    try simp only [decide_eq_true_eq, decide_eq_false_iff_not, Bool.not_eq_true', Bool.not_eq_false', Bool.and_eq_true, Bool.or_eq_true, Bool.and_eq_false_iff, Bool.or_eq_false_iff, Int.not_le, Int.not_lt] at g14'
    iterate 4 refine RunL.val (Val.pure rfl) rfl rfl rfl ?_
    refine RunL.andPart (dj := 18) (dp := 22) 4 rfl (fun g18 => by
      have g18' := g18
      try simp only [decide_eq_true_eq, decide_eq_false_iff_not, Bool.not_eq_true', Bool.not_eq_false', Bool.and_eq_true, Bool.or_eq_true, Bool.and_eq_false_iff, Bool.or_eq_false_iff, Int.not_le, Int.not_lt] at g18'
      refine RunL.val (Val.pure rfl) rfl rfl rfl ?_
      refine RunL.val (Val.load_one rfl (.head _) ty_3 rfl) rfl rfl rfl ?_
      refine RunL.val (Val.pure rfl) rfl rfl rfl ?_
      refine RunL.val (Val.pure rfl) rfl rfl rfl ?_
      exact RunL.segEnd (Sub.cons rfl (Sub.skip rfl (Sub.skip rfl (Sub.skip rfl (Sub.skip rfl (Sub.same rfl (by rw [g18]) (Sub.refl _))))))) (List.Sublist.refl _)
    ) (fun g18 => by
      have g18' := g18
      try simp only [decide_eq_true_eq, decide_eq_false_iff_not, Bool.not_eq_true', Bool.not_eq_false', Bool.and_eq_true, Bool.or_eq_true, Bool.and_eq_false_iff, Bool.or_eq_false_iff, Int.not_le, Int.not_lt] at g18'
      iterate 3 refine RunL.no rfl rfl rfl ?_
      refine RunL.val (Val.pure rfl) rfl rfl rfl ?_
      exact RunL.segEnd (Sub.cons rfl (Sub.skip rfl (Sub.skip rfl (Sub.skip rfl (Sub.skip rfl (Sub.same rfl (by rw [g18]) (Sub.refl _))))))) (List.Sublist.refl _)
    ) ?_
    refine RunL.val (Val.pure rfl) rfl rfl rfl ?_
    exact RunL.segEnd (Sub.cons rfl (Sub.skip rfl (Sub.skip rfl (Sub.skip rfl (Sub.skip rfl (Sub.skip rfl (Sub.skip rfl (Sub.same rfl (by rw [g14]) (Sub.refl _))))))))) (List.Sublist.refl _)
  ) (fun g14 => by
    have g14' := g14
    try simp only [decide_eq_true_eq, decide_eq_false_iff_not, Bool.not_eq_true', Bool.not_eq_false', Bool.and_eq_true, Bool.or_eq_true, Bool.and_eq_false_iff, Bool.or_eq_false_iff, Int.not_le, Int.not_lt] at g14'
    iterate 8 refine RunL.no rfl rfl rfl ?_
    refine RunL.val (Val.pure rfl) rfl rfl rfl ?_
    exact RunL.segEnd (Sub.cons rfl (Sub.skip rfl (Sub.skip rfl (Sub.skip rfl (Sub.skip rfl (Sub.skip rfl (Sub.skip rfl (Sub.skip rfl (Sub.skip rfl (Sub.skip rfl (Sub.same rfl (by rw [g14]) (Sub.refl _)))))))))))) (List.Sublist.refl _)
  ) ?_
  refine RunL.nil ?_
  refine RunE.next ?_
  refine RunC.cond rfl ?_ ?_
  · intro c0
    have c0' := c0; clear c0
    try simp only [decide_eq_true_eq, decide_eq_false_iff_not, Bool.not_eq_true', Bool.not_eq_false', Bool.and_eq_true, Bool.or_eq_true, Bool.and_eq_false_iff, Bool.or_eq_false_iff, Int.not_le, Int.not_lt] at c0'
    have ho : offerS best s = s := by
      unfold offerS
      rw [if_pos (by omega)]
    refine RunC.region ?_
    refine RunL.val (Val.pure rfl) rfl rfl rfl ?_
    refine RunL.sto (Sto.store_chg rfl rfl .here ty_3 rfl rfl) rfl rfl ?_
    refine RunL.nil ?_
    exact RunE.fin (chg := [(b, _)]) (.r0 rfl) (fun _ hm => ⟨(), trivial, rfl, by rw [ho]; exact hm.drop⟩)
  · intro c0
    have c0' := c0; clear c0
    try simp only [decide_eq_true_eq, decide_eq_false_iff_not, Bool.not_eq_true', Bool.not_eq_false', Bool.and_eq_true, Bool.or_eq_true, Bool.and_eq_false_iff, Bool.or_eq_false_iff, Int.not_le, Int.not_lt] at c0'
    have ho : offerS best s = best := by
      unfold offerS
      rw [if_neg (by omega)]
    refine RunC.skip ?_
    exact RunE.fin (chg := [(b, _)]) (.r0 rfl) (fun _ hm => ⟨(), trivial, rfl, by rw [ho]; exact hm.drop⟩)
theorem alikeS_lt {g : Gl} (hlen : g.f.things.length ≤ 12) (even : Int) (i : Nat) : alikeS g even i < 4096 := by
  refine setL_lt (m := 12) (fun j hj => ?_)
  have := (seenL_mem.1 hj).1
  omega
theorem alikeL_lt {g : Gl} (hlen : g.f.things.length ≤ 12) (even : Int) (l : List Nat) : alikeL g even l < 4096 := by
  have key : ∀ (l : List Nat) (b : Nat), b < 4096 → l.foldl (fun b i => offerS b (alikeS g even i)) b < 4096 := by
    intro l
    induction l with
    | nil => intro b hb; exact hb
    | cons i l ih =>
      intro b hb
      refine ih _ ?_
      show offerS b (alikeS g even i) < 4096
      unfold offerS
      split
      · exact alikeS_lt hlen even i
      · exact hb
  exact key l 0 (by decide)
theorem setL_ltS {g : Gl} {p : Nat → Bool} (hlen : g.f.things.length ≤ 12) (pre : List (Sn g)) : setL p (vals pre) < 4096 := setL_lt12 hlen pre
set_option maxHeartbeats 1000000 in
theorem yAlike_calls (g : Gl) (a : Ga) (even : Int) (W : World) (hG : GIn W g a) : Calls Try.prog 20 #[g.v a, .int .i64 even] W (Pure (.tuple #[.int .i64 (gAlike g even).1, .int .i64 (gAlike g even).2]) W) := by
  refine calls_start_marks Try.func20 rfl rfl ?_
  refine RunC.seq ?_
  refine RunC.region ?_
  refine RunL.new (New.box rfl) rfl rfl rfl (fun b2 => ?_)
  refine RunL.new (New.box rfl) rfl rfl rfl (fun b3 => ?_)
  refine RunL.new (New.alloc zero_3) rfl rfl rfl (fun b4 => ?_)
  refine RunL.new (New.alloc zero_31) rfl rfl rfl (fun b5 => ?_)
  refine RunL.nil ?_
  refine RunE.next ?_
  refine RunC.seq ?_
  refine RunC.region ?_
  refine RunL.val (Val.pure rfl) rfl rfl rfl ?_
  refine RunL.deferC rfl ?_
  refine RunL.nil ?_
  refine RunE.next ?_
  refine RunC.seq ?_
  refine RunC.drawPX (X := Nat × Nat) 5 (n0 := [(b5, _), (b4, _), (b3, _), (b2, _)]) (fun y q => (6, .pointer (some ⟨y.1, 0, none⟩)) :: q) (fun y => []) (fun y => [(y.1, .cells [.pointer (some ⟨y.2, 0, none⟩)].toArray 65 (0, 0)), (y.2, .cells (g.cells a).toArray 110 (0, 0))]) (fun y => []) (fun y => openG g (within even 0 1073741824) = .ok ()) fol_ (.cons .here rfl (.cons .here rfl (.cons .here rfl (.cons .here rfl .nil)))) (Sub.cons (t := 2) rfl (Sub.cons (t := 3) rfl (Sub.cons (t := 4) rfl (Sub.cons (t := 5) rfl (Sub.nil _))))) (.cons .here rfl (.cons .here rfl (.cons .here rfl (.cons .here rfl .nil)))) ?_ ?_
  · refine RunA.val (i := 0) rfl (by kernel_rfl) (by kernel_rfl) (Val.load_agg rfl (.tail _ (.tail _ (.tail _ (.head _)))) ty_28 rfl) rfl rfl rfl (PanQ.back rfl) (.cons .here rfl (.cons .here rfl (.cons .here rfl (.cons .here rfl .nil)))) rfl ?_
    refine RunA.val (i := 1) rfl (by kernel_rfl) (by kernel_rfl) (Val.load_one rfl (.tail _ (.tail _ (.head _))) ty_3 rfl) rfl rfl rfl (PanQ.back rfl) (.cons .here rfl (.cons .here rfl (.cons .here rfl (.cons .here rfl .nil)))) rfl ?_
    refine RunA.all (rs := [2, 4]) (by kernel_rfl) (by simp) (by kernel_rfl) (fun m hm => ?_)
    simp only [List.mem_cons, List.not_mem_nil, or_false] at hm
    rcases hm with rfl | rfl
    · refine RunI.callP rfl (isCall_func rfl ent_53) rfl rfl rfl (fun w hm => ywithin_calls _ _ _ w) (RunK.toA (.cons .here rfl (.cons .here rfl (.cons .here rfl (.cons .here rfl .nil)))) (.cons .here rfl (.cons .here rfl (.cons .here rfl (.cons .here rfl .nil)))) rfl ?_)
      refine RunA.all (rs := [3, 4]) (by kernel_rfl) (by simp) (by kernel_rfl) (fun m hm => ?_)
      simp only [List.mem_cons, List.not_mem_nil, or_false] at hm
      rcases hm with rfl | rfl
      · refine RunI.callTN rfl (isCall_func rfl ent_35) rfl rfl rfl (fun w hm => yopen_calls g a _ w (hG.mono hm)) (fun e19 he19 => ?_) (fun a19 ha19 b19 => (RunK.toA (.cons .here rfl (.cons .here rfl (.cons .here rfl (.cons .here rfl (.cons .here rfl .nil))))) (.cons (.there .here) rfl (.cons (.there .here) rfl (.cons (.there .here) rfl (.cons (.there .here) rfl .nil)))) rfl ?_))
        · refine RunE.panQ_panic (Sub.skip rfl (Sub.skip rfl (Sub.skip rfl (Sub.refl _)))) (.cons .here rfl (.cons .here rfl (.cons .here rfl (.cons .here rfl .nil)))) ?_
          refine RunE.seg_panic ?_
          refine RunE.pass_panic ?_
          exact RunE.panMC yAlike_catches ent_52 .here (.r2 rfl (.one rfl (.tail _ (.head _)) ty_3 rfl) (.one rfl (.head _) ty_31 rfl)) (by simp [gAlike, he19])
        refine RunA.one (i := 4) (by kernel_rfl) (by kernel_rfl) ?_
        refine RunI.new rfl (New.alloc zero_65) rfl rfl rfl (fun b6 => (RunK.toA (.cons .here rfl (.cons .here rfl (.cons .here rfl (.cons .here rfl (.cons .here rfl (.cons .here rfl .nil)))))) (.cons (.there .here) rfl (.cons (.there .here) rfl (.cons (.there .here) rfl (.cons (.there .here) rfl (.cons (.there .here) rfl .nil))))) rfl ?_))
        refine RunA.toB (by kernel_rfl) ?_
        refine RunB.one (i := 5) (by kernel_rfl) ?_
        refine RunI.sto rfl (Sto.store rfl rfl .here ty_65 rfl rfl) rfl rfl (RunK.toB ?_)
        refine RunB.done (by kernel_rfl) ?_
        refine RunE.panQ_normal ?_
        exact RunE.joinX (b6, b19) ha19 rfl (Sub.consE (t := 6) rfl rfl (Sub.cons (t := 2) rfl (Sub.cons (t := 3) rfl (Sub.cons (t := 4) rfl (Sub.cons (t := 5) rfl (Sub.nil _)))))) (.cons .here rfl (.cons .here rfl (.cons .here rfl (.cons .here rfl (.cons .here rfl (.cons .here rfl .nil))))))
      · refine RunI.new rfl (New.alloc zero_65) rfl rfl rfl (fun b6 => (RunK.toA (.cons .here rfl (.cons .here rfl (.cons .here rfl (.cons .here rfl (.cons .here rfl .nil))))) (.cons (.there .here) rfl (.cons (.there .here) rfl (.cons (.there .here) rfl (.cons (.there .here) rfl .nil)))) rfl ?_))
        refine RunA.one (i := 3) (by kernel_rfl) (by kernel_rfl) ?_
        refine RunI.callTN rfl (isCall_func rfl ent_35) rfl rfl rfl (fun w hm => yopen_calls g a _ w (hG.mono hm)) (fun e19 he19 => ?_) (fun a19 ha19 b19 => (RunK.toA (.cons .here rfl (.cons .here rfl (.cons .here rfl (.cons .here rfl (.cons .here rfl (.cons .here rfl .nil)))))) (.cons (.there .here) rfl (.cons (.there .here) rfl (.cons (.there .here) rfl (.cons (.there .here) rfl (.cons (.there .here) rfl .nil))))) rfl ?_))
        · refine RunE.panQ_panic (Sub.skip rfl (Sub.skip rfl (Sub.skip rfl (Sub.skip rfl (Sub.refl _))))) (.cons (.there .here) rfl (.cons (.there .here) rfl (.cons (.there .here) rfl (.cons (.there .here) rfl .nil)))) ?_
          refine RunE.seg_panic ?_
          refine RunE.pass_panic ?_
          exact RunE.panMC yAlike_catches ent_52 .here (.r2 rfl (.one rfl (.tail _ (.head _)) ty_3 rfl) (.one rfl (.head _) ty_31 rfl)) (by simp [gAlike, he19])
        refine RunA.toB (by kernel_rfl) ?_
        refine RunB.one (i := 5) (by kernel_rfl) ?_
        refine RunI.sto rfl (Sto.store rfl rfl (.there .here) ty_65 rfl rfl) rfl rfl (RunK.toB ?_)
        refine RunB.done (by kernel_rfl) ?_
        refine RunE.panQ_normal ?_
        exact RunE.joinX (b6, b19) ha19 rfl (Sub.consE (t := 6) rfl rfl (Sub.cons (t := 2) rfl (Sub.cons (t := 3) rfl (Sub.cons (t := 4) rfl (Sub.cons (t := 5) rfl (Sub.nil _)))))) (.cons (.there .here) rfl (.cons .here rfl (.cons .here rfl (.cons .here rfl (.cons .here rfl (.cons .here rfl .nil))))))
    · refine RunI.new rfl (New.alloc zero_65) rfl rfl rfl (fun b6 => (RunK.toA (.cons .here rfl (.cons .here rfl (.cons .here rfl (.cons .here rfl (.cons .here rfl .nil))))) (.cons (.there .here) rfl (.cons (.there .here) rfl (.cons (.there .here) rfl (.cons (.there .here) rfl .nil)))) rfl ?_))
      refine RunA.one (i := 2) (by kernel_rfl) (by kernel_rfl) ?_
      refine RunI.callP rfl (isCall_func rfl ent_53) rfl rfl rfl (fun w hm => ywithin_calls _ _ _ w) (RunK.toA (.cons .here rfl (.cons .here rfl (.cons .here rfl (.cons .here rfl (.cons .here rfl .nil))))) (.cons .here rfl (.cons .here rfl (.cons .here rfl (.cons .here rfl (.cons .here rfl .nil))))) rfl ?_)
      refine RunA.one (i := 3) (by kernel_rfl) (by kernel_rfl) ?_
      refine RunI.callTN rfl (isCall_func rfl ent_35) rfl rfl rfl (fun w hm => yopen_calls g a _ w (hG.mono hm)) (fun e19 he19 => ?_) (fun a19 ha19 b19 => (RunK.toA (.cons .here rfl (.cons .here rfl (.cons .here rfl (.cons .here rfl (.cons .here rfl (.cons .here rfl .nil)))))) (.cons (.there .here) rfl (.cons (.there .here) rfl (.cons (.there .here) rfl (.cons (.there .here) rfl (.cons (.there .here) rfl .nil))))) rfl ?_))
      · refine RunE.panQ_panic (Sub.skip rfl (Sub.skip rfl (Sub.skip rfl (Sub.skip rfl (Sub.refl _))))) (.cons (.there .here) rfl (.cons (.there .here) rfl (.cons (.there .here) rfl (.cons (.there .here) rfl .nil)))) ?_
        refine RunE.seg_panic ?_
        refine RunE.pass_panic ?_
        exact RunE.panMC yAlike_catches ent_52 .here (.r2 rfl (.one rfl (.tail _ (.head _)) ty_3 rfl) (.one rfl (.head _) ty_31 rfl)) (by simp [gAlike, he19])
      refine RunA.toB (by kernel_rfl) ?_
      refine RunB.one (i := 5) (by kernel_rfl) ?_
      refine RunI.sto rfl (Sto.store rfl rfl (.there .here) ty_65 rfl rfl) rfl rfl (RunK.toB ?_)
      refine RunB.done (by kernel_rfl) ?_
      refine RunE.panQ_normal ?_
      exact RunE.joinX (b6, b19) ha19 rfl (Sub.consE (t := 6) rfl rfl (Sub.cons (t := 2) rfl (Sub.cons (t := 3) rfl (Sub.cons (t := 4) rfl (Sub.cons (t := 5) rfl (Sub.nil _)))))) (.cons (.there .here) rfl (.cons .here rfl (.cons .here rfl (.cons .here rfl (.cons .here rfl (.cons .here rfl .nil))))))
  · intro y yI
    obtain ⟨b6, b19⟩ := y
    have ha19 := yI
    obtain ⟨hpf, hps, hll⟩ := openG_pairs ha19
    have hlen := hpf.len
    have hev : 0 ≤ even ∧ even ≤ 1073741824 := by
      have hv := (openG_ok ha19).2
      simp only [within, Bool.and_eq_true, decide_eq_true_eq] at hv
      exact hv
    refine RunE.next ?_
    refine RunC.seq ?_
    refine RunC.region ?_
    refine RunL.val (Val.pure rfl) rfl rfl rfl ?_
    refine RunL.new (New.alloc zero_83) rfl rfl rfl (fun b7 => ?_)
    refine RunL.sto (Sto.store rfl rfl .here ty_83 rfl rfl) rfl rfl ?_
    refine RunL.nil ?_
    refine RunE.next ?_
    refine RunC.seq ?_
    refine RunC.seq ?_
    refine RunC.region ?_
    refine RunL.val (Val.load_one rfl (.tail _ (.head _)) ty_65 rfl) rfl rfl rfl ?_
    refine RunL.callN (isCall_func rfl ent_56) rfl rfl rfl (fun w hm => yseen_calls b19 w) (fun b22 => ?_)
    refine RunL.nil ?_
    refine RunE.next ?_
    refine RunC.block ?_
    refine RunC.rangeH (α := Sn g) (Y := Nat) (N := 100) (S := fun xs => xs = seenA g g.f.things.length) (Sp := fun _ => True) [(b22, _), (b7, _), (b6, _), (b19, _), (b5, _), (b3, _), (b2, _)] (fun x => [.int .i64 (x.1 : Int), z2v (farG g x.1)]) (fun pre => [(b4, .cells [.int .i64 ((alikeL g even (vals pre) : Nat) : Int)].toArray 3 (0, 0))]) (fun x y q => (9, .pointer (some ⟨y, 0, none⟩)) :: q) (fun x y => [(y, .cells (z2c (farG g x.1)).toArray 72 (0, 0))]) (fun _ _ _ => False) (Sub.cons (t := 3) rfl (Sub.cons (t := 4) rfl (Sub.cons (t := 6) rfl (Sub.cons (t := 7) rfl (Sub.nil _))))) (.cons (.there (.there (.there (.there (.there .here))))) rfl (.cons .here rfl (.cons .here rfl (.cons .here rfl (.cons .here rfl (.cons .here rfl (.cons .here rfl (.cons .here rfl .nil)))))))) (fun _ => rfl) (fun _ _ _ hb => by simp only [List.mem_cons, List.not_mem_nil, or_false, Prod.mk.injEq] at hb; obtain ⟨_, rfl⟩ := hb; rfl) (fun _ _ _ _ hb => by simp only [List.mem_cons, List.not_mem_nil, or_false, Prod.mk.injEq] at hb; obtain ⟨_, rfl⟩ := hb; rfl) (fun _ => rfl) rfl rfl ent_81 (fun w hm => seen_stops g a b19 b22 w _ hlen ⟨hm.at (.tail _ (.tail _ (.tail _ (.tail _ (.head _))))), hm.at (.tail _ (.head _)), hG.mono hm⟩ ⟨hm.apart (.tail _ (.tail _ (.tail _ (.head _)))), hm.apart (.head _), fun hx => hm.oldApart (hG.s1.lt0 (by decide) hx), fun hx => hm.oldApart (hG.s2.lt0 (by decide) hx)⟩) ?_ ?_ ?_ ?_
    · intro l1 pre x V1 hV1
      refine RunCR.regionP ?_
      refine RunL.new (New.alloc zero_72) rfl rfl rfl (fun b9 => ?_)
      refine RunL.sto (Sto.store rfl rfl .here ty_72 rfl rfl) rfl rfl ?_
      refine RunL.nil ?_
      exact RunE.asg b9 rfl (Sub.consE (t := 9) rfl rfl (Sub.cons (t := 3) rfl (Sub.cons (t := 4) rfl (Sub.cons (t := 6) rfl (Sub.cons (t := 7) rfl (Sub.nil _)))))) (.cons .here rfl .nil)
    · intro l1 pre x y W1 hlen1 hI1 hL1 hAp1
      have hv1_b22 := hI1.at (.tail _ (.head _))
      have hn1_b22 := hAp1 _ (.inl ⟨_, (.head _)⟩)
      have hv1_b7 := hI1.at (.tail _ (.tail _ (.head _)))
      have hn1_b7 := hAp1 _ (.inl ⟨_, (.tail _ (.head _))⟩)
      have hv1_b6 := hI1.at (.tail _ (.tail _ (.tail _ (.head _))))
      have hn1_b6 := hAp1 _ (.inl ⟨_, (.tail _ (.tail _ (.head _)))⟩)
      have hv1_b19 := hI1.at (.tail _ (.tail _ (.tail _ (.tail _ (.head _)))))
      have hn1_b19 := hAp1 _ (.inl ⟨_, (.tail _ (.tail _ (.tail _ (.head _))))⟩)
      have hv1_b5 := hI1.at (.tail _ (.tail _ (.tail _ (.tail _ (.tail _ (.head _))))))
      have hn1_b5 := hAp1 _ (.inl ⟨_, (.tail _ (.tail _ (.tail _ (.tail _ (.head _)))))⟩)
      have hv1_b3 := hI1.at (.tail _ (.tail _ (.tail _ (.tail _ (.tail _ (.tail _ (.head _)))))))
      have hn1_b3 := hAp1 _ (.inl ⟨_, (.tail _ (.tail _ (.tail _ (.tail _ (.tail _ (.head _))))))⟩)
      have hv1_b2 := hI1.at (.tail _ (.tail _ (.tail _ (.tail _ (.tail _ (.tail _ (.tail _ (.head _))))))))
      have hn1_b2 := hAp1 _ (.inl ⟨_, (.tail _ (.tail _ (.tail _ (.tail _ (.tail _ (.tail _ (.head _)))))))⟩)
      obtain ⟨hz1, hz2, hz3, hz4⟩ := farG_ok g x.1
      have hG1 : ∀ {c nw : Blks} {w : World}, Mem W1 c nw w → c.map (·.1) = _ → GIn w g a := fun hm hc => hG.mono (hI1.flat hm (fun b hb => by rw [hc]; exact hAp1 b (.inr hb)))
      have hGW1 : GIn W1 g a := hG.mono (hI1.flat (Mem.refl W1) (by simp))
      refine RunCR.block ?_
      refine RunCR.seq ?_
      refine RunCR.regionP ?_
      refine RunL.val (Val.indexAddr_arr rfl rfl arr_72 (by decide) (by decide)) rfl rfl rfl ?_
      refine RunL.val (Val.load_agg rfl (.tail _ (.head _)) ty_64 rfl) rfl rfl rfl ?_
      refine RunL.val (Val.indexAddr_arr rfl rfl arr_72 (by decide) (by decide)) rfl rfl rfl ?_
      refine RunL.val (Val.load_agg rfl (.tail _ (.head _)) ty_64 rfl) rfl rfl rfl ?_
      refine RunL.callP (isCall_func rfl ent_57) rfl rfl rfl (fun w hm => yless_calls (farG g x.1).2 (farG g x.1).1 (by omega) w) ?_
      refine RunL.val (Val.field rfl field1_64_1 rfl) rfl rfl rfl ?_
      refine RunL.new (New.alloc zero_3) rfl rfl rfl (fun b10 => ?_)
      refine RunL.sto (Sto.store rfl rfl .here ty_3 rfl rfl) rfl rfl ?_
      refine RunL.nil ?_
      refine RunER.next ?_
      refine RunCR.seq ?_
      refine RunCR.regionP ?_
      refine RunL.new (New.alloc zero_3) rfl rfl rfl (fun b11 => ?_)
      refine RunL.sto (Sto.store rfl rfl .here ty_3 rfl rfl) rfl rfl ?_
      refine RunL.nil ?_
      refine RunER.next ?_
      refine RunCR.seq ?_
      refine RunCR.seq ?_
      refine RunCR.regionP ?_
      refine RunL.val (Val.oload_one rfl hv1_b6 (notin_of rfl hn1_b6) ty_65 rfl) rfl rfl rfl ?_
      refine RunL.callN (isCall_func rfl ent_56) rfl rfl rfl (fun w hm => yseen_calls b19 w) (fun b32 => ?_)
      refine RunL.nil ?_
      refine RunER.next ?_
      refine RunCR.block ?_
      refine RunCR.rangeN (α := Sn g) (Y := Nat) (N := 100) (S := fun xs => xs = seenA g g.f.things.length) (Sp := fun _ => True) [(b32, _), (b10, _)] (fun x2 => [.int .i64 (x2.1 : Int), z2v (farG g x2.1)]) (fun pre => [(b11, .cells [.int .i64 ((setL (fun k => decide ((mvZ g x.1).2 ≤ (mvZ g k).2) && decide ((mvZ g k).1 ≤ (mvZ g x.1).2 + even)) (vals pre) : Nat) : Int)].toArray 3 (0, 0))]) (fun x2 y2 q => (12, .int .i64 (x2.1 : Int)) :: (13, .pointer (some ⟨y2, 0, none⟩)) :: q) (fun x2 y2 => [(y2, .cells (z2c (farG g x2.1)).toArray 72 (0, 0))]) (fun _ _ _ => False) hL1 rfl (Sub.cons (t := 3) rfl (Sub.cons (t := 10) rfl (Sub.cons (t := 11) rfl (Sub.nil _)))) (.cons (.there .here) rfl (.cons .here rfl (.cons .here rfl .nil))) (fun _ => rfl) (fun _ _ _ hb => by simp only [List.mem_cons, List.not_mem_nil, or_false, Prod.mk.injEq] at hb; obtain ⟨_, rfl⟩ := hb; rfl) (fun _ _ _ _ hb => by simp only [List.mem_cons, List.not_mem_nil, or_false, Prod.mk.injEq] at hb; obtain ⟨_, rfl⟩ := hb; rfl) (fun _ => rfl) rfl rfl ent_81 (fun w hm => seen_stops g a b19 b32 w _ hlen ⟨hm.old_at hv1_b19 (notin_of rfl hn1_b19), hm.at (.tail _ (.tail _ (.tail _ (.head _)))), hG1 hm rfl⟩ ⟨hm.oldApart (Array.getElem?_eq_some_iff.1 hv1_b19).1, hm.apart (.head _), fun hx => hm.oldApart (hGW1.s1.lt0 (by decide) hx), fun hx => hm.oldApart (hGW1.s2.lt0 (by decide) hx)⟩) ?_ ?_ ?_ ?_
      · intro l2 pre x2 V2 hV2
        refine RunCR.seq ?_
        refine RunCR.regionP ?_
        refine RunL.val (Val.pure rfl) rfl rfl rfl ?_
        refine RunL.nil ?_
        refine RunER.next ?_
        refine RunCR.regionP ?_
        refine RunL.new (New.alloc zero_72) rfl rfl rfl (fun b13 => ?_)
        refine RunL.sto (Sto.store rfl rfl .here ty_72 rfl rfl) rfl rfl ?_
        refine RunL.nil ?_
        exact RunE.asg b13 rfl (Sub.consE (t := 12) rfl rfl (Sub.consE (t := 13) rfl rfl (Sub.cons (t := 3) rfl (Sub.cons (t := 10) rfl (Sub.cons (t := 11) rfl (Sub.nil _)))))) (.cons .here rfl .nil)
      · intro l2 pre x2 y2 W2 hlen2 hI2 hL2 hAp2
        have hv2_b32 := hI2.at (.tail _ (.tail _ (.tail _ (.head _))))
        have hn2_b32 := hAp2 _ (.inl ⟨_, (.tail _ (.tail _ (.head _)))⟩)
        have hv2_b10 := hI2.at (.tail _ (.tail _ (.tail _ (.tail _ (.head _)))))
        have hn2_b10 := hAp2 _ (.inl ⟨_, (.tail _ (.tail _ (.tail _ (.head _))))⟩)
        have hv2_b4 := hI2.at (.head _)
        have hn2_b4 := hAp2 _ (.inl ⟨_, (.head _)⟩)
        have hv2_y := hI2.at (.tail _ (.head _))
        have hn2_y := hAp2 _ (.inl ⟨_, (.tail _ (.head _))⟩)
        have hv2_b22 := hI2.old_at hv1_b22 (notin_of rfl hn1_b22)
        have hn2_b22 := hAp2 _ (.inr (Array.getElem?_eq_some_iff.1 hv1_b22).1)
        have hv2_b7 := hI2.old_at hv1_b7 (notin_of rfl hn1_b7)
        have hn2_b7 := hAp2 _ (.inr (Array.getElem?_eq_some_iff.1 hv1_b7).1)
        have hv2_b6 := hI2.old_at hv1_b6 (notin_of rfl hn1_b6)
        have hn2_b6 := hAp2 _ (.inr (Array.getElem?_eq_some_iff.1 hv1_b6).1)
        have hv2_b19 := hI2.old_at hv1_b19 (notin_of rfl hn1_b19)
        have hn2_b19 := hAp2 _ (.inr (Array.getElem?_eq_some_iff.1 hv1_b19).1)
        have hv2_b5 := hI2.old_at hv1_b5 (notin_of rfl hn1_b5)
        have hn2_b5 := hAp2 _ (.inr (Array.getElem?_eq_some_iff.1 hv1_b5).1)
        have hv2_b3 := hI2.old_at hv1_b3 (notin_of rfl hn1_b3)
        have hn2_b3 := hAp2 _ (.inr (Array.getElem?_eq_some_iff.1 hv1_b3).1)
        have hv2_b2 := hI2.old_at hv1_b2 (notin_of rfl hn1_b2)
        have hn2_b2 := hAp2 _ (.inr (Array.getElem?_eq_some_iff.1 hv1_b2).1)
        obtain ⟨hy1, hy2, hy3, hy4⟩ := farG_ok g x2.1
        have hx12 := sn_lt hlen x2
        have hp1 := setL_lt12 (p := fun k => decide ((mvZ g x.1).2 ≤ (mvZ g k).2) && decide ((mvZ g k).1 ≤ (mvZ g x.1).2 + even)) hlen pre
        have h2x : 2 ^ x2.1 < 2 ^ 12 := Nat.pow_lt_pow_right (by decide) hx12
        refine RunCR.block ?_
        refine RunCR.seq ?_
        refine RunCR.regionP ?_
        refine RunL.val (Val.indexAddr_arr rfl rfl arr_72 (by decide) (by decide)) rfl rfl rfl ?_
        refine RunL.val (Val.load_agg rfl (.tail _ (.head _)) ty_64 rfl) rfl rfl rfl ?_
        refine RunL.val (Val.indexAddr_arr rfl rfl arr_72 (by decide) (by decide)) rfl rfl rfl ?_
        refine RunL.val (Val.load_agg rfl (.tail _ (.head _)) ty_64 rfl) rfl rfl rfl ?_
        refine RunL.callP (isCall_func rfl ent_57) rfl rfl rfl (fun w hm => yless_calls (farG g x2.1).2 (farG g x2.1).1 (by omega) w) ?_
        refine RunL.new (New.alloc zero_64) rfl rfl rfl (fun b14 => ?_)
        refine RunL.sto (Sto.store rfl rfl .here ty_64 rfl rfl) rfl rfl ?_
        refine RunL.nil ?_
        refine RunER.next ?_
        refine RunCR.seq ?_
        refine RunCR.regionP ?_
        refine RunL.val (Val.fieldAddr rfl fld_64_1) rfl rfl rfl ?_
        refine RunL.val (Val.load_one rfl (.tail _ (.tail _ (.head _))) ty_3 rfl) rfl rfl rfl ?_
        refine RunL.val (Val.oload_one rfl hv2_b10 (notin_of rfl hn2_b10) ty_3 rfl) rfl rfl rfl ?_
        refine RunL.val (Val.pure rfl) rfl rfl rfl ?_
        refine RunL.val (Val.pure rfl) rfl rfl rfl ?_
        refine RunL.andPart (dj := 44) (dp := 51) 7 rfl (fun g44 => by
          have g44' := g44
          try simp only [decide_eq_true_eq, decide_eq_false_iff_not, Bool.not_eq_true', Bool.not_eq_false', Bool.and_eq_true, Bool.or_eq_true, Bool.and_eq_false_iff, Bool.or_eq_false_iff, Int.not_le, Int.not_lt] at g44'
          refine RunL.val (Val.fieldAddr rfl fld_64_0) rfl rfl rfl ?_
          refine RunL.val (Val.load_one rfl (.tail _ (.tail _ (.head _))) ty_3 rfl) rfl rfl rfl ?_
          refine RunL.val (Val.oload_one rfl hv2_b10 (notin_of rfl hn2_b10) ty_3 rfl) rfl rfl rfl ?_
          refine RunL.val (Val.oload_one rfl hv2_b3 (notin_of rfl hn2_b3) ty_3 rfl) rfl rfl rfl ?_
          refine RunL.val (Val.add rfl rfl (IntWalk.i64_in _ (by have := movedZ_bd (farG_ok g x.1); simp only [movedZ] at this; omega))) rfl rfl rfl ?_
          refine RunL.val (Val.pure rfl) rfl rfl rfl ?_
          refine RunL.val (Val.pure rfl) rfl rfl rfl ?_
          exact RunL.segEnd (Sub.cons rfl (Sub.skip rfl (Sub.skip rfl (Sub.skip rfl (Sub.skip rfl (Sub.skip rfl (Sub.skip rfl (Sub.skip rfl (Sub.same rfl (by rw [g44]) (Sub.refl _)))))))))) (List.Sublist.refl _)
        ) (fun g44 => by
          have g44' := g44
          try simp only [decide_eq_true_eq, decide_eq_false_iff_not, Bool.not_eq_true', Bool.not_eq_false', Bool.and_eq_true, Bool.or_eq_true, Bool.and_eq_false_iff, Bool.or_eq_false_iff, Int.not_le, Int.not_lt] at g44'
          iterate 6 refine RunL.no rfl rfl rfl ?_
          refine RunL.val (Val.pure rfl) rfl rfl rfl ?_
          exact RunL.segEnd (Sub.cons rfl (Sub.skip rfl (Sub.skip rfl (Sub.skip rfl (Sub.skip rfl (Sub.skip rfl (Sub.skip rfl (Sub.skip rfl (Sub.same rfl (by rw [g44]) (Sub.refl _)))))))))) (List.Sublist.refl _)
        ) ?_
        refine RunL.nil ?_
        refine RunER.next ?_
        refine RunCR.cond rfl ?_ ?_
        · intro c0
          have c0' := c0; clear c0
          try simp only [decide_eq_true_eq, decide_eq_false_iff_not, Bool.not_eq_true', Bool.not_eq_false', Bool.and_eq_true, Bool.or_eq_true, Bool.and_eq_false_iff, Bool.or_eq_false_iff, Int.not_le, Int.not_lt] at c0'
          have hs0 : (decide ((mvZ g x.1).2 ≤ (mvZ g x2.1).2) && decide ((mvZ g x2.1).1 ≤ (mvZ g x.1).2 + even)) = true := by
            simp only [Bool.and_eq_true, decide_eq_true_eq]; exact c0'
          refine RunCR.draw 3 fol_ (.cons .here rfl .nil) ?_
          refine RunA.val (i := 0) rfl (by kernel_rfl) (by kernel_rfl) (Val.load_one rfl (.head _) ty_3 rfl) rfl rfl rfl (fun _ _ _ h => h) (.cons .here rfl .nil) rfl ?_
          refine RunA.val (i := 1) rfl (by kernel_rfl) (by kernel_rfl) (Val.pure rfl) rfl rfl rfl (fun _ _ _ h => h) (.cons .here rfl .nil) rfl ?_
          refine RunA.val (i := 2) rfl (by kernel_rfl) (by kernel_rfl) (Val.shl1 (b := x2.1) rfl rfl (by show x2.1 ≤ 64; omega) (i64_inN (n := 2 ^ x2.1) (by omega))) rfl rfl rfl (fun _ _ _ h => h) (.cons .here rfl .nil) rfl ?_
          refine RunA.toB (by kernel_rfl) ?_
          refine RunB.one (i := 3) (by kernel_rfl) ?_
          refine RunI.val rfl (Val.or (a := setL _ (vals pre)) (b := 2 ^ x2.1) rfl rfl (by show _ < 18446744073709551616; omega) (by show _ < 18446744073709551616; omega) (i64_inN (Nat.lt_trans (or_lt12 hp1 hx12) (by decide)))) rfl rfl rfl (RunK.toB ?_)
          refine RunB.one (i := 4) (by kernel_rfl) ?_
          refine RunI.sto rfl (Sto.store_chg rfl rfl .here ty_3 rfl rfl) rfl rfl (RunK.toB ?_)
          refine RunB.done (by kernel_rfl) ?_
          refine RunE.block_normal ?_
          exact RunE.bodyX [(y2, _)] (by simp only [vals_snoc, setL_snoc, hs0, if_true, if_false, Bool.false_eq_true]; rfl)
        · intro c0
          have c0' := c0; clear c0
          try simp only [decide_eq_true_eq, decide_eq_false_iff_not, Bool.not_eq_true', Bool.not_eq_false', Bool.and_eq_true, Bool.or_eq_true, Bool.and_eq_false_iff, Bool.or_eq_false_iff, Int.not_le, Int.not_lt] at c0'
          have hs0 : (decide ((mvZ g x.1).2 ≤ (mvZ g x2.1).2) && decide ((mvZ g x2.1).1 ≤ (mvZ g x.1).2 + even)) = false := by
            simp only [Bool.and_eq_false_iff, decide_eq_false_iff_not, Int.not_le]; exact c0'
          refine RunCR.skip ?_
          refine RunE.block_normal ?_
          exact RunE.bodyX [(y2, _)] (by simp only [vals_snoc, setL_snoc, hs0, if_true, if_false, Bool.false_eq_true]; rfl)
      · intro xs hXS
        obtain rfl := hXS
        rw [show vals (seenA g g.f.things.length) = seenL g from seenA_vals g _]
        refine RunE.block_normal ?_
        refine RunER.next ?_
        refine RunCR.regionP ?_
        refine RunL.val (Val.oload_one rfl hv1_b7 (notin_of rfl hn1_b7) ty_83 rfl) rfl rfl rfl ?_
        refine RunL.val (Val.load_one rfl (.tail _ (.tail _ (.head _))) ty_3 rfl) rfl rfl rfl ?_
        refine RunL.callX_chg (isCall_value rfl rfl ent_54) rfl rfl rfl .here (fun w hm => offer_calls _ (alikeS g even x.1) (alikeL_lt hlen even (vals pre)) (alikeS_lt hlen even x.1) b4 w (hm.at (.head _))) (fun x58 hx58 => ?_)
        refine RunL.nil ?_
        refine RunE.block_normal ?_
        exact RunE.bodyX [(y, _)] (by simp only [vals_snoc, alikeL_snoc]; rfl)
      · intro c pre V' hSp hNm hSt
        exact hSt.elim
    · intro xs bD0 hXS
      obtain rfl := hXS
      rw [show vals (seenA g g.f.things.length) = seenL g from seenA_vals g _]
      refine RunE.block_normal ?_
      refine RunE.next ?_
      refine RunC.seq ?_
      refine RunC.region ?_
      refine RunL.val (Val.load_one rfl (.tail _ (.head _)) ty_3 rfl) rfl rfl rfl ?_
      refine RunL.sto (Sto.store rfl rfl (.there .here) ty_3 rfl rfl) rfl rfl ?_
      refine RunL.sto (Sto.store rfl rfl (.there (.there (.there (.there (.there (.there .here)))))) ty_31 rfl rfl) rfl rfl ?_
      refine RunL.nil ?_
      refine RunE.next ?_
      refine RunC.ret ?_
      exact RunE.outMC [bD0] yAlike_catches ent_52 (.cons .here rfl (.cons .here rfl (.cons .here rfl (.cons .here rfl (.cons .here rfl (.cons .here rfl (.cons .here rfl (.cons .here rfl (.cons .here rfl .nil))))))))) (.r2 rfl (.one rfl (.head _) ty_3 rfl) (.one rfl (.tail _ (.tail _ (.tail _ (.tail _ (.tail _ (.head _)))))) ty_31 rfl)) (out_pure (by simp only [gAlike, ha19]))
    · intro c pre V' bD0 hSp hNm hSt
      exact hSt.elim
end Go.Proofs.Ytjijeeadmhpfcaa
/- Walks of the reference of layer 5 and of the laws: the small functions. -/
set_option linter.unusedSimpArgs false
set_option linter.unusedVariables false
namespace Go.Proofs.Ytjijeeadmhpfcaa
open Go Go.Eng Go.Pw1

theorem rin5_calls (n lo hi : Int) (W : World) : Calls Try.prog 61 #[.int .i64 n, .int .i64 lo, .int .i64 hi] W (Pure (.bool (within n lo hi)) W) := by
  refine calls_start Try.func61 rfl rfl ?_
  refine RunC.seq ?_
  refine RunC.region ?_
  refine RunL.val (Val.pure rfl) rfl rfl rfl ?_
  refine RunL.nil ?_
  refine RunE.next ?_
  refine RunC.seq ?_
  refine RunC.region ?_
  iterate 4 refine RunL.val (Val.pure rfl) rfl rfl rfl ?_
  refine RunL.andPart (dj := 10) (dp := 14) 4 rfl (fun g10 => by
    have g10' := g10
    try simp only [decide_eq_true_eq, decide_eq_false_iff_not, Bool.not_eq_true', Bool.not_eq_false', Bool.and_eq_true, Bool.or_eq_true, Bool.and_eq_false_iff, Bool.or_eq_false_iff, Int.not_le, Int.not_lt] at g10'
    iterate 4 refine RunL.val (Val.pure rfl) rfl rfl rfl ?_
    exact RunL.segEnd (Sub.cons rfl (Sub.skip rfl (Sub.skip rfl (Sub.skip rfl (Sub.skip rfl (Sub.same rfl (by rw [g10]) (Sub.refl _))))))) (List.Sublist.refl _)
  ) (fun g10 => by
    have g10' := g10
    try simp only [decide_eq_true_eq, decide_eq_false_iff_not, Bool.not_eq_true', Bool.not_eq_false', Bool.and_eq_true, Bool.or_eq_true, Bool.and_eq_false_iff, Bool.or_eq_false_iff, Int.not_le, Int.not_lt] at g10'
    iterate 3 refine RunL.no rfl rfl rfl ?_
    refine RunL.val (Val.pure rfl) rfl rfl rfl ?_
    exact RunL.segEnd (Sub.cons rfl (Sub.skip rfl (Sub.skip rfl (Sub.skip rfl (Sub.skip rfl (Sub.same rfl (by rw [g10]) (Sub.refl _))))))) (List.Sublist.refl _)
  ) ?_
  refine RunL.val (Val.pure rfl) rfl rfl rfl ?_
  refine RunL.nil ?_
  refine RunE.next ?_
  refine RunC.ret ?_
  exact RunE.retP (.r1 rfl (.tmp rfl)) (by first | rfl | simp)
theorem rdown_calls (a b : Int) (hb : 0 < b) (hb2 : b ≤ 4000000000000000000) (ha : -4000000000000000000 ≤ a ∧ a ≤ 4000000000000000000) (W : World) : Calls Try.prog 49 #[.int .i64 a, .int .i64 b] W (Pure (.int .i64 (a / b)) W) := by
  have h1 := tdiv_bd (a := -a + b - 1) (b := b) (M := 8000000000000000000) hb (by omega)
  have h2 := tdiv_bd hb ha
  refine calls_start Try.func49 rfl rfl ?_
  refine RunC.seq ?_
  refine RunC.region ?_
  refine RunL.val (Val.pure rfl) rfl rfl rfl ?_
  refine RunL.nil ?_
  refine RunE.next ?_
  refine RunC.seq ?_
  refine RunC.seq ?_
  refine RunC.region ?_
  refine RunL.val (Val.pure rfl) rfl rfl rfl ?_
  refine RunL.val (Val.pure rfl) rfl rfl rfl ?_
  refine RunL.nil ?_
  refine RunE.next ?_
  refine RunC.cond rfl ?_ ?_
  · intro c0
    have c0' := c0; clear c0
    try simp only [decide_eq_true_eq, decide_eq_false_iff_not, Bool.not_eq_true', Bool.not_eq_false', Bool.and_eq_true, Bool.or_eq_true, Bool.and_eq_false_iff, Bool.or_eq_false_iff, Int.not_le, Int.not_lt] at c0'
    refine RunC.seq ?_
    refine RunC.region ?_
    refine RunL.val (Val.pure rfl) rfl rfl rfl ?_
    refine RunL.val (Val.neg rfl (IntWalk.i64_in _ ⟨by omega, by omega⟩)) rfl rfl rfl ?_
    refine RunL.val (Val.pure rfl) rfl rfl rfl ?_
    refine RunL.val (Val.add rfl rfl (IntWalk.i64_in _ ⟨by omega, by omega⟩)) rfl rfl rfl ?_
    refine RunL.val (Val.sub' rfl rfl (IntWalk.i64_in _ ⟨by omega, by omega⟩)) rfl rfl rfl ?_
    refine RunL.val (Val.pure rfl) rfl rfl rfl ?_
    refine RunL.val (Val.quoT rfl rfl hb (IntWalk.i64_in _ ⟨by omega, by omega⟩)) rfl rfl rfl ?_
    refine RunL.val (Val.neg rfl (IntWalk.i64_in _ ⟨by omega, by omega⟩)) rfl rfl rfl ?_
    refine RunL.val (Val.pure rfl) rfl rfl rfl ?_
    refine RunL.nil ?_
    refine RunE.next ?_
    refine RunC.ret ?_
    refine RunE.pass_ret ?_
    exact RunE.retP (.r1 rfl (.tmp rfl)) (by rw [up_floor hb c0'])
  · intro c0
    have c0' := c0; clear c0
    try simp only [decide_eq_true_eq, decide_eq_false_iff_not, Bool.not_eq_true', Bool.not_eq_false', Bool.and_eq_true, Bool.or_eq_true, Bool.and_eq_false_iff, Bool.or_eq_false_iff, Int.not_le, Int.not_lt] at c0'
    refine RunC.skip ?_
    refine RunE.next ?_
    refine RunC.seq ?_
    refine RunC.region ?_
    refine RunL.val (Val.pure rfl) rfl rfl rfl ?_
    refine RunL.val (Val.pure rfl) rfl rfl rfl ?_
    refine RunL.val (Val.quoT rfl rfl hb (IntWalk.i64_in _ ⟨by omega, by omega⟩)) rfl rfl rfl ?_
    refine RunL.val (Val.pure rfl) rfl rfl rfl ?_
    refine RunL.nil ?_
    refine RunE.next ?_
    refine RunC.ret ?_
    exact RunE.retP (.r1 rfl (.tmp rfl)) (by rw [Int.tdiv_eq_ediv_of_nonneg c0'])
theorem rup_calls (a b : Int) (hb : 0 < b) (hb2 : b ≤ 4000000000000000000) (ha : -4000000000000000000 ≤ a ∧ a ≤ 4000000000000000000) (W : World) : Calls Try.prog 50 #[.int .i64 a, .int .i64 b] W (Pure (.int .i64 (-(-a / b))) W) := by
  have hd := ediv_bd (a := -a) (M := 4000000000000000000) hb (by omega)
  refine calls_start Try.func50 rfl rfl ?_
  refine RunC.seq ?_
  refine RunC.region ?_
  refine RunL.val (Val.pure rfl) rfl rfl rfl ?_
  refine RunL.nil ?_
  refine RunE.next ?_
  refine RunC.seq ?_
  refine RunC.region ?_
  refine RunL.val (Val.pure rfl) rfl rfl rfl ?_
  refine RunL.val (Val.neg rfl (IntWalk.i64_in _ ⟨by omega, by omega⟩)) rfl rfl rfl ?_
  refine RunL.val (Val.pure rfl) rfl rfl rfl ?_
  refine RunL.callP (isCall_func rfl ent_49) rfl rfl rfl (fun w hm => rdown_calls (-a) b hb hb2 (by omega) w) ?_
  refine RunL.val (Val.neg rfl (IntWalk.i64_in _ ⟨by omega, by omega⟩)) rfl rfl rfl ?_
  refine RunL.val (Val.pure rfl) rfl rfl rfl ?_
  refine RunL.nil ?_
  refine RunE.next ?_
  refine RunC.ret ?_
  exact RunE.retP (.r1 rfl (.tmp rfl)) (by first | rfl | simp)
theorem rless_calls (a b : Int × Int) (h : (-9000000000000000000 ≤ a.1 - b.2 ∧ a.1 - b.2 ≤ 9000000000000000000) ∧ -9000000000000000000 ≤ a.2 - b.1 ∧ a.2 - b.1 ≤ 9000000000000000000) (W : World) : Calls Try.prog 39 #[b2v a, b2v b] W (Pure (b2v (lessZ a b)) W) := by
  refine calls_start Try.func39 rfl rfl ?_
  refine RunC.seq ?_
  refine RunC.region ?_
  refine RunL.new (New.box rfl) rfl rfl rfl (fun b2 => ?_)
  refine RunL.new (New.box rfl) rfl rfl rfl (fun b3 => ?_)
  refine RunL.new (New.alloc zero_23) rfl rfl rfl (fun b4 => ?_)
  refine RunL.nil ?_
  refine RunE.next ?_
  refine RunC.seq ?_
  refine RunC.region ?_
  refine RunL.val (Val.fieldAddr rfl fld_23_0) rfl rfl rfl ?_
  refine RunL.val (Val.load_one rfl (.tail _ (.tail _ (.head _))) ty_3 rfl) rfl rfl rfl ?_
  refine RunL.val (Val.fieldAddr rfl fld_23_1) rfl rfl rfl ?_
  refine RunL.val (Val.load_one rfl (.tail _ (.head _)) ty_3 rfl) rfl rfl rfl ?_
  refine RunL.val (Val.sub' rfl rfl (IntWalk.i64_in _ ⟨by omega, by omega⟩)) rfl rfl rfl ?_
  refine RunL.val (Val.fieldAddr rfl fld_23_1) rfl rfl rfl ?_
  refine RunL.val (Val.load_one rfl (.tail _ (.tail _ (.head _))) ty_3 rfl) rfl rfl rfl ?_
  refine RunL.val (Val.fieldAddr rfl fld_23_0) rfl rfl rfl ?_
  refine RunL.val (Val.load_one rfl (.tail _ (.head _)) ty_3 rfl) rfl rfl rfl ?_
  refine RunL.val (Val.sub' rfl rfl (IntWalk.i64_in _ ⟨by omega, by omega⟩)) rfl rfl rfl ?_
  refine RunL.val (Val.build (parts := [(0, .tmp 9), (1, .tmp 14)]) rfl zero_23 places_23 rfl) rfl rfl rfl ?_
  refine RunL.sto (Sto.store rfl rfl .here ty_23 rfl rfl) rfl rfl ?_
  refine RunL.nil ?_
  refine RunE.next ?_
  refine RunC.ret ?_
  exact RunE.retP (.r1 rfl (.agg rfl (.head _) ty_23 rfl)) (by first | rfl | simp)
theorem lspan5_calls (a b : Int) (W : World) : Calls Try.prog 22 #[.int .i64 a, .int .i64 b] W (Pure (b2v (a, b)) W) := by
  refine calls_start Try.func22 rfl rfl ?_
  refine RunC.seq ?_
  refine RunC.region ?_
  refine RunL.new (New.alloc zero_23) rfl rfl rfl (fun b4 => ?_)
  refine RunL.nil ?_
  refine RunE.next ?_
  refine RunC.seq ?_
  refine RunC.region ?_
  refine RunL.val (Val.pure rfl) rfl rfl rfl ?_
  refine RunL.val (Val.pure rfl) rfl rfl rfl ?_
  refine RunL.val (Val.build (parts := [(0, .tmp 5), (1, .tmp 6)]) rfl zero_23 places_23 rfl) rfl rfl rfl ?_
  refine RunL.sto (Sto.store rfl rfl .here ty_23 rfl rfl) rfl rfl ?_
  refine RunL.nil ?_
  refine RunE.next ?_
  refine RunC.ret ?_
  exact RunE.retP (.r1 rfl (.agg rfl (.head _) ty_23 rfl)) (by first | rfl | simp)
theorem ldown_calls (a b : Int) (hb : 0 < b) (ha : -4000000000000000000 ≤ a ∧ a ≤ 4000000000000000000) (W : World) : Calls Try.prog 29 #[.int .i64 a, .int .i64 b] W (Pure (.int .i64 (a / b)) W) := by
  have hd := tdiv_bd hb ha
  refine calls_start Try.func29 rfl rfl ?_
  refine RunC.seq ?_
  refine RunC.region ?_
  refine RunL.val (Val.pure rfl) rfl rfl rfl ?_
  refine RunL.nil ?_
  refine RunE.next ?_
  refine RunC.seq ?_
  refine RunC.region ?_
  refine RunL.val (Val.pure rfl) rfl rfl rfl ?_
  refine RunL.val (Val.pure rfl) rfl rfl rfl ?_
  refine RunL.val (Val.quoT rfl rfl hb (IntWalk.i64_in _ ⟨by omega, by omega⟩)) rfl rfl rfl ?_
  refine RunL.val (Val.pure rfl) rfl rfl rfl ?_
  refine RunL.nil ?_
  refine RunE.next ?_
  refine RunC.seq ?_
  refine RunC.seq ?_
  refine RunC.region ?_
  refine RunL.val (Val.pure rfl) rfl rfl rfl ?_
  refine RunL.val (Val.pure rfl) rfl rfl rfl ?_
  refine RunL.val (Val.remT rfl rfl hb) rfl rfl rfl ?_
  refine RunL.val (Val.pure rfl) rfl rfl rfl ?_
  refine RunL.nil ?_
  refine RunE.next ?_
  refine RunC.cond rfl ?_ ?_
  · intro c0
    have c0' := c0; clear c0
    try simp only [decide_eq_true_eq, decide_eq_false_iff_not, Bool.not_eq_true', Bool.not_eq_false', Bool.and_eq_true, Bool.or_eq_true, Bool.and_eq_false_iff, Bool.or_eq_false_iff, Int.not_le, Int.not_lt] at c0'
    refine RunC.region ?_
    refine RunL.val (Val.pure rfl) rfl rfl rfl ?_
    refine RunL.val (Val.sub' rfl rfl (IntWalk.i64_in _ ⟨by omega, by omega⟩)) rfl rfl rfl ?_
    refine RunL.val (Val.pure rfl) rfl rfl rfl ?_
    refine RunL.nil ?_
    refine RunE.next ?_
    refine RunC.seq ?_
    refine RunC.region ?_
    refine RunL.val (Val.pure rfl) rfl rfl rfl ?_
    refine RunL.val (Val.pure rfl) rfl rfl rfl ?_
    refine RunL.nil ?_
    refine RunE.next ?_
    refine RunC.ret ?_
    exact RunE.retP (.r1 rfl (.tmp rfl)) (by rw [← down_eq hb, if_pos c0'])
  · intro c0
    have c0' := c0; clear c0
    try simp only [decide_eq_true_eq, decide_eq_false_iff_not, Bool.not_eq_true', Bool.not_eq_false', Bool.and_eq_true, Bool.or_eq_true, Bool.and_eq_false_iff, Bool.or_eq_false_iff, Int.not_le, Int.not_lt] at c0'
    refine RunC.skip ?_
    refine RunE.next ?_
    refine RunC.seq ?_
    refine RunC.region ?_
    refine RunL.val (Val.pure rfl) rfl rfl rfl ?_
    refine RunL.val (Val.pure rfl) rfl rfl rfl ?_
    refine RunL.nil ?_
    refine RunE.next ?_
    refine RunC.ret ?_
    exact RunE.retP (.r1 rfl (.tmp rfl)) (by rw [← down_eq hb, if_neg (by omega)])
theorem lup_calls (a b : Int) (hb : 0 < b) (ha : -4000000000000000000 ≤ a ∧ a ≤ 4000000000000000000) (W : World) : Calls Try.prog 32 #[.int .i64 a, .int .i64 b] W (Pure (.int .i64 (-(-a / b))) W) := by
  have hd := ediv_bd (a := -a) (M := 4000000000000000000) hb (by omega)
  refine calls_start Try.func32 rfl rfl ?_
  refine RunC.seq ?_
  refine RunC.region ?_
  refine RunL.val (Val.pure rfl) rfl rfl rfl ?_
  refine RunL.nil ?_
  refine RunE.next ?_
  refine RunC.seq ?_
  refine RunC.region ?_
  refine RunL.val (Val.pure rfl) rfl rfl rfl ?_
  refine RunL.val (Val.neg rfl (IntWalk.i64_in _ ⟨by omega, by omega⟩)) rfl rfl rfl ?_
  refine RunL.val (Val.pure rfl) rfl rfl rfl ?_
  refine RunL.callP (isCall_func rfl ent_29) rfl rfl rfl (fun w hm => ldown_calls (-a) b hb (by omega) w) ?_
  refine RunL.val (Val.neg rfl (IntWalk.i64_in _ ⟨by omega, by omega⟩)) rfl rfl rfl ?_
  refine RunL.val (Val.pure rfl) rfl rfl rfl ?_
  refine RunL.nil ?_
  refine RunE.next ?_
  refine RunC.ret ?_
  exact RunE.retP (.r1 rfl (.tmp rfl)) (by first | rfl | simp)
end Go.Proofs.Ytjijeeadmhpfcaa
/- Walks of the laws of layer 5: the glacier of the examples. -/
set_option linter.unusedSimpArgs false
set_option linter.unusedVariables false
namespace Go.Proofs.Ytjijeeadmhpfcaa
open Go Go.Eng Go.Pw1

theorem lthing5_calls (far a b c d e f g h : Int) (W : World) : Calls Try.prog 78 #[.int .i64 far, .int .i64 a, .int .i64 b, .int .i64 c, .int .i64 d, .int .i64 e, .int .i64 f, .int .i64 g, .int .i64 h] W
    (Pure (.agg #[.int .i64 a, .int .i64 b, .int .i64 c, .int .i64 d, .int .i64 e, .int .i64 f, .int .i64 g, .int .i64 h, .int .i64 far]) W) := by
  refine calls_start Try.func78 rfl rfl ?_
  refine RunC.seq ?_
  refine RunC.region ?_
  refine RunL.new (New.alloc zero_54) rfl rfl rfl (fun b18 => ?_)
  refine RunL.nil ?_
  refine RunE.next ?_
  refine RunC.seq ?_
  refine RunC.region ?_
  refine RunL.val (Val.pure rfl) rfl rfl rfl ?_
  refine RunL.val (Val.pure rfl) rfl rfl rfl ?_
  refine RunL.callP (isCall_func rfl ent_22) rfl rfl rfl (fun w hm => lspan5_calls _ _ w) ?_
  refine RunL.val (Val.pure rfl) rfl rfl rfl ?_
  refine RunL.val (Val.pure rfl) rfl rfl rfl ?_
  refine RunL.callP (isCall_func rfl ent_22) rfl rfl rfl (fun w hm => lspan5_calls _ _ w) ?_
  refine RunL.val (Val.build (parts := [(0, .tmp 21), (1, .tmp 24)]) rfl zero_52 places_52 rfl) rfl rfl rfl ?_
  refine RunL.val (Val.pure rfl) rfl rfl rfl ?_
  refine RunL.val (Val.pure rfl) rfl rfl rfl ?_
  refine RunL.callP (isCall_func rfl ent_22) rfl rfl rfl (fun w hm => lspan5_calls _ _ w) ?_
  refine RunL.val (Val.pure rfl) rfl rfl rfl ?_
  refine RunL.val (Val.pure rfl) rfl rfl rfl ?_
  refine RunL.callP (isCall_func rfl ent_22) rfl rfl rfl (fun w hm => lspan5_calls _ _ w) ?_
  refine RunL.val (Val.build (parts := [(0, .tmp 28), (1, .tmp 31)]) rfl zero_52 places_52 rfl) rfl rfl rfl ?_
  refine RunL.val (Val.pure rfl) rfl rfl rfl ?_
  refine RunL.val (Val.build (parts := [(0, .tmp 25), (1, .tmp 32), (2, .tmp 33)]) rfl zero_54 places_54 rfl) rfl rfl rfl ?_
  refine RunL.sto (Sto.store rfl rfl .here ty_54 rfl rfl) rfl rfl ?_
  refine RunL.nil ?_
  refine RunE.next ?_
  refine RunC.ret ?_
  exact RunE.retP (.r1 rfl (.agg rfl (.head _) ty_54 rfl)) (by first | rfl | simp)
def th5 (far a b c d e f g h : Int) : Th := ⟨⟨a, b⟩, ⟨c, d⟩, ⟨e, f⟩, ⟨g, h⟩, far⟩
def viewP (x : Int) : Pr := ⟨⟨9000, 9000⟩, ⟨65, 66⟩, 5, 2000, 100000, [th5 3000 100 101 0 1 (-96) (-95) 0 2, th5 0 x x 10 12 (-10) (-8) 14 15, th5 0 0 2 0 0 5 6 0 0, th5 0 400 400 0 0 0 0 0 0, th5 0 10 10 0 1 0 0 10 12, th5 0 0 3 0 0 0 0 0 0]⟩
abbrev viewO (x : Int) : Obj := .cells ((viewP x).things.map Th.cells).flatten.toArray 54 (0, 0)
theorem view_calls (x : Int) (W : World) : Calls Try.prog 51 #[.int .i64 x] W (News (fun b => (viewP x).v (some ⟨b, 0, none⟩) 6) (fun b => [(b, viewO x)]) W) := by
  refine calls_start Try.func51 rfl rfl ?_
  refine RunC.seq ?_
  refine RunC.region ?_
  refine RunL.new (New.alloc zero_26) rfl rfl rfl (fun b2 => ?_)
  refine RunL.nil ?_
  refine RunE.next ?_
  refine RunC.seq ?_
  refine RunC.region ?_
  refine RunL.callP (isCall_func rfl ent_78) rfl rfl rfl (fun w hm => lthing5_calls _ _ _ _ _ _ _ _ _ w) ?_
  refine RunL.val (Val.pure rfl) rfl rfl rfl ?_
  refine RunL.val (Val.pure rfl) rfl rfl rfl ?_
  iterate 5 refine RunL.callP (isCall_func rfl ent_78) rfl rfl rfl (fun w hm => lthing5_calls _ _ _ _ _ _ _ _ _ w) ?_
  refine RunL.new (New.buildSlice (parts := [(0, .tmp 4), (1, .tmp 7), (2, .tmp 8), (3, .tmp 9), (4, .tmp 10), (5, .tmp 11)]) rfl sl_24 zero_54 rfl rfl rfl rfl) rfl rfl rfl (fun b12 => ?_)
  refine RunL.val (Val.pure rfl) rfl rfl rfl ?_
  refine RunL.nil ?_
  refine RunE.next ?_
  refine RunC.seq ?_
  refine RunC.region ?_
  refine RunL.callP (isCall_func rfl ent_22) rfl rfl rfl (fun w hm => lspan5_calls _ _ w) ?_
  refine RunL.callP (isCall_func rfl ent_22) rfl rfl rfl (fun w hm => lspan5_calls _ _ w) ?_
  refine RunL.val (Val.pure rfl) rfl rfl rfl ?_
  refine RunL.val (Val.build (parts := [(0, .tmp 13), (1, .tmp 14), (2, .const (.int .i64 5)), (3, .const (.int .i64 2000)), (4, .const (.int .i64 100000)), (5, .tmp 15)]) rfl zero_26 places_26 rfl) rfl rfl rfl ?_
  refine RunL.sto (Sto.store rfl rfl (.there .here) ty_26 rfl rfl) rfl rfl ?_
  refine RunL.nil ?_
  refine RunE.next ?_
  refine RunC.ret ?_
  exact RunE.ret (chg := []) (.r1 rfl (.agg rfl (.tail _ (.head _)) ty_26 rfl)) (fun _ hm => ⟨b12, rfl, hm.pick (.cons .here rfl .nil)⟩)
def sampleG : Gl := ⟨viewP 50, viewP 60, 100, 200⟩
def sampleA (b c : Nat) : Ga := ⟨some ⟨b, 0, none⟩, b, 0, 6, some ⟨c, 0, none⟩, c, 0, 6⟩
theorem sample5_calls (W : World) : Calls Try.prog 19 #[] W (News (fun b : Nat × Nat => sampleG.v (sampleA b.1 b.2)) (fun b => [(b.1, viewO 50), (b.2, viewO 60)]) W) := by
  refine calls_start Try.func19 rfl rfl ?_
  refine RunC.seq ?_
  refine RunC.region ?_
  refine RunL.new (New.alloc zero_28) rfl rfl rfl (fun b0 => ?_)
  refine RunL.nil ?_
  refine RunE.next ?_
  refine RunC.seq ?_
  refine RunC.region ?_
  refine RunL.callN (isCall_func rfl ent_51) rfl rfl rfl (fun w hm => view_calls 50 w) (fun b1 => ?_)
  refine RunL.callN (isCall_func rfl ent_51) rfl rfl rfl (fun w hm => view_calls 60 w) (fun b2 => ?_)
  refine RunL.val (Val.build (parts := [(0, .tmp 1), (1, .tmp 2), (2, .const (.int .i64 100)), (3, .const (.int .i64 200))]) rfl zero_28 places_28 rfl) rfl rfl rfl ?_
  refine RunL.sto (Sto.store rfl rfl (.there (.there .here)) ty_28 rfl rfl) rfl rfl ?_
  refine RunL.nil ?_
  refine RunE.next ?_
  refine RunC.ret ?_
  exact RunE.ret (chg := []) (.r1 rfl (.agg rfl (.tail _ (.tail _ (.head _))) ty_28 rfl)) (fun _ hm => ⟨(b1, b2), rfl, hm.pick (.cons (.there .here) rfl (.cons .here rfl .nil))⟩)
theorem sample_in {b c : Nat} {W : World} (h1 : W.heap[b]? = some (viewO 50)) (h2 : W.heap[c]? = some (viewO 60)) : GIn W sampleG (sampleA b c) := ⟨Sl.rows h1 (by simp [Th.cells]), Sl.rows h2 (by simp [Th.cells]), by decide, by decide⟩
end Go.Proofs.Ytjijeeadmhpfcaa
