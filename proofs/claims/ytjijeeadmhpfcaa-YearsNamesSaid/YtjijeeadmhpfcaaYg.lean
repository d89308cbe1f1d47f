/- Walks of package years: Moved, Sank, Heights, Rate, Arrives. -/
import Derived.Test.YtjijeeadmhpfcaaYf
set_option linter.unusedSimpArgs false
set_option linter.unusedVariables false
namespace Go.Proofs.Ytjijeeadmhpfcaa
open Go Go.Eng Go.Pw1

theorem ask1_ok {α : Type} {g : Gl} {n : Int} {f : Z2 → α} {v : α} (h : ask1 g n f = .ok v) : seenG g n = true ∧ v = f (farG g n) := by
  unfold ask1 at h; split at h
  · cases h; exact ⟨by assumption, rfl⟩
  · cases h
theorem ask1_err {α : Type} {g : Gl} {n : Int} {f : Z2 → α} {k : Int} (h : ask1 g n f = .error k) : seenG g n = false ∧ k = 11 := by
  unfold ask1 at h; split at h
  · cases h
  · cases h; exact ⟨by simpa using ‹¬ seenG g n = true›, rfl⟩
theorem yMoved_calls (g : Gl) (a : Ga) (n : Int) (W : World) (hG : GIn W g a) : Calls Try.prog 11 #[g.v a, .int .i64 n] W (Pure (.tuple #[b2v (gMoved g n).1, .int .i64 (gMoved g n).2]) W) := by
  refine calls_start_defers Try.func11 rfl rfl ?_
  refine RunC.seq ?_
  refine RunC.region ?_
  refine RunL.new (New.box rfl) rfl rfl rfl (fun b2 => ?_)
  refine RunL.new (New.alloc zero_23) rfl rfl rfl (fun b4 => ?_)
  refine RunL.new (New.alloc zero_31) rfl rfl rfl (fun b5 => ?_)
  refine RunL.nil ?_
  refine RunE.next ?_
  refine RunC.seq ?_
  refine RunC.region ?_
  refine RunL.val (Val.pure rfl) rfl rfl rfl ?_
  refine RunL.deferC rfl ?_
  refine RunL.nil ?_
  refine RunE.next ?_
  refine RunC.seq ?_
  refine RunC.drawP 8 fol_ (.cons .here rfl (.cons .here rfl (.cons .here rfl .nil))) ?_
  refine RunA.val (i := 0) rfl (by kernel_rfl) (by kernel_rfl) (Val.load_agg rfl (.tail _ (.tail _ (.head _))) ty_28 rfl) rfl rfl rfl (PanQ.back rfl) (.cons .here rfl (.cons .here rfl (.cons .here rfl .nil))) rfl ?_
  refine RunA.val (i := 1) rfl (by kernel_rfl) (by kernel_rfl) (Val.load_agg rfl (.tail _ (.tail _ (.head _))) ty_28 rfl) rfl rfl rfl (PanQ.back rfl) (.cons .here rfl (.cons .here rfl (.cons .here rfl .nil))) rfl ?_
  refine RunA.val (i := 2) rfl (by kernel_rfl) (by kernel_rfl) (Val.pure rfl) rfl rfl rfl (PanQ.back rfl) (.cons .here rfl (.cons .here rfl (.cons .here rfl .nil))) rfl ?_
  refine RunA.val (i := 5) rfl (by kernel_rfl) (by kernel_rfl) (Val.pure rfl) rfl rfl rfl (PanQ.back rfl) (.cons .here rfl (.cons .here rfl (.cons .here rfl .nil))) rfl ?_
  refine RunA.val (i := 6) rfl (by kernel_rfl) (by kernel_rfl) (Val.build (parts := []) rfl zero_69 places_69 rfl) rfl rfl rfl (PanQ.back rfl) (.cons .here rfl (.cons .here rfl (.cons .here rfl .nil))) rfl ?_
  refine RunA.val (i := 7) rfl (by kernel_rfl) (by kernel_rfl) (Val.makeInterface rfl noif_69) rfl rfl rfl (PanQ.back rfl) (.cons .here rfl (.cons .here rfl (.cons .here rfl .nil))) rfl ?_
  refine RunA.one (i := 3) (by kernel_rfl) (by kernel_rfl) ?_
  refine RunI.callP rfl (isCall_func rfl ent_36) rfl rfl rfl (fun w hm => yisThing_calls g a n hG.l1 w) (RunK.toA (.cons .here rfl (.cons .here rfl (.cons .here rfl .nil))) (.cons .here rfl (.cons .here rfl (.cons .here rfl .nil))) rfl ?_)
  refine RunA.one (i := 4) (by kernel_rfl) (by kernel_rfl) ?_
  refine RunI.callTN rfl (isCall_func rfl ent_35) rfl rfl rfl (fun w hm => yopen_calls g a _ w (hG.mono hm)) (fun e11 he11 => ?_) (fun a11 ha11 b11 => (RunK.toA (.cons .here rfl (.cons .here rfl (.cons .here rfl (.cons .here rfl .nil)))) (.cons (.there .here) rfl (.cons (.there .here) rfl (.cons (.there .here) rfl .nil))) rfl ?_))
  · refine RunE.panQ_panic (Sub.skip rfl (Sub.skip rfl (Sub.skip rfl (Sub.skip rfl (Sub.skip rfl (Sub.skip rfl (Sub.skip rfl (Sub.refl _)))))))) (.cons .here rfl (.cons .here rfl (.cons .here rfl .nil))) ?_
    refine RunE.pass_panic ?_
    exact RunE.panDC yMoved_catches ent_33 .here (.r2 rfl (.agg rfl (.tail _ (.head _)) ty_23 rfl) (.one rfl (.head _) ty_31 rfl)) (by simp [gMoved, askG, he11, b2v])
  refine RunA.toB (by kernel_rfl) ?_
  refine RunB.one (i := 8) (by kernel_rfl) ?_
  refine RunI.callT rfl (isCall_func rfl ent_37) rfl rfl rfl (fun w hm => yaskM_calls g a n _ w (hm.at (.head _)) (hG.mono hm)) (fun e15 he15 => ?_) (fun v15 hv15 => (RunK.toB ?_))
  · obtain ⟨hs15, rfl⟩ := ask1_err he15
    refine RunE.panQ_panic (Sub.skip rfl (Sub.skip rfl (Sub.skip rfl (Sub.skip rfl (Sub.skip rfl (Sub.skip rfl (Sub.skip rfl (Sub.skip rfl (Sub.refl _))))))))) (.cons (.there .here) rfl (.cons (.there .here) rfl (.cons (.there .here) rfl .nil))) ?_
    refine RunE.pass_panic ?_
    exact RunE.panDC yMoved_catches ent_33 .here (.r2 rfl (.agg rfl (.tail _ (.head _)) ty_23 rfl) (.one rfl (.head _) ty_31 rfl)) (by simp [gMoved, askG, ha11, hs15, b2v])
  obtain ⟨hs15, rfl⟩ := ask1_ok hv15
  refine RunB.one (i := 9) (by kernel_rfl) ?_
  refine RunI.sto rfl (Sto.store rfl rfl (.there (.there .here)) ty_23 rfl rfl) rfl rfl (RunK.toB ?_)
  refine RunB.one (i := 10) (by kernel_rfl) ?_
  refine RunI.sto rfl (Sto.store rfl rfl (.there .here) ty_31 rfl rfl) rfl rfl (RunK.toB ?_)
  refine RunB.done (by kernel_rfl) ?_
  refine RunE.panQ_normal ?_
  refine RunE.next ?_
  refine RunC.ret ?_
  exact RunE.retDC yMoved_catches ent_33 (.r2 rfl (.agg rfl (.tail _ (.tail _ (.head _))) ty_23 rfl) (.one rfl (.tail _ (.head _)) ty_31 rfl)) (by simp [gMoved, askG, ha11, hs15, b2v])
theorem ySank_calls (g : Gl) (a : Ga) (n : Int) (W : World) (hG : GIn W g a) : Calls Try.prog 15 #[g.v a, .int .i64 n] W (Pure (.tuple #[b2v (gSank g n).1, .int .i64 (gSank g n).2]) W) := by
  refine calls_start_defers Try.func15 rfl rfl ?_
  refine RunC.seq ?_
  refine RunC.region ?_
  refine RunL.new (New.box rfl) rfl rfl rfl (fun b2 => ?_)
  refine RunL.new (New.alloc zero_23) rfl rfl rfl (fun b4 => ?_)
  refine RunL.new (New.alloc zero_31) rfl rfl rfl (fun b5 => ?_)
  refine RunL.nil ?_
  refine RunE.next ?_
  refine RunC.seq ?_
  refine RunC.region ?_
  refine RunL.val (Val.pure rfl) rfl rfl rfl ?_
  refine RunL.deferC rfl ?_
  refine RunL.nil ?_
  refine RunE.next ?_
  refine RunC.seq ?_
  refine RunC.drawP 8 fol_ (.cons .here rfl (.cons .here rfl (.cons .here rfl .nil))) ?_
  refine RunA.val (i := 0) rfl (by kernel_rfl) (by kernel_rfl) (Val.load_agg rfl (.tail _ (.tail _ (.head _))) ty_28 rfl) rfl rfl rfl (PanQ.back rfl) (.cons .here rfl (.cons .here rfl (.cons .here rfl .nil))) rfl ?_
  refine RunA.val (i := 1) rfl (by kernel_rfl) (by kernel_rfl) (Val.load_agg rfl (.tail _ (.tail _ (.head _))) ty_28 rfl) rfl rfl rfl (PanQ.back rfl) (.cons .here rfl (.cons .here rfl (.cons .here rfl .nil))) rfl ?_
  refine RunA.val (i := 2) rfl (by kernel_rfl) (by kernel_rfl) (Val.pure rfl) rfl rfl rfl (PanQ.back rfl) (.cons .here rfl (.cons .here rfl (.cons .here rfl .nil))) rfl ?_
  refine RunA.val (i := 5) rfl (by kernel_rfl) (by kernel_rfl) (Val.pure rfl) rfl rfl rfl (PanQ.back rfl) (.cons .here rfl (.cons .here rfl (.cons .here rfl .nil))) rfl ?_
  refine RunA.val (i := 6) rfl (by kernel_rfl) (by kernel_rfl) (Val.build (parts := []) rfl zero_78 places_78 rfl) rfl rfl rfl (PanQ.back rfl) (.cons .here rfl (.cons .here rfl (.cons .here rfl .nil))) rfl ?_
  refine RunA.val (i := 7) rfl (by kernel_rfl) (by kernel_rfl) (Val.makeInterface rfl noif_78) rfl rfl rfl (PanQ.back rfl) (.cons .here rfl (.cons .here rfl (.cons .here rfl .nil))) rfl ?_
  refine RunA.one (i := 3) (by kernel_rfl) (by kernel_rfl) ?_
  refine RunI.callP rfl (isCall_func rfl ent_36) rfl rfl rfl (fun w hm => yisThing_calls g a n hG.l1 w) (RunK.toA (.cons .here rfl (.cons .here rfl (.cons .here rfl .nil))) (.cons .here rfl (.cons .here rfl (.cons .here rfl .nil))) rfl ?_)
  refine RunA.one (i := 4) (by kernel_rfl) (by kernel_rfl) ?_
  refine RunI.callTN rfl (isCall_func rfl ent_35) rfl rfl rfl (fun w hm => yopen_calls g a _ w (hG.mono hm)) (fun e11 he11 => ?_) (fun a11 ha11 b11 => (RunK.toA (.cons .here rfl (.cons .here rfl (.cons .here rfl (.cons .here rfl .nil)))) (.cons (.there .here) rfl (.cons (.there .here) rfl (.cons (.there .here) rfl .nil))) rfl ?_))
  · refine RunE.panQ_panic (Sub.skip rfl (Sub.skip rfl (Sub.skip rfl (Sub.skip rfl (Sub.skip rfl (Sub.skip rfl (Sub.skip rfl (Sub.refl _)))))))) (.cons .here rfl (.cons .here rfl (.cons .here rfl .nil))) ?_
    refine RunE.pass_panic ?_
    exact RunE.panDC ySank_catches ent_45 .here (.r2 rfl (.agg rfl (.tail _ (.head _)) ty_23 rfl) (.one rfl (.head _) ty_31 rfl)) (by simp [gSank, askG, he11, b2v])
  refine RunA.toB (by kernel_rfl) ?_
  refine RunB.one (i := 8) (by kernel_rfl) ?_
  refine RunI.callT rfl (isCall_func rfl ent_37) rfl rfl rfl (fun w hm => yaskS_calls g a n _ w (hm.at (.head _)) (hG.mono hm)) (fun e15 he15 => ?_) (fun v15 hv15 => (RunK.toB ?_))
  · obtain ⟨hs15, rfl⟩ := ask1_err he15
    refine RunE.panQ_panic (Sub.skip rfl (Sub.skip rfl (Sub.skip rfl (Sub.skip rfl (Sub.skip rfl (Sub.skip rfl (Sub.skip rfl (Sub.skip rfl (Sub.refl _))))))))) (.cons (.there .here) rfl (.cons (.there .here) rfl (.cons (.there .here) rfl .nil))) ?_
    refine RunE.pass_panic ?_
    exact RunE.panDC ySank_catches ent_45 .here (.r2 rfl (.agg rfl (.tail _ (.head _)) ty_23 rfl) (.one rfl (.head _) ty_31 rfl)) (by simp [gSank, askG, ha11, hs15, b2v])
  obtain ⟨hs15, rfl⟩ := ask1_ok hv15
  refine RunB.one (i := 9) (by kernel_rfl) ?_
  refine RunI.sto rfl (Sto.store rfl rfl (.there (.there .here)) ty_23 rfl rfl) rfl rfl (RunK.toB ?_)
  refine RunB.one (i := 10) (by kernel_rfl) ?_
  refine RunI.sto rfl (Sto.store rfl rfl (.there .here) ty_31 rfl rfl) rfl rfl (RunK.toB ?_)
  refine RunB.done (by kernel_rfl) ?_
  refine RunE.panQ_normal ?_
  refine RunE.next ?_
  refine RunC.ret ?_
  exact RunE.retDC ySank_catches ent_45 (.r2 rfl (.agg rfl (.tail _ (.tail _ (.head _))) ty_23 rfl) (.one rfl (.tail _ (.head _)) ty_31 rfl)) (by simp [gSank, askG, ha11, hs15, b2v])
end Go.Proofs.Ytjijeeadmhpfcaa
