/- Walks of package pair: Shift, Nearer, Power, Stands. -/
import Derived.Test.YthoheicppmbepaaGreatPe
set_option linter.unusedSimpArgs false
set_option linter.unusedVariables false
namespace Go.Proofs.YthoheicppmbepaaGreat
open Go Go.Eng Go.Pw1

theorem Shift_calls (p : Pr) (n : Int) (q : Option Addr) (b o cap : Nat) (W : World) (hS : Sl W q b o 9 (p.things.map Th.cells)) (hl : p.things.length ≤ 100000000000) :
    Calls Tryz.prog 60 #[p.v q cap, .int .i64 n] W (Pure (.tuple #[b2v (shiftX p n).1, .int .i64 (shiftX p n).2]) W) := by
  refine calls_start_defers Tryz.func60 rfl rfl ?_
  refine RunC.seq ?_
  refine RunC.region ?_
  refine RunL.new (New.box rfl) rfl rfl rfl (fun b2 => ?_)
  refine RunL.new (New.alloc zero_23) rfl rfl rfl (fun b4 => ?_)
  refine RunL.new (New.alloc zero_32) rfl rfl rfl (fun b5 => ?_)
  refine RunL.nil ?_
  refine RunE.next ?_
  refine RunC.seq ?_
  refine RunC.region ?_
  refine RunL.defer rfl ?_
  refine RunL.nil ?_
  refine RunE.next ?_
  refine RunC.seq ?_
  refine RunC.region ?_
  refine RunL.val (Val.load_agg rfl (.tail _ (.tail _ (.head _))) ty_26 rfl) rfl rfl rfl ?_
  refine RunL.val (Val.pure rfl) rfl rfl rfl ?_
  refine RunL.new (New.buildSlice (parts := [(0, .tmp 7)]) rfl sl_55 zero_3 rfl rfl rfl rfl) rfl rfl rfl (fun b8 => ?_)
  refine RunL.callTN (isCall_func rfl ent_68) rfl rfl rfl (fun w hm => open_calls p q b o cap [_] _ _ _ _ w (hS.mono (by decide) hm (by simp)) hl (Sl.row1 (hm.at (.head _))) (by simp)) (fun e9 he9 => ?_) (fun a9 ha9 b9 => ?_)
  · refine RunE.pass_panic ?_
    exact RunE.panD catches ent_67 (.there .here) (.r2 rfl (.agg rfl (.tail _ (.tail _ (.head _))) ty_23 rfl) (.one rfl (.tail _ (.head _)) ty_32 rfl)) (by simp [b2v, shiftX, he9])
  have hp := isPair_ok (openX_ok ha9).1
  obtain ⟨k, rfl, hk⟩ := openX_in ha9 (List.mem_singleton.2 rfl)
  obtain ⟨t, ht⟩ : ∃ t, p.things[k] = t := ⟨_, rfl⟩
  have hth := hp.ths _ (List.getElem_mem hk)
  rw [ht] at hth
  refine RunL.val (Val.pure rfl) rfl rfl rfl ?_
  refine RunL.val (Val.fieldAddr rfl fld_113_0) rfl rfl rfl ?_
  refine RunL.val (Val.fieldAddr rfl fld_26_5) rfl rfl rfl ?_
  refine RunL.val (Val.load_one rfl (.head _) ty_24 rfl) rfl rfl rfl ?_
  refine RunL.val (Val.pure rfl) rfl rfl rfl ?_
  refine RunL.val (Val.indexAddr_slp rfl rfl sl_24 (by omega) (by omega) (hS.ptrM hk)) rfl rfl rfl ?_
  refine RunL.val (Val.load_gen rfl (fun w hm => hS.loadX (by decide) hm (by simp) ty_76 hk ht)) rfl rfl rfl ?_
  refine RunL.callP (isCall_func rfl ent_90) rfl rfl rfl (fun w hm => shiftOf_calls t hth.1 w) ?_
  refine RunL.sto (Sto.store rfl rfl (.there (.there (.there .here))) ty_23 rfl rfl) rfl rfl ?_
  refine RunL.sto (Sto.store rfl rfl (.there (.there .here)) ty_32 rfl rfl) rfl rfl ?_
  refine RunL.nil ?_
  refine RunE.next ?_
  refine RunC.ret ?_
  exact RunE.retD catches ent_67 (.r2 rfl (.agg rfl (.tail _ (.tail _ (.tail _ (.head _)))) ty_23 rfl) (.one rfl (.tail _ (.tail _ (.head _))) ty_32 rfl)) (by simp [b2v, shiftX, ha9, thingAt_eq hk ht])
theorem Power_calls (p : Pr) (q : Option Addr) (b o cap : Nat) (W : World) (hS : Sl W q b o 9 (p.things.map Th.cells)) (hl : p.things.length ≤ 100000000000) :
    Calls Tryz.prog 79 #[p.v q cap] W (Pure (.tuple #[b2v (powerX p).1, .int .i64 (powerX p).2]) W) := by
  refine calls_start_defers Tryz.func79 rfl rfl ?_
  refine RunC.seq ?_
  refine RunC.region ?_
  refine RunL.new (New.box rfl) rfl rfl rfl (fun b1 => ?_)
  refine RunL.new (New.alloc zero_23) rfl rfl rfl (fun b2 => ?_)
  refine RunL.new (New.alloc zero_32) rfl rfl rfl (fun b3 => ?_)
  refine RunL.nil ?_
  refine RunE.next ?_
  refine RunC.seq ?_
  refine RunC.region ?_
  refine RunL.defer rfl ?_
  refine RunL.nil ?_
  refine RunE.next ?_
  refine RunC.seq ?_
  refine RunC.region ?_
  refine RunL.val (Val.load_agg rfl (.tail _ (.tail _ (.head _))) ty_26 rfl) rfl rfl rfl ?_
  refine RunL.callTN (isCall_func rfl ent_82) rfl rfl rfl (fun w hm => truths_calls p q b o cap [] _ 0 0 _ w (hS.mono (by decide) hm (by simp)) hl Sl.emp (by simp)) (fun e5 he5 => ?_) (fun a5 ha5 b5 => ?_)
  · refine RunE.pass_panic ?_
    exact RunE.panD catches ent_67 .here (.r2 rfl (.agg rfl (.tail _ (.head _)) ty_23 rfl) (.one rfl (.head _) ty_32 rfl)) (by simp [b2v, powerX, he5])
  refine RunL.val (Val.pure rfl) rfl rfl rfl ?_
  refine RunL.val (Val.fieldAddr rfl fld_113_1) rfl rfl rfl ?_
  refine RunL.val (Val.load_agg rfl (.head _) ty_111 rfl) rfl rfl rfl ?_
  refine RunL.callP (isCall_func rfl ent_100) rfl rfl rfl (fun w hm => spanOf_calls a5 w) ?_
  refine RunL.sto (Sto.store rfl rfl (.there (.there .here)) ty_23 rfl rfl) rfl rfl ?_
  refine RunL.sto (Sto.store rfl rfl (.there .here) ty_32 rfl rfl) rfl rfl ?_
  refine RunL.nil ?_
  refine RunE.next ?_
  refine RunC.ret ?_
  exact RunE.retD catches ent_67 (.r2 rfl (.agg rfl (.tail _ (.tail _ (.head _))) ty_23 rfl) (.one rfl (.tail _ (.head _)) ty_32 rfl)) (by simp [b2v, powerX, ha5])
theorem Stands_calls (p : Pr) (far : Int) (q : Option Addr) (b o cap : Nat) (W : World) (hS : Sl W q b o 9 (p.things.map Th.cells)) (hl : p.things.length ≤ 100000000000) :
    Calls Tryz.prog 43 #[p.v q cap, .int .i64 far] W (Pure (.tuple #[b2v (standsX p far).1, .int .i64 (standsX p far).2]) W) := by
  refine calls_start_defers Tryz.func43 rfl rfl ?_
  refine RunC.seq ?_
  refine RunC.region ?_
  refine RunL.new (New.box rfl) rfl rfl rfl (fun b2 => ?_)
  refine RunL.new (New.alloc zero_23) rfl rfl rfl (fun b4 => ?_)
  refine RunL.new (New.alloc zero_32) rfl rfl rfl (fun b5 => ?_)
  refine RunL.nil ?_
  refine RunE.next ?_
  refine RunC.seq ?_
  refine RunC.region ?_
  refine RunL.defer rfl ?_
  refine RunL.nil ?_
  refine RunE.next ?_
  refine RunC.seq ?_
  refine RunC.region ?_
  refine RunL.val (Val.load_agg rfl (.tail _ (.tail _ (.head _))) ty_26 rfl) rfl rfl rfl ?_
  refine RunL.callTN (isCall_func rfl ent_68) rfl rfl rfl (fun w hm => open_calls p q b o cap [] _ 0 0 _ w (hS.mono (by decide) hm (by simp)) hl Sl.emp (by simp)) (fun e8 he8 => ?_) (fun a8 ha8 b8 => ?_)
  · refine RunE.pass_panic ?_
    exact RunE.panD catches ent_67 .here (.r2 rfl (.agg rfl (.tail _ (.head _)) ty_23 rfl) (.one rfl (.head _) ty_32 rfl)) (by simp [b2v, standsX, he8])
  have hp := isPair_ok (openX_ok ha8).1
  refine RunL.val (Val.pure rfl) rfl rfl rfl ?_
  refine RunL.nil ?_
  refine RunE.next ?_
  refine RunC.seq ?_
  refine RunC.drawP 11 fol_ (.cons .here rfl (.cons .here rfl (.cons .here rfl (.cons .here rfl .nil)))) ?_
  refine RunA.val (i := 0) rfl (by kernel_rfl) (by kernel_rfl) (Val.pure rfl) rfl rfl rfl (PanQ.back rfl) (.cons .here rfl (.cons .here rfl (.cons .here rfl (.cons .here rfl .nil)))) rfl ?_
  refine RunA.val (i := 1) rfl (by kernel_rfl) (by kernel_rfl) (Val.pure rfl) rfl rfl rfl (PanQ.back rfl) (.cons .here rfl (.cons .here rfl (.cons .here rfl (.cons .here rfl .nil)))) rfl ?_
  refine RunA.val (i := 2) rfl (by kernel_rfl) (by kernel_rfl) (Val.pure rfl) rfl rfl rfl (PanQ.back rfl) (.cons .here rfl (.cons .here rfl (.cons .here rfl (.cons .here rfl .nil)))) rfl ?_
  refine RunA.val (i := 3) rfl (by kernel_rfl) (by kernel_rfl) (Val.fieldAddr rfl fld_113_0) rfl rfl rfl (PanQ.back rfl) (.cons .here rfl (.cons .here rfl (.cons .here rfl (.cons .here rfl .nil)))) rfl ?_
  refine RunA.val (i := 4) rfl (by kernel_rfl) (by kernel_rfl) (Val.fieldAddr rfl fld_26_3) rfl rfl rfl (PanQ.back rfl) (.cons .here rfl (.cons .here rfl (.cons .here rfl (.cons .here rfl .nil)))) rfl ?_
  refine RunA.val (i := 5) rfl (by kernel_rfl) (by kernel_rfl) (Val.load_one rfl (.head _) ty_3 rfl) rfl rfl rfl (PanQ.back rfl) (.cons .here rfl (.cons .here rfl (.cons .here rfl (.cons .here rfl .nil)))) rfl ?_
  refine RunA.val (i := 6) rfl (by kernel_rfl) (by kernel_rfl) (Val.pure rfl) rfl rfl rfl (PanQ.back rfl) (.cons .here rfl (.cons .here rfl (.cons .here rfl (.cons .here rfl .nil)))) rfl ?_
  refine RunA.val (i := 7) rfl (by kernel_rfl) (by kernel_rfl) (Val.pure rfl) rfl rfl rfl (PanQ.back rfl) (.cons .here rfl (.cons .here rfl (.cons .here rfl (.cons .here rfl .nil)))) rfl ?_
  refine RunA.val (i := 8) rfl (by kernel_rfl) (by kernel_rfl) (Val.fieldAddr rfl fld_113_0) rfl rfl rfl (PanQ.back rfl) (.cons .here rfl (.cons .here rfl (.cons .here rfl (.cons .here rfl .nil)))) rfl ?_
  refine RunA.val (i := 9) rfl (by kernel_rfl) (by kernel_rfl) (Val.fieldAddr rfl fld_26_4) rfl rfl rfl (PanQ.back rfl) (.cons .here rfl (.cons .here rfl (.cons .here rfl (.cons .here rfl .nil)))) rfl ?_
  refine RunA.val (i := 10) rfl (by kernel_rfl) (by kernel_rfl) (Val.load_one rfl (.head _) ty_3 rfl) rfl rfl rfl (PanQ.back rfl) (.cons .here rfl (.cons .here rfl (.cons .here rfl (.cons .here rfl .nil)))) rfl ?_
  refine RunA.toB (by kernel_rfl) ?_
  refine RunB.one (i := 11) (by kernel_rfl) ?_
  refine RunI.callP rfl (isCall_func rfl ent_70) rfl rfl rfl (fun w hm => within_calls _ _ _ w) (RunK.toB ?_)
  refine RunB.one (i := 12) (by kernel_rfl) ?_
  refine RunI.callT rfl (isCall_func rfl ent_69) rfl rfl rfl (fun w hm => need_calls _ _ w) (fun e21 he21 => ?_) (fun v21 hv21 => (RunK.toB ?_))
  · obtain ⟨er21, rfl⟩ := need_err he21
    refine RunE.panQ_panic (Sub.skip rfl (Sub.skip rfl (Sub.skip rfl (Sub.skip rfl (Sub.skip rfl (Sub.skip rfl (Sub.skip rfl (Sub.skip rfl (Sub.skip rfl (Sub.skip rfl (Sub.skip rfl (Sub.skip rfl (Sub.refl _))))))))))))) (.cons .here rfl (.cons .here rfl (.cons .here rfl (.cons .here rfl .nil)))) ?_
    refine RunE.pass_panic ?_
    exact RunE.panD catches ent_67 (.there .here) (.r2 rfl (.agg rfl (.tail _ (.tail _ (.head _))) ty_23 rfl) (.one rfl (.tail _ (.head _)) ty_32 rfl)) (by simp [b2v, standsX, ha8, er21])
  obtain ⟨ok21, rfl⟩ := need_ok hv21
  refine RunB.done (by kernel_rfl) ?_
  refine RunE.panQ_normal ?_
  refine RunE.next ?_
  refine RunC.seq ?_
  refine RunC.region ?_
  refine RunL.val (Val.pure rfl) rfl rfl rfl ?_
  refine RunL.callTU (isCall_func rfl ent_71) rfl rfl rfl (fun _ => .here) (fun w hm => look_calls p hp q b o cap (0, 0) _ w (hm.at (.head _)) (hS.mono (by decide) hm (by simp)) (hS.ne (by decide) hm (.head _))) (fun e23 he23 o23 => ?_) (fun a23 ha23 => ?_)
  · refine RunE.pass_panic ?_
    exact RunE.panD catches ent_67 (.there .here) (.r2 rfl (.agg rfl (.tail _ (.tail _ (.head _))) ty_23 rfl) (.one rfl (.tail _ (.head _)) ty_32 rfl)) (by simp [b2v, standsX, ha8, ok21, he23])
  have pb := look_bd hp ha23
  have n1 := hp.n1
  have hw := ok21
  simp only [within, Bool.and_eq_true, decide_eq_true_eq] at hw
  refine RunL.nil ?_
  refine RunE.next ?_
  refine RunC.seq ?_
  refine RunC.drawN 17 fol_ (.cons .here rfl (.cons .here rfl (.cons (.there .here) rfl .nil))) ?_
  refine RunA.val (i := 0) rfl (by kernel_rfl) (by kernel_rfl) (Val.pure rfl) rfl rfl rfl (fun _ _ _ h => h) (.cons .here rfl (.cons .here rfl (.cons (.there .here) rfl .nil))) rfl ?_
  refine RunA.val (i := 1) rfl (by kernel_rfl) (by kernel_rfl) (Val.pure rfl) rfl rfl rfl (fun _ _ _ h => h) (.cons .here rfl (.cons .here rfl (.cons (.there .here) rfl .nil))) rfl ?_
  refine RunA.val (i := 2) rfl (by kernel_rfl) (by kernel_rfl) (Val.fieldAddr rfl fld_113_1) rfl rfl rfl (fun _ _ _ h => h) (.cons .here rfl (.cons .here rfl (.cons (.there .here) rfl .nil))) rfl ?_
  refine RunA.val (i := 3) rfl (by kernel_rfl) (by kernel_rfl) (Val.indexAddr_arr rfl rfl arr_111 (by decide) (by decide)) rfl rfl rfl (fun _ _ _ h => h) (.cons .here rfl (.cons .here rfl (.cons (.there .here) rfl .nil))) rfl ?_
  refine RunA.val (i := 4) rfl (by kernel_rfl) (by kernel_rfl) (Val.load_one rfl (.head _) ty_3 rfl) rfl rfl rfl (fun _ _ _ h => h) (.cons .here rfl (.cons .here rfl (.cons (.there .here) rfl .nil))) rfl ?_
  refine RunA.val (i := 5) rfl (by kernel_rfl) (by kernel_rfl) (Val.pure rfl) rfl rfl rfl (fun _ _ _ h => h) (.cons .here rfl (.cons .here rfl (.cons (.there .here) rfl .nil))) rfl ?_
  refine RunA.val (i := 6) rfl (by kernel_rfl) (by kernel_rfl) (Val.quo rfl rfl (by omega) (by omega) (IntWalk.i64_in _ (div_rng (by omega) (by omega) (by omega)))) rfl rfl rfl (fun _ _ _ h => h) (.cons .here rfl (.cons .here rfl (.cons (.there .here) rfl .nil))) rfl ?_
  refine RunA.val (i := 7) rfl (by kernel_rfl) (by kernel_rfl) (Val.pure rfl) rfl rfl rfl (fun _ _ _ h => h) (.cons .here rfl (.cons .here rfl (.cons (.there .here) rfl .nil))) rfl ?_
  refine RunA.val (i := 8) rfl (by kernel_rfl) (by kernel_rfl) (Val.pure rfl) rfl rfl rfl (fun _ _ _ h => h) (.cons .here rfl (.cons .here rfl (.cons (.there .here) rfl .nil))) rfl ?_
  refine RunA.val (i := 9) rfl (by kernel_rfl) (by kernel_rfl) (Val.fieldAddr rfl fld_113_1) rfl rfl rfl (fun _ _ _ h => h) (.cons .here rfl (.cons .here rfl (.cons (.there .here) rfl .nil))) rfl ?_
  refine RunA.val (i := 10) rfl (by kernel_rfl) (by kernel_rfl) (Val.indexAddr_arr rfl rfl arr_111 (by decide) (by decide)) rfl rfl rfl (fun _ _ _ h => h) (.cons .here rfl (.cons .here rfl (.cons (.there .here) rfl .nil))) rfl ?_
  refine RunA.val (i := 11) rfl (by kernel_rfl) (by kernel_rfl) (Val.load_one rfl (.head _) ty_3 rfl) rfl rfl rfl (fun _ _ _ h => h) (.cons .here rfl (.cons .here rfl (.cons (.there .here) rfl .nil))) rfl ?_
  refine RunA.val (i := 12) rfl (by kernel_rfl) (by kernel_rfl) (Val.pure rfl) rfl rfl rfl (fun _ _ _ h => h) (.cons .here rfl (.cons .here rfl (.cons (.there .here) rfl .nil))) rfl ?_
  refine RunA.val (i := 13) rfl (by kernel_rfl) (by kernel_rfl) (Val.quo rfl rfl (by omega) (by omega) (IntWalk.i64_in _ (div_rng (by omega) (by omega) (by omega)))) rfl rfl rfl (fun _ _ _ h => h) (.cons .here rfl (.cons .here rfl (.cons (.there .here) rfl .nil))) rfl ?_
  refine RunA.one (i := 14) (by kernel_rfl) (by kernel_rfl) ?_
  refine RunI.sto rfl (Sto.store rfl rfl (.there (.there .here)) ty_23 rfl rfl) rfl rfl (RunK.toA (.cons .here rfl (.cons .here rfl (.cons (.there .here) rfl .nil))) (.cons .here rfl (.cons .here rfl (.cons .here rfl .nil))) rfl ?_)
  refine RunA.val (i := 15) rfl (by kernel_rfl) (by kernel_rfl) (Val.fieldAddr rfl fld_23_0) rfl rfl rfl (fun _ _ _ h => h) (.cons .here rfl (.cons .here rfl (.cons (.there .here) rfl .nil))) rfl ?_
  refine RunA.one (i := 16) (by kernel_rfl) (by kernel_rfl) ?_
  refine RunI.sto rfl (Sto.store rfl rfl (.there (.there .here)) ty_3 rfl rfl) rfl rfl (RunK.toA (.cons .here rfl (.cons .here rfl (.cons (.there .here) rfl .nil))) (.cons .here rfl (.cons .here rfl (.cons .here rfl .nil))) rfl ?_)
  refine RunA.toB (by kernel_rfl) ?_
  refine RunB.one (i := 17) (by kernel_rfl) ?_
  refine RunI.val rfl (Val.fieldAddr rfl fld_23_1) rfl rfl rfl (RunK.toB ?_)
  refine RunB.one (i := 18) (by kernel_rfl) ?_
  refine RunI.sto rfl (Sto.store rfl rfl (.there (.there .here)) ty_3 rfl rfl) rfl rfl (RunK.toB ?_)
  refine RunB.one (i := 19) (by kernel_rfl) ?_
  refine RunI.sto rfl (Sto.store rfl rfl (.there .here) ty_32 rfl rfl) rfl rfl (RunK.toB ?_)
  refine RunB.done (by kernel_rfl) ?_
  refine RunE.noPan ?_
  refine RunE.next ?_
  refine RunC.ret ?_
  exact RunE.retD catches ent_67 (.r2 rfl (.agg rfl (.tail _ (.tail _ (.head _))) ty_23 rfl) (.one rfl (.tail _ (.head _)) ty_32 rfl)) (by simp [b2v, standsX, ha8, ok21, ha23])
end Go.Proofs.YthoheicppmbepaaGreat
