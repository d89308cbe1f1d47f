/- Walks of package pair: what a thing says of the power. -/
import Derived.Test.YthoheicppmbepaaGreatPa
set_option linter.unusedSimpArgs false
set_option linter.unusedVariables false
namespace Go.Proofs.YthoheicppmbepaaGreat
open Go Go.Eng Go.Pw1

theorem shown_calls (t : Th) (ht : t.Ok) (W : World) : Calls Tryz.prog 101 #[t.v] W (Pure (.tuple #[b2v (shownS t), .bool (isB (shownS t))]) W) := by
  refine calls_start Tryz.func101 rfl rfl ?_
  refine RunC.seq ?_
  refine RunC.region ?_
  refine RunL.new (New.box rfl) rfl rfl rfl (fun b1 => ?_)
  refine RunL.new (New.alloc zero_111) rfl rfl rfl (fun b2 => ?_)
  refine RunL.val (Val.pure rfl) rfl rfl rfl ?_
  refine RunL.nil ?_
  refine RunE.next ?_
  refine RunC.seq ?_
  refine RunC.region ?_
  refine RunL.val (Val.load_agg rfl (.tail _ (.head _)) ty_76 rfl) rfl rfl rfl ?_
  refine RunL.callP (isCall_func rfl ent_90) rfl rfl rfl (fun w hm => shiftOf_calls ⟨⟨_, _⟩, ⟨_, _⟩, ⟨_, _⟩, ⟨_, _⟩, _⟩ (by assumption) w) ?_
  refine RunL.new (New.alloc zero_23) rfl rfl rfl (fun b4 => ?_)
  refine RunL.sto (Sto.store rfl rfl .here ty_23 rfl rfl) rfl rfl ?_
  refine RunL.nil ?_
  refine RunE.next ?_
  refine RunC.seq ?_
  refine RunC.region ?_
  refine RunL.val (Val.fieldAddr rfl fld_23_0) rfl rfl rfl ?_
  refine RunL.val (Val.load_one rfl (.head _) ty_3 rfl) rfl rfl rfl ?_
  refine RunL.val (Val.fieldAddr rfl fld_23_1) rfl rfl rfl ?_
  refine RunL.val (Val.load_one rfl (.head _) ty_3 rfl) rfl rfl rfl ?_
  refine RunL.val (Val.build (parts := [(0, .tmp 8), (1, .tmp 10)]) rfl zero_111 places_111 rfl) rfl rfl rfl ?_
  refine RunL.val (Val.build (parts := [(0, .const (.int .i64 0)), (1, .const (.int .i64 2000))]) rfl zero_111 places_111 rfl) rfl rfl rfl ?_
  refine RunL.new (New.buildSlice (parts := [(0, .tmp 12)]) rfl sl_164 zero_111 rfl rfl rfl rfl) rfl rfl rfl (fun b13 => ?_)
  refine RunL.callP (isCall_func rfl ent_103) rfl rfl rfl (fun w hm => narrowed_calls (_, _) [(_, _)] _ _ _ _ w (Sl.one (hm.at (.head _)) rfl) (by simp)) ?_
  refine RunL.val (Val.pure rfl) rfl rfl rfl ?_
  refine RunL.val (Val.pure rfl) rfl rfl rfl ?_
  refine RunL.sto (Sto.store rfl rfl (.there (.there .here)) ty_111 rfl rfl) rfl rfl ?_
  refine RunL.val (Val.pure rfl) rfl rfl rfl ?_
  refine RunL.nil ?_
  refine RunE.next ?_
  refine RunC.ret ?_
  exact RunE.retP (.r2 rfl (.agg rfl (.tail _ (.tail _ (.head _))) ty_111 rfl) (.tmp rfl)) (by first | rfl | simp)
theorem level_calls (p : Pr) (hp : p.Ok) (q : Option Addr) (cap : Nat) (pw : Int × Int) (t : Th) (ht : t.Ok) (bv : Nat) (W : World) (hV : W.heap[bv]? = some (.cells (vwCells p q cap pw).toArray 113 (0, 0))) :
    Calls Tryz.prog 102 #[.pointer (some ⟨bv, 0, none⟩), t.v] W (Pure (.bool (levelS p t)) W) := by
  obtain ⟨⟨h1, h2, h3⟩, ⟨h4, h5, h6⟩, ⟨h7, h8, h9⟩, ⟨h10, h11, h12⟩⟩ := ht
  have t1 := hp.t1
  have t2 := hp.t2
  refine calls_start Tryz.func102 rfl rfl ?_
  refine RunC.seq ?_
  refine RunC.region ?_
  refine RunL.new (New.box rfl) rfl rfl rfl (fun b3 => ?_)
  refine RunL.val (Val.pure rfl) rfl rfl rfl ?_
  refine RunL.nil ?_
  refine RunE.next ?_
  refine RunC.seq ?_
  refine RunC.region ?_
  refine RunL.val (Val.fieldAddr rfl fld_76_0) rfl rfl rfl ?_
  refine RunL.val (Val.fieldAddr rfl fld_74_1) rfl rfl rfl ?_
  refine RunL.val (Val.fieldAddr rfl fld_23_0) rfl rfl rfl ?_
  refine RunL.val (Val.load_one rfl (.head _) ty_3 rfl) rfl rfl rfl ?_
  refine RunL.val (Val.fieldAddr rfl fld_76_1) rfl rfl rfl ?_
  refine RunL.val (Val.fieldAddr rfl fld_74_1) rfl rfl rfl ?_
  refine RunL.val (Val.fieldAddr rfl fld_23_1) rfl rfl rfl ?_
  refine RunL.val (Val.load_one rfl (.head _) ty_3 rfl) rfl rfl rfl ?_
  refine RunL.val (Val.sub' rfl rfl (IntWalk.i64_in _ ⟨by omega, by omega⟩)) rfl rfl rfl ?_
  refine RunL.val (Val.fieldAddr rfl fld_76_0) rfl rfl rfl ?_
  refine RunL.val (Val.fieldAddr rfl fld_74_1) rfl rfl rfl ?_
  refine RunL.val (Val.fieldAddr rfl fld_23_1) rfl rfl rfl ?_
  refine RunL.val (Val.load_one rfl (.head _) ty_3 rfl) rfl rfl rfl ?_
  refine RunL.val (Val.fieldAddr rfl fld_76_1) rfl rfl rfl ?_
  refine RunL.val (Val.fieldAddr rfl fld_74_1) rfl rfl rfl ?_
  refine RunL.val (Val.fieldAddr rfl fld_23_0) rfl rfl rfl ?_
  refine RunL.val (Val.load_one rfl (.head _) ty_3 rfl) rfl rfl rfl ?_
  refine RunL.val (Val.sub' rfl rfl (IntWalk.i64_in _ ⟨by omega, by omega⟩)) rfl rfl rfl ?_
  refine RunL.val (Val.build (parts := [(0, .tmp 16), (1, .tmp 25)]) rfl zero_111 places_111 rfl) rfl rfl rfl ?_
  refine RunL.new (New.alloc zero_111) rfl rfl rfl (fun b5 => ?_)
  refine RunL.sto (Sto.store rfl rfl .here ty_111 rfl rfl) rfl rfl ?_
  refine RunL.nil ?_
  refine RunE.next ?_
  refine RunC.seq ?_
  apply RunC.drawJ (J := J2 _ _ _ _ _ _) 20 fol_ (.cons .here rfl (.cons .here rfl .nil))
  · refine RunA.val (i := 0) rfl (by kernel_rfl) (by kernel_rfl) (Val.load_agg rfl (.head _) ty_111 rfl) rfl rfl rfl (fun _ _ _ h => h) (.cons .here rfl (.cons .here rfl .nil)) rfl ?_
    refine RunA.val (i := 1) rfl (by kernel_rfl) (by kernel_rfl) (Val.pure rfl) rfl rfl rfl (fun _ _ _ h => h) (.cons .here rfl (.cons .here rfl .nil)) rfl ?_
    refine RunA.val (i := 2) rfl (by kernel_rfl) (by kernel_rfl) (Val.pure rfl) rfl rfl rfl (fun _ _ _ h => h) (.cons .here rfl (.cons .here rfl .nil)) rfl ?_
    refine RunA.val (i := 3) rfl (by kernel_rfl) (by kernel_rfl) (Val.fieldAddr rfl fld_113_0) rfl rfl rfl (fun _ _ _ h => h) (.cons .here rfl (.cons .here rfl .nil)) rfl ?_
    refine RunA.val (i := 4) rfl (by kernel_rfl) (by kernel_rfl) (Val.fieldAddr rfl fld_26_2) rfl rfl rfl (fun _ _ _ h => h) (.cons .here rfl (.cons .here rfl .nil)) rfl ?_
    refine RunA.val (i := 5) rfl (by kernel_rfl) (by kernel_rfl) (Val.oload_one rfl hV (by simp) ty_3 rfl) rfl rfl rfl (fun _ _ _ h => h) (.cons .here rfl (.cons .here rfl .nil)) rfl ?_
    refine RunA.val (i := 6) rfl (by kernel_rfl) (by kernel_rfl) (Val.neg rfl (IntWalk.i64_in _ ⟨by omega, by omega⟩)) rfl rfl rfl (fun _ _ _ h => h) (.cons .here rfl (.cons .here rfl .nil)) rfl ?_
    refine RunA.val (i := 7) rfl (by kernel_rfl) (by kernel_rfl) (Val.pure rfl) rfl rfl rfl (fun _ _ _ h => h) (.cons .here rfl (.cons .here rfl .nil)) rfl ?_
    refine RunA.val (i := 8) rfl (by kernel_rfl) (by kernel_rfl) (Val.pure rfl) rfl rfl rfl (fun _ _ _ h => h) (.cons .here rfl (.cons .here rfl .nil)) rfl ?_
    refine RunA.val (i := 9) rfl (by kernel_rfl) (by kernel_rfl) (Val.fieldAddr rfl fld_113_0) rfl rfl rfl (fun _ _ _ h => h) (.cons .here rfl (.cons .here rfl .nil)) rfl ?_
    refine RunA.val (i := 10) rfl (by kernel_rfl) (by kernel_rfl) (Val.fieldAddr rfl fld_26_2) rfl rfl rfl (fun _ _ _ h => h) (.cons .here rfl (.cons .here rfl .nil)) rfl ?_
    refine RunA.val (i := 11) rfl (by kernel_rfl) (by kernel_rfl) (Val.oload_one rfl hV (by simp) ty_3 rfl) rfl rfl rfl (fun _ _ _ h => h) (.cons .here rfl (.cons .here rfl .nil)) rfl ?_
    refine RunA.val (i := 12) rfl (by kernel_rfl) (by kernel_rfl) (Val.build (parts := [(0, .tmp 34), (1, .tmp 39)]) rfl zero_111 places_111 rfl) rfl rfl rfl (fun _ _ _ h => h) (.cons .here rfl (.cons .here rfl .nil)) rfl ?_
    refine RunA.all (rs := [13, 18]) (by kernel_rfl) (by simp) (by kernel_rfl) (fun m hm => ?_)
    simp only [List.mem_cons, List.not_mem_nil, or_false] at hm
    rcases hm with rfl | rfl
    · refine RunI.new rfl (New.buildSlice (parts := [(0, .tmp 40)]) rfl sl_164 zero_111 rfl rfl rfl rfl) rfl rfl rfl (fun b41 => (RunK.toA (.cons .here rfl (.cons .here rfl (.cons .here rfl .nil))) (.cons (.there .here) rfl (.cons (.there .here) rfl .nil)) rfl ?_))
      refine RunA.all (rs := [14, 18]) (by kernel_rfl) (by simp) (by kernel_rfl) (fun m hm => ?_)
      simp only [List.mem_cons, List.not_mem_nil, or_false] at hm
      rcases hm with rfl | rfl
      · refine RunI.callP rfl (isCall_func rfl ent_103) rfl rfl rfl (fun w hm => narrowed_calls (_, _) [(_, _)] _ _ _ _ w (Sl.one (hm.at (.head _)) rfl) (by simp)) (RunK.toA (.cons .here rfl (.cons .here rfl (.cons .here rfl .nil))) (.cons .here rfl (.cons .here rfl (.cons .here rfl .nil))) rfl ?_)
        refine RunA.val (i := 15) rfl (by kernel_rfl) (by kernel_rfl) (Val.pure rfl) rfl rfl rfl (fun _ _ _ h => h) (.cons .here rfl (.cons .here rfl (.cons .here rfl .nil))) rfl ?_
        refine RunA.val (i := 16) rfl (by kernel_rfl) (by kernel_rfl) (Val.pure rfl) rfl rfl rfl (fun _ _ _ h => h) (.cons .here rfl (.cons .here rfl (.cons .here rfl .nil))) rfl ?_
        refine RunA.val (i := 17) rfl (by kernel_rfl) (by kernel_rfl) (Val.pure rfl) rfl rfl rfl (fun _ _ _ h => h) (.cons .here rfl (.cons .here rfl (.cons .here rfl .nil))) rfl ?_
        refine RunA.one (i := 18) (by kernel_rfl) (by kernel_rfl) ?_
        refine RunI.new rfl (New.alloc zero_111) rfl rfl rfl (fun b6 => (RunK.toA (.cons (.there .here) rfl (.cons (.there .here) rfl (.cons (.there .here) rfl .nil))) (.cons .here rfl (.cons .here rfl (.cons .here rfl .nil))) rfl ?_))
        refine RunA.one (i := 19) (by kernel_rfl) (by kernel_rfl) ?_
        refine RunI.sto rfl (Sto.store rfl rfl .here ty_111 rfl rfl) rfl rfl (RunK.toA (.cons (.there .here) rfl (.cons (.there .here) rfl (.cons (.there .here) rfl .nil))) (.cons .here rfl (.cons .here rfl (.cons .here rfl .nil))) rfl ?_)
        refine RunA.toB (by kernel_rfl) ?_
        refine RunB.one (i := 20) (by kernel_rfl) ?_
        refine RunI.val rfl (Val.pure rfl) rfl rfl rfl (RunK.toB ?_)
        refine RunB.done (by kernel_rfl) ?_
        exact RunE.join2 b41 b6 (Sub.refl _) (Pick.refl _)
      · refine RunI.new rfl (New.alloc zero_111) rfl rfl rfl (fun b6 => (RunK.toA (.cons (.there .here) rfl (.cons (.there .here) rfl (.cons (.there .here) rfl .nil))) (.cons .here rfl (.cons .here rfl (.cons .here rfl .nil))) rfl ?_))
        refine RunA.one (i := 14) (by kernel_rfl) (by kernel_rfl) ?_
        refine RunI.callP rfl (isCall_func rfl ent_103) rfl rfl rfl (fun w hm => narrowed_calls (_, _) [(_, _)] _ _ _ _ w (Sl.one (hm.at (.tail _ (.head _))) rfl) (by simp)) (RunK.toA (.cons (.there .here) rfl (.cons (.there .here) rfl (.cons (.there .here) rfl .nil))) (.cons .here rfl (.cons .here rfl (.cons .here rfl .nil))) rfl ?_)
        refine RunA.val (i := 15) rfl (by kernel_rfl) (by kernel_rfl) (Val.pure rfl) rfl rfl rfl (fun _ _ _ h => h) (.cons (.there .here) rfl (.cons (.there .here) rfl (.cons (.there .here) rfl .nil))) rfl ?_
        refine RunA.val (i := 16) rfl (by kernel_rfl) (by kernel_rfl) (Val.pure rfl) rfl rfl rfl (fun _ _ _ h => h) (.cons (.there .here) rfl (.cons (.there .here) rfl (.cons (.there .here) rfl .nil))) rfl ?_
        refine RunA.val (i := 17) rfl (by kernel_rfl) (by kernel_rfl) (Val.pure rfl) rfl rfl rfl (fun _ _ _ h => h) (.cons (.there .here) rfl (.cons (.there .here) rfl (.cons (.there .here) rfl .nil))) rfl ?_
        refine RunA.one (i := 19) (by kernel_rfl) (by kernel_rfl) ?_
        refine RunI.sto rfl (Sto.store rfl rfl .here ty_111 rfl rfl) rfl rfl (RunK.toA (.cons (.there .here) rfl (.cons (.there .here) rfl (.cons (.there .here) rfl .nil))) (.cons .here rfl (.cons .here rfl (.cons .here rfl .nil))) rfl ?_)
        refine RunA.toB (by kernel_rfl) ?_
        refine RunB.one (i := 20) (by kernel_rfl) ?_
        refine RunI.val rfl (Val.pure rfl) rfl rfl rfl (RunK.toB ?_)
        refine RunB.done (by kernel_rfl) ?_
        exact RunE.join2 b41 b6 (Sub.cons (t := 7) rfl (Sub.cons (t := 6) rfl (Sub.cons (t := 44) rfl (Sub.cons (t := 43) rfl (Sub.cons (t := 27) rfl (Sub.cons (t := 42) rfl (Sub.cons (t := 41) rfl (Sub.cons (t := 40) rfl (Sub.cons (t := 39) rfl (Sub.cons (t := 38) rfl (Sub.cons (t := 37) rfl (Sub.cons (t := 36) rfl (Sub.cons (t := 35) rfl (Sub.cons (t := 34) rfl (Sub.cons (t := 33) rfl (Sub.cons (t := 32) rfl (Sub.cons (t := 31) rfl (Sub.cons (t := 30) rfl (Sub.cons (t := 29) rfl (Sub.cons (t := 28) rfl (Sub.skip rfl (Sub.skip rfl (Sub.skip rfl (Sub.skip rfl (Sub.skip rfl (Sub.skip rfl (Sub.skip rfl (Sub.skip rfl (Sub.skip rfl (Sub.skip rfl (Sub.skip rfl (Sub.skip rfl (Sub.skip rfl (Sub.skip rfl (Sub.skip rfl (Sub.skip rfl (Sub.skip rfl (Sub.skip rfl (Sub.skip rfl (Sub.skip rfl (Sub.refl _))))))))))))))))))))))))))))))))))))))))) (.cons .here rfl (.cons .here rfl (.cons .here rfl (.cons .here rfl .nil))))
    · refine RunI.new rfl (New.alloc zero_111) rfl rfl rfl (fun b6 => (RunK.toA (.cons (.there .here) rfl (.cons (.there .here) rfl .nil)) (.cons .here rfl (.cons .here rfl .nil)) rfl ?_))
      refine RunA.one (i := 13) (by kernel_rfl) (by kernel_rfl) ?_
      refine RunI.new rfl (New.buildSlice (parts := [(0, .tmp 40)]) rfl sl_164 zero_111 rfl rfl rfl rfl) rfl rfl rfl (fun b41 => (RunK.toA (.cons .here rfl (.cons (.there .here) rfl (.cons (.there .here) rfl .nil))) (.cons (.there .here) rfl (.cons (.there .here) rfl .nil)) rfl ?_))
      refine RunA.one (i := 14) (by kernel_rfl) (by kernel_rfl) ?_
      refine RunI.callP rfl (isCall_func rfl ent_103) rfl rfl rfl (fun w hm => narrowed_calls (_, _) [(_, _)] _ _ _ _ w (Sl.one (hm.at (.head _)) rfl) (by simp)) (RunK.toA (.cons .here rfl (.cons (.there .here) rfl (.cons (.there .here) rfl .nil))) (.cons .here rfl (.cons .here rfl (.cons .here rfl .nil))) rfl ?_)
      refine RunA.val (i := 15) rfl (by kernel_rfl) (by kernel_rfl) (Val.pure rfl) rfl rfl rfl (fun _ _ _ h => h) (.cons .here rfl (.cons (.there .here) rfl (.cons (.there .here) rfl .nil))) rfl ?_
      refine RunA.val (i := 16) rfl (by kernel_rfl) (by kernel_rfl) (Val.pure rfl) rfl rfl rfl (fun _ _ _ h => h) (.cons .here rfl (.cons (.there .here) rfl (.cons (.there .here) rfl .nil))) rfl ?_
      refine RunA.val (i := 17) rfl (by kernel_rfl) (by kernel_rfl) (Val.pure rfl) rfl rfl rfl (fun _ _ _ h => h) (.cons .here rfl (.cons (.there .here) rfl (.cons (.there .here) rfl .nil))) rfl ?_
      refine RunA.one (i := 19) (by kernel_rfl) (by kernel_rfl) ?_
      refine RunI.sto rfl (Sto.store rfl rfl (.there .here) ty_111 rfl rfl) rfl rfl (RunK.toA (.cons .here rfl (.cons (.there .here) rfl (.cons (.there .here) rfl .nil))) (.cons .here rfl (.cons .here rfl (.cons .here rfl .nil))) rfl ?_)
      refine RunA.toB (by kernel_rfl) ?_
      refine RunB.one (i := 20) (by kernel_rfl) ?_
      refine RunI.val rfl (Val.pure rfl) rfl rfl rfl (RunK.toB ?_)
      refine RunB.done (by kernel_rfl) ?_
      exact RunE.join2 b41 b6 (Sub.cons (t := 7) rfl (Sub.cons (t := 6) rfl (Sub.cons (t := 44) rfl (Sub.cons (t := 43) rfl (Sub.cons (t := 27) rfl (Sub.cons (t := 42) rfl (Sub.cons (t := 41) rfl (Sub.cons (t := 40) rfl (Sub.cons (t := 39) rfl (Sub.cons (t := 38) rfl (Sub.cons (t := 37) rfl (Sub.cons (t := 36) rfl (Sub.cons (t := 35) rfl (Sub.cons (t := 34) rfl (Sub.cons (t := 33) rfl (Sub.cons (t := 32) rfl (Sub.cons (t := 31) rfl (Sub.cons (t := 30) rfl (Sub.cons (t := 29) rfl (Sub.cons (t := 28) rfl (Sub.skip rfl (Sub.skip rfl (Sub.skip rfl (Sub.skip rfl (Sub.skip rfl (Sub.skip rfl (Sub.skip rfl (Sub.skip rfl (Sub.skip rfl (Sub.skip rfl (Sub.skip rfl (Sub.skip rfl (Sub.skip rfl (Sub.skip rfl (Sub.skip rfl (Sub.skip rfl (Sub.skip rfl (Sub.skip rfl (Sub.skip rfl (Sub.skip rfl (Sub.refl _))))))))))))))))))))))))))))))))))))))))) (.cons (.there .here) rfl (.cons .here rfl (.cons .here rfl (.cons .here rfl .nil))))
  refine J2.out (fun b41 b6 => ?_)
  refine RunE.next ?_
  refine RunC.seq ?_
  refine RunC.region ?_
  refine RunL.val (Val.pure rfl) rfl rfl rfl ?_
  refine RunL.val (Val.pure rfl) rfl rfl rfl ?_
  refine RunL.nil ?_
  refine RunE.next ?_
  refine RunC.ret ?_
  exact RunE.retP (.r1 rfl (.tmp rfl)) (by first | rfl | simp)
theorem of_mark (p : Pr) (q : Option Addr) (cap : Nat) (pw : Int × Int) (t : Th) (hf : t.far ≠ 0) (bv : Nat) (W : World) (_hV : W.heap[bv]? = some (.cells (vwCells p q cap pw).toArray 113 (0, 0))) :
    Calls Tryz.prog 104 #[.pointer (some ⟨bv, 0, none⟩), t.v] W (Pure (.iface 166 (.agg #[.int .i64 t.far])) W) := by
  refine calls_start Tryz.func104 rfl rfl ?_
  refine RunC.seq ?_
  refine RunC.region ?_
  refine RunL.new (New.box rfl) rfl rfl rfl (fun b3 => ?_)
  refine RunL.val (Val.pure rfl) rfl rfl rfl ?_
  refine RunL.nil ?_
  refine RunE.next ?_
  refine RunC.seq ?_
  refine RunC.seq ?_
  refine RunC.region ?_
  refine RunL.val (Val.fieldAddr rfl fld_76_2) rfl rfl rfl ?_
  refine RunL.val (Val.load_one rfl (.head _) ty_3 rfl) rfl rfl rfl ?_
  refine RunL.val (Val.pure rfl) rfl rfl rfl ?_
  refine RunL.nil ?_
  refine RunE.next ?_
  refine RunC.cond rfl ?_ (fun h => absurd h (by simpa using hf))
  intro c0
  clear c0
  refine RunC.seq ?_
  refine RunC.region ?_
  refine RunL.val (Val.fieldAddr rfl fld_76_2) rfl rfl rfl ?_
  refine RunL.val (Val.load_one rfl (.head _) ty_3 rfl) rfl rfl rfl ?_
  refine RunL.val (Val.build (parts := [(0, .tmp 9)]) rfl zero_166 places_166 rfl) rfl rfl rfl ?_
  refine RunL.val (Val.makeInterface rfl noif_166) rfl rfl rfl ?_
  refine RunL.val (Val.pure rfl) rfl rfl rfl ?_
  refine RunL.nil ?_
  refine RunE.next ?_
  refine RunC.ret ?_
  refine RunE.pass_ret ?_
  exact RunE.retP (.r1 rfl (.tmp rfl)) (by first | rfl | simp)
theorem of_other (p : Pr) (q : Option Addr) (cap : Nat) (pw : Int × Int) (t : Th) (hf : t.far = 0) (bv : Nat) (W : World) (hV : W.heap[bv]? = some (.cells (vwCells p q cap pw).toArray 113 (0, 0))) :
    Calls Tryz.prog 104 #[.pointer (some ⟨bv, 0, none⟩), t.v] W (Pure (.iface 168 (.agg #[.int .i64 p.near, .int .i64 p.far])) W) := by
  refine calls_start Tryz.func104 rfl rfl ?_
  refine RunC.seq ?_
  refine RunC.region ?_
  refine RunL.new (New.box rfl) rfl rfl rfl (fun b3 => ?_)
  refine RunL.val (Val.pure rfl) rfl rfl rfl ?_
  refine RunL.nil ?_
  refine RunE.next ?_
  refine RunC.seq ?_
  refine RunC.seq ?_
  refine RunC.region ?_
  refine RunL.val (Val.fieldAddr rfl fld_76_2) rfl rfl rfl ?_
  refine RunL.val (Val.load_one rfl (.head _) ty_3 rfl) rfl rfl rfl ?_
  refine RunL.val (Val.pure rfl) rfl rfl rfl ?_
  refine RunL.nil ?_
  refine RunE.next ?_
  refine RunC.cond rfl (fun h => absurd h (by simpa using hf)) ?_
  intro c0
  clear c0
  refine RunC.skip ?_
  refine RunE.next ?_
  refine RunC.seq ?_
  refine RunC.draw 10 fol_ (.cons .here rfl .nil) ?_
  refine RunA.val (i := 0) rfl (by kernel_rfl) (by kernel_rfl) (Val.pure rfl) rfl rfl rfl (fun _ _ _ h => h) (.cons .here rfl .nil) rfl ?_
  refine RunA.val (i := 1) rfl (by kernel_rfl) (by kernel_rfl) (Val.pure rfl) rfl rfl rfl (fun _ _ _ h => h) (.cons .here rfl .nil) rfl ?_
  refine RunA.val (i := 2) rfl (by kernel_rfl) (by kernel_rfl) (Val.fieldAddr rfl fld_113_0) rfl rfl rfl (fun _ _ _ h => h) (.cons .here rfl .nil) rfl ?_
  refine RunA.val (i := 3) rfl (by kernel_rfl) (by kernel_rfl) (Val.fieldAddr rfl fld_26_3) rfl rfl rfl (fun _ _ _ h => h) (.cons .here rfl .nil) rfl ?_
  refine RunA.val (i := 4) rfl (by kernel_rfl) (by kernel_rfl) (Val.oload_one rfl hV (by simp) ty_3 rfl) rfl rfl rfl (fun _ _ _ h => h) (.cons .here rfl .nil) rfl ?_
  refine RunA.val (i := 5) rfl (by kernel_rfl) (by kernel_rfl) (Val.pure rfl) rfl rfl rfl (fun _ _ _ h => h) (.cons .here rfl .nil) rfl ?_
  refine RunA.val (i := 6) rfl (by kernel_rfl) (by kernel_rfl) (Val.pure rfl) rfl rfl rfl (fun _ _ _ h => h) (.cons .here rfl .nil) rfl ?_
  refine RunA.val (i := 7) rfl (by kernel_rfl) (by kernel_rfl) (Val.fieldAddr rfl fld_113_0) rfl rfl rfl (fun _ _ _ h => h) (.cons .here rfl .nil) rfl ?_
  refine RunA.val (i := 8) rfl (by kernel_rfl) (by kernel_rfl) (Val.fieldAddr rfl fld_26_4) rfl rfl rfl (fun _ _ _ h => h) (.cons .here rfl .nil) rfl ?_
  refine RunA.val (i := 9) rfl (by kernel_rfl) (by kernel_rfl) (Val.oload_one rfl hV (by simp) ty_3 rfl) rfl rfl rfl (fun _ _ _ h => h) (.cons .here rfl .nil) rfl ?_
  refine RunA.toB (by kernel_rfl) ?_
  refine RunB.one (i := 10) (by kernel_rfl) ?_
  refine RunI.val rfl (Val.build (parts := [(0, .tmp 16), (1, .tmp 21)]) rfl zero_168 places_168 rfl) rfl rfl rfl (RunK.toB ?_)
  refine RunB.one (i := 11) (by kernel_rfl) ?_
  refine RunI.val rfl (Val.makeInterface rfl noif_168) rfl rfl rfl (RunK.toB ?_)
  refine RunB.one (i := 12) (by kernel_rfl) ?_
  refine RunI.val rfl (Val.pure rfl) rfl rfl rfl (RunK.toB ?_)
  refine RunB.done (by kernel_rfl) ?_
  refine RunE.next ?_
  refine RunC.ret ?_
  exact RunE.retP (.r1 rfl (.tmp rfl)) (by first | rfl | simp)
theorem mark_calls (f : Int) (h0 : 0 ≤ f) (h1 : f ≤ 1073741824) (s : Int × Int) (g0 : 0 ≤ s.1) (g1 : s.1 ≤ s.2) (g2 : s.2 ≤ 2000) (W : World) :
    Calls Tryz.prog 133 #[.agg #[.int .i64 f], .agg #[.int .i64 s.1, .int .i64 s.2]] W (Pure (b2v (s.1 * f, (s.2 + 1) * f - 1)) W) := by
  have m1 := mul_bd g0 (Int.le_trans g1 g2) h0 h1
  have m2 := mul_bd (a := s.2 + 1) (A := 2001) (by omega) (by omega) h0 h1
  refine calls_start Tryz.func133 rfl rfl ?_
  refine RunC.seq ?_
  refine RunC.region ?_
  refine RunL.new (New.box rfl) rfl rfl rfl (fun b2 => ?_)
  refine RunL.new (New.box rfl) rfl rfl rfl (fun b3 => ?_)
  refine RunL.new (New.alloc zero_111) rfl rfl rfl (fun b4 => ?_)
  refine RunL.nil ?_
  refine RunE.next ?_
  refine RunC.seq ?_
  refine RunC.region ?_
  refine RunL.val (Val.indexAddr_arr rfl rfl arr_111 (by decide) (by decide)) rfl rfl rfl ?_
  refine RunL.val (Val.load_one rfl (.tail _ (.head _)) ty_3 rfl) rfl rfl rfl ?_
  refine RunL.val (Val.fieldAddr rfl fld_166_0) rfl rfl rfl ?_
  refine RunL.val (Val.load_one rfl (.tail _ (.tail _ (.head _))) ty_3 rfl) rfl rfl rfl ?_
  refine RunL.val (Val.mul rfl rfl (IntWalk.i64_in _ ⟨by omega, by omega⟩)) rfl rfl rfl ?_
  refine RunL.val (Val.indexAddr_arr rfl rfl arr_111 (by decide) (by decide)) rfl rfl rfl ?_
  refine RunL.val (Val.load_one rfl (.tail _ (.head _)) ty_3 rfl) rfl rfl rfl ?_
  refine RunL.val (Val.add rfl rfl (IntWalk.i64_in _ ⟨by omega, by omega⟩)) rfl rfl rfl ?_
  refine RunL.val (Val.fieldAddr rfl fld_166_0) rfl rfl rfl ?_
  refine RunL.val (Val.load_one rfl (.tail _ (.tail _ (.head _))) ty_3 rfl) rfl rfl rfl ?_
  refine RunL.val (Val.mul rfl rfl (IntWalk.i64_in _ ⟨by omega, by omega⟩)) rfl rfl rfl ?_
  refine RunL.val (Val.sub' rfl rfl (IntWalk.i64_in _ ⟨by omega, by omega⟩)) rfl rfl rfl ?_
  refine RunL.val (Val.build (parts := [(0, .tmp 9), (1, .tmp 16)]) rfl zero_111 places_111 rfl) rfl rfl rfl ?_
  refine RunL.sto (Sto.store rfl rfl .here ty_111 rfl rfl) rfl rfl ?_
  refine RunL.nil ?_
  refine RunE.next ?_
  refine RunC.ret ?_
  exact RunE.retP (.r1 rfl (.agg rfl (.head _) ty_111 rfl)) (by first | rfl | simp)
theorem other_calls (f f' : Int) (h0 : 0 ≤ f) (h1 : f ≤ 1073741824) (h0' : 0 ≤ f') (h1' : f' ≤ 1073741824) (s : Int × Int) (g0 : 0 ≤ s.1) (g1 : s.1 ≤ s.2) (g2 : s.2 ≤ 2000) (W : World) :
    Calls Tryz.prog 134 #[.agg #[.int .i64 f, .int .i64 f'], .agg #[.int .i64 s.1, .int .i64 s.2]] W (Pure (b2v (s.1 * f, (s.2 + 1) * f' - 1)) W) := by
  have m1 := mul_bd g0 (Int.le_trans g1 g2) h0 h1
  have m2 := mul_bd (a := s.2 + 1) (A := 2001) (by omega) (by omega) h0' h1'
  refine calls_start Tryz.func134 rfl rfl ?_
  refine RunC.seq ?_
  refine RunC.region ?_
  refine RunL.new (New.box rfl) rfl rfl rfl (fun b2 => ?_)
  refine RunL.new (New.box rfl) rfl rfl rfl (fun b3 => ?_)
  refine RunL.new (New.alloc zero_111) rfl rfl rfl (fun b4 => ?_)
  refine RunL.nil ?_
  refine RunE.next ?_
  refine RunC.seq ?_
  refine RunC.region ?_
  refine RunL.val (Val.indexAddr_arr rfl rfl arr_111 (by decide) (by decide)) rfl rfl rfl ?_
  refine RunL.val (Val.load_one rfl (.tail _ (.head _)) ty_3 rfl) rfl rfl rfl ?_
  refine RunL.val (Val.fieldAddr rfl fld_168_0) rfl rfl rfl ?_
  refine RunL.val (Val.load_one rfl (.tail _ (.tail _ (.head _))) ty_3 rfl) rfl rfl rfl ?_
  refine RunL.val (Val.mul rfl rfl (IntWalk.i64_in _ ⟨by omega, by omega⟩)) rfl rfl rfl ?_
  refine RunL.val (Val.indexAddr_arr rfl rfl arr_111 (by decide) (by decide)) rfl rfl rfl ?_
  refine RunL.val (Val.load_one rfl (.tail _ (.head _)) ty_3 rfl) rfl rfl rfl ?_
  refine RunL.val (Val.add rfl rfl (IntWalk.i64_in _ ⟨by omega, by omega⟩)) rfl rfl rfl ?_
  refine RunL.val (Val.fieldAddr rfl fld_168_1) rfl rfl rfl ?_
  refine RunL.val (Val.load_one rfl (.tail _ (.tail _ (.head _))) ty_3 rfl) rfl rfl rfl ?_
  refine RunL.val (Val.mul rfl rfl (IntWalk.i64_in _ ⟨by omega, by omega⟩)) rfl rfl rfl ?_
  refine RunL.val (Val.sub' rfl rfl (IntWalk.i64_in _ ⟨by omega, by omega⟩)) rfl rfl rfl ?_
  refine RunL.val (Val.build (parts := [(0, .tmp 9), (1, .tmp 16)]) rfl zero_111 places_111 rfl) rfl rfl rfl ?_
  refine RunL.sto (Sto.store rfl rfl .here ty_111 rfl rfl) rfl rfl ?_
  refine RunL.nil ?_
  refine RunE.next ?_
  refine RunC.ret ?_
  exact RunE.retP (.r1 rfl (.agg rfl (.head _) ty_111 rfl)) (by first | rfl | simp)
/-- A thing stands still, or not. -/
theorem still_calls (p : Pr) (hp : p.Ok) (q : Option Addr) (cap : Nat) (pw : Int × Int) (t : Th) (ht : t.Ok) (hf : t.far = 0 ∨ (p.near ≤ t.far ∧ t.far ≤ p.far)) (w0 : Int × Int) (bv : Nat) (W : World) (hV : W.heap[bv]? = some (.cells (vwCells p q cap pw).toArray 113 (0, 0))) :
    Calls Tryz.prog 83 #[.pointer (some ⟨bv, 0, none⟩), t.v, .agg #[.int .i64 w0.1, .int .i64 w0.2]] W (Pure (.tuple #[b2v (stillS p t w0).1, .bool (stillS p t w0).2]) W) := by
  have n1 := hp.n1
  have n2 := hp.n2
  have n3 := hp.n3
  by_cases h0 : t.far = 0
  · refine calls_start Tryz.func83 rfl rfl ?_
    refine RunC.seq ?_
    refine RunC.region ?_
    refine RunL.new (New.box rfl) rfl rfl rfl (fun b4 => ?_)
    refine RunL.new (New.box rfl) rfl rfl rfl (fun b5 => ?_)
    refine RunL.new (New.alloc zero_111) rfl rfl rfl (fun b6 => ?_)
    refine RunL.val (Val.pure rfl) rfl rfl rfl ?_
    refine RunL.nil ?_
    refine RunE.next ?_
    refine RunC.seq ?_
    refine RunC.region ?_
    refine RunL.val (Val.load_agg rfl (.tail _ (.tail _ (.head _))) ty_76 rfl) rfl rfl rfl ?_
    refine RunL.callP (isCall_func rfl ent_101) rfl rfl rfl (fun w hm => shown_calls t ht w) ?_
    iterate 3 refine RunL.val (Val.pure rfl) rfl rfl rfl ?_
    refine RunL.new (New.alloc zero_111) rfl rfl rfl (fun b8 => ?_)
    refine RunL.sto (Sto.store rfl rfl .here ty_111 rfl rfl) rfl rfl ?_
    refine RunL.val (Val.pure rfl) rfl rfl rfl ?_
    refine RunL.nil ?_
    refine RunE.next ?_
    refine RunC.seq ?_
    refine RunC.seq ?_
    refine RunC.region ?_
    iterate 3 refine RunL.val (Val.pure rfl) rfl rfl rfl ?_
    refine RunL.orPart (dj := 17) (dp := 22) 5 rfl (fun g17 => by
      have g17' := g17
      try simp only [decide_eq_true_eq, decide_eq_false_iff_not, Bool.not_eq_true', Bool.not_eq_false', Bool.and_eq_true, Bool.or_eq_true, Bool.and_eq_false_iff, Bool.or_eq_false_iff, Int.not_le, Int.not_lt] at g17'
      refine RunL.val (Val.pure rfl) rfl rfl rfl ?_
      refine RunL.val (Val.load_agg rfl (.tail _ (.tail _ (.tail _ (.head _)))) ty_76 rfl) rfl rfl rfl ?_
      refine RunL.callP (isCall_func rfl ent_102) rfl rfl rfl (fun w hm => level_calls p hp q cap pw t ht bv w (hm.old_at hV (by simp))) ?_
      refine RunL.val (Val.pure rfl) rfl rfl rfl ?_
      refine RunL.val (Val.pure rfl) rfl rfl rfl ?_
      exact RunL.segEnd (Sub.cons rfl (Sub.skip rfl (Sub.skip rfl (Sub.skip rfl (Sub.skip rfl (Sub.skip rfl (Sub.same rfl (by rw [g17]) (Sub.refl _)))))))) (List.Sublist.refl _)
    ) (fun g17 => by
      have g17' := g17
      try simp only [decide_eq_true_eq, decide_eq_false_iff_not, Bool.not_eq_true', Bool.not_eq_false', Bool.and_eq_true, Bool.or_eq_true, Bool.and_eq_false_iff, Bool.or_eq_false_iff, Int.not_le, Int.not_lt] at g17'
      iterate 4 refine RunL.no rfl rfl rfl ?_
      refine RunL.val (Val.pure rfl) rfl rfl rfl ?_
      exact RunL.segEnd (Sub.cons rfl (Sub.skip rfl (Sub.skip rfl (Sub.skip rfl (Sub.skip rfl (Sub.skip rfl (Sub.same rfl (by rw [g17]) (Sub.refl _)))))))) (List.Sublist.refl _)
    ) ?_
    refine RunL.nil ?_
    refine RunE.next ?_
    refine RunC.cond rfl ?_ ?_
    · intro c0
      have c0' := c0; clear c0
      try simp only [decide_eq_true_eq, decide_eq_false_iff_not, Bool.not_eq_true', Bool.not_eq_false', Bool.and_eq_true, Bool.or_eq_true, Bool.and_eq_false_iff, Bool.or_eq_false_iff, Int.not_le, Int.not_lt] at c0'
      refine RunC.seq ?_
      refine RunC.region ?_
      refine RunL.val (Val.load_agg rfl (.tail _ (.tail _ (.head _))) ty_111 rfl) rfl rfl rfl ?_
      refine RunL.sto (Sto.store rfl rfl (.there .here) ty_111 rfl rfl) rfl rfl ?_
      refine RunL.val (Val.pure rfl) rfl rfl rfl ?_
      refine RunL.nil ?_
      refine RunE.next ?_
      refine RunC.ret ?_
      refine RunE.pass_ret ?_
      exact RunE.retP (.r2 rfl (.agg rfl (.tail _ (.head _)) ty_111 rfl) (.tmp rfl)) (by have e : stillS p t w0 = (w0, false) := (by rcases c0' with h | h <;> simp [stillS, h]); rw [e]; rfl)
    · intro c0
      have c0' := c0; clear c0
      try simp only [decide_eq_true_eq, decide_eq_false_iff_not, Bool.not_eq_true', Bool.not_eq_false', Bool.and_eq_true, Bool.or_eq_true, Bool.and_eq_false_iff, Bool.or_eq_false_iff, Int.not_le, Int.not_lt] at c0'
      have bd := shown_bd c0'.1
      refine RunC.skip ?_
      refine RunE.next ?_
      refine RunC.seq ?_
      refine RunC.draw 10 fol_ (.cons .here rfl (.cons .here rfl (.cons .here rfl (.cons .here rfl .nil)))) ?_
      refine RunA.val (i := 0) rfl (by kernel_rfl) (by kernel_rfl) (Val.load_agg rfl (.tail _ (.tail _ (.head _))) ty_111 rfl) rfl rfl rfl (fun _ _ _ h => h) (.cons .here rfl (.cons .here rfl (.cons .here rfl (.cons .here rfl .nil)))) rfl ?_
      refine RunA.val (i := 1) rfl (by kernel_rfl) (by kernel_rfl) (Val.pure rfl) rfl rfl rfl (fun _ _ _ h => h) (.cons .here rfl (.cons .here rfl (.cons .here rfl (.cons .here rfl .nil)))) rfl ?_
      refine RunA.val (i := 2) rfl (by kernel_rfl) (by kernel_rfl) (Val.load_agg rfl (.tail _ (.tail _ (.tail _ (.head _)))) ty_76 rfl) rfl rfl rfl (fun _ _ _ h => h) (.cons .here rfl (.cons .here rfl (.cons .here rfl (.cons .here rfl .nil)))) rfl ?_
      refine RunA.val (i := 4) rfl (by kernel_rfl) (by kernel_rfl) (Val.load_agg rfl (.head _) ty_111 rfl) rfl rfl rfl (fun _ _ _ h => h) (.cons .here rfl (.cons .here rfl (.cons .here rfl (.cons .here rfl .nil)))) rfl ?_
      refine RunA.one (i := 3) (by kernel_rfl) (by kernel_rfl) ?_
      refine RunI.callP rfl (isCall_func rfl ent_104) rfl rfl rfl (fun w hm => of_other p q cap pw t h0 bv w (hm.old_at hV (by simp))) (RunK.toA (.cons .here rfl (.cons .here rfl (.cons .here rfl (.cons .here rfl .nil)))) (.cons .here rfl (.cons .here rfl (.cons .here rfl (.cons .here rfl .nil)))) rfl ?_)
      refine RunA.one (i := 5) (by kernel_rfl) (by kernel_rfl) ?_
      refine RunI.callP rfl (isCall_invoke rfl rfl (fun w => meth_168_pairworks_pair_powers _ w) ent_134) rfl rfl rfl (fun w hm => other_calls _ _ (by omega) (by omega) (by omega) (by omega) (shownS t) bd.1 bd.2.1 bd.2.2 w) (RunK.toA (.cons .here rfl (.cons .here rfl (.cons .here rfl (.cons .here rfl .nil)))) (.cons .here rfl (.cons .here rfl (.cons .here rfl (.cons .here rfl .nil)))) rfl ?_)
      refine RunA.one (i := 6) (by kernel_rfl) (by kernel_rfl) ?_
      refine RunI.new rfl (New.buildSlice (parts := [(0, .tmp 29)]) rfl sl_164 zero_111 rfl rfl rfl rfl) rfl rfl rfl (fun b30 => (RunK.toA (.cons .here rfl (.cons .here rfl (.cons .here rfl (.cons .here rfl (.cons .here rfl .nil))))) (.cons (.there .here) rfl (.cons (.there .here) rfl (.cons (.there .here) rfl (.cons (.there .here) rfl .nil)))) rfl ?_))
      refine RunA.one (i := 7) (by kernel_rfl) (by kernel_rfl) ?_
      refine RunI.callP rfl (isCall_func rfl ent_103) rfl rfl rfl (fun w hm => narrowed_calls (_, _) [(_, _)] _ _ _ _ w (Sl.one (hm.at (.head _)) rfl) (by simp)) (RunK.toA (.cons .here rfl (.cons .here rfl (.cons .here rfl (.cons .here rfl (.cons .here rfl .nil))))) (.cons .here rfl (.cons .here rfl (.cons .here rfl (.cons .here rfl (.cons .here rfl .nil))))) rfl ?_)
      refine RunA.val (i := 8) rfl (by kernel_rfl) (by kernel_rfl) (Val.pure rfl) rfl rfl rfl (fun _ _ _ h => h) (.cons .here rfl (.cons .here rfl (.cons .here rfl (.cons .here rfl (.cons .here rfl .nil))))) rfl ?_
      refine RunA.val (i := 9) rfl (by kernel_rfl) (by kernel_rfl) (Val.pure rfl) rfl rfl rfl (fun _ _ _ h => h) (.cons .here rfl (.cons .here rfl (.cons .here rfl (.cons .here rfl (.cons .here rfl .nil))))) rfl ?_
      refine RunA.toB (by kernel_rfl) ?_
      refine RunB.one (i := 10) (by kernel_rfl) ?_
      refine RunI.sto rfl (Sto.store rfl rfl (.there (.there .here)) ty_111 rfl rfl) rfl rfl (RunK.toB ?_)
      refine RunB.one (i := 11) (by kernel_rfl) ?_
      refine RunI.val rfl (Val.pure rfl) rfl rfl rfl (RunK.toB ?_)
      refine RunB.done (by kernel_rfl) ?_
      refine RunE.next ?_
      refine RunC.ret ?_
      exact RunE.retP (.r2 rfl (.agg rfl (.tail _ (.tail _ (.head _))) ty_111 rfl) (.tmp rfl)) (by have e : stillS p t w0 = (nar w0 (powersS p t (shownS t)), isB (nar w0 (powersS p t (shownS t)))) := (by simp [stillS, c0'.1, c0'.2]); rw [e]; simp only [powersS, h0, if_true]; rfl)
  · refine calls_start Tryz.func83 rfl rfl ?_
    refine RunC.seq ?_
    refine RunC.region ?_
    refine RunL.new (New.box rfl) rfl rfl rfl (fun b4 => ?_)
    refine RunL.new (New.box rfl) rfl rfl rfl (fun b5 => ?_)
    refine RunL.new (New.alloc zero_111) rfl rfl rfl (fun b6 => ?_)
    refine RunL.val (Val.pure rfl) rfl rfl rfl ?_
    refine RunL.nil ?_
    refine RunE.next ?_
    refine RunC.seq ?_
    refine RunC.region ?_
    refine RunL.val (Val.load_agg rfl (.tail _ (.tail _ (.head _))) ty_76 rfl) rfl rfl rfl ?_
    refine RunL.callP (isCall_func rfl ent_101) rfl rfl rfl (fun w hm => shown_calls t ht w) ?_
    iterate 3 refine RunL.val (Val.pure rfl) rfl rfl rfl ?_
    refine RunL.new (New.alloc zero_111) rfl rfl rfl (fun b8 => ?_)
    refine RunL.sto (Sto.store rfl rfl .here ty_111 rfl rfl) rfl rfl ?_
    refine RunL.val (Val.pure rfl) rfl rfl rfl ?_
    refine RunL.nil ?_
    refine RunE.next ?_
    refine RunC.seq ?_
    refine RunC.seq ?_
    refine RunC.region ?_
    iterate 3 refine RunL.val (Val.pure rfl) rfl rfl rfl ?_
    refine RunL.orPart (dj := 17) (dp := 22) 5 rfl (fun g17 => by
      have g17' := g17
      try simp only [decide_eq_true_eq, decide_eq_false_iff_not, Bool.not_eq_true', Bool.not_eq_false', Bool.and_eq_true, Bool.or_eq_true, Bool.and_eq_false_iff, Bool.or_eq_false_iff, Int.not_le, Int.not_lt] at g17'
      refine RunL.val (Val.pure rfl) rfl rfl rfl ?_
      refine RunL.val (Val.load_agg rfl (.tail _ (.tail _ (.tail _ (.head _)))) ty_76 rfl) rfl rfl rfl ?_
      refine RunL.callP (isCall_func rfl ent_102) rfl rfl rfl (fun w hm => level_calls p hp q cap pw t ht bv w (hm.old_at hV (by simp))) ?_
      refine RunL.val (Val.pure rfl) rfl rfl rfl ?_
      refine RunL.val (Val.pure rfl) rfl rfl rfl ?_
      exact RunL.segEnd (Sub.cons rfl (Sub.skip rfl (Sub.skip rfl (Sub.skip rfl (Sub.skip rfl (Sub.skip rfl (Sub.same rfl (by rw [g17]) (Sub.refl _)))))))) (List.Sublist.refl _)
    ) (fun g17 => by
      have g17' := g17
      try simp only [decide_eq_true_eq, decide_eq_false_iff_not, Bool.not_eq_true', Bool.not_eq_false', Bool.and_eq_true, Bool.or_eq_true, Bool.and_eq_false_iff, Bool.or_eq_false_iff, Int.not_le, Int.not_lt] at g17'
      iterate 4 refine RunL.no rfl rfl rfl ?_
      refine RunL.val (Val.pure rfl) rfl rfl rfl ?_
      exact RunL.segEnd (Sub.cons rfl (Sub.skip rfl (Sub.skip rfl (Sub.skip rfl (Sub.skip rfl (Sub.skip rfl (Sub.same rfl (by rw [g17]) (Sub.refl _)))))))) (List.Sublist.refl _)
    ) ?_
    refine RunL.nil ?_
    refine RunE.next ?_
    refine RunC.cond rfl ?_ ?_
    · intro c0
      have c0' := c0; clear c0
      try simp only [decide_eq_true_eq, decide_eq_false_iff_not, Bool.not_eq_true', Bool.not_eq_false', Bool.and_eq_true, Bool.or_eq_true, Bool.and_eq_false_iff, Bool.or_eq_false_iff, Int.not_le, Int.not_lt] at c0'
      refine RunC.seq ?_
      refine RunC.region ?_
      refine RunL.val (Val.load_agg rfl (.tail _ (.tail _ (.head _))) ty_111 rfl) rfl rfl rfl ?_
      refine RunL.sto (Sto.store rfl rfl (.there .here) ty_111 rfl rfl) rfl rfl ?_
      refine RunL.val (Val.pure rfl) rfl rfl rfl ?_
      refine RunL.nil ?_
      refine RunE.next ?_
      refine RunC.ret ?_
      refine RunE.pass_ret ?_
      exact RunE.retP (.r2 rfl (.agg rfl (.tail _ (.head _)) ty_111 rfl) (.tmp rfl)) (by have e : stillS p t w0 = (w0, false) := (by rcases c0' with h | h <;> simp [stillS, h]); rw [e]; rfl)
    · intro c0
      have c0' := c0; clear c0
      try simp only [decide_eq_true_eq, decide_eq_false_iff_not, Bool.not_eq_true', Bool.not_eq_false', Bool.and_eq_true, Bool.or_eq_true, Bool.and_eq_false_iff, Bool.or_eq_false_iff, Int.not_le, Int.not_lt] at c0'
      have bd := shown_bd c0'.1
      refine RunC.skip ?_
      refine RunE.next ?_
      refine RunC.seq ?_
      refine RunC.draw 10 fol_ (.cons .here rfl (.cons .here rfl (.cons .here rfl (.cons .here rfl .nil)))) ?_
      refine RunA.val (i := 0) rfl (by kernel_rfl) (by kernel_rfl) (Val.load_agg rfl (.tail _ (.tail _ (.head _))) ty_111 rfl) rfl rfl rfl (fun _ _ _ h => h) (.cons .here rfl (.cons .here rfl (.cons .here rfl (.cons .here rfl .nil)))) rfl ?_
      refine RunA.val (i := 1) rfl (by kernel_rfl) (by kernel_rfl) (Val.pure rfl) rfl rfl rfl (fun _ _ _ h => h) (.cons .here rfl (.cons .here rfl (.cons .here rfl (.cons .here rfl .nil)))) rfl ?_
      refine RunA.val (i := 2) rfl (by kernel_rfl) (by kernel_rfl) (Val.load_agg rfl (.tail _ (.tail _ (.tail _ (.head _)))) ty_76 rfl) rfl rfl rfl (fun _ _ _ h => h) (.cons .here rfl (.cons .here rfl (.cons .here rfl (.cons .here rfl .nil)))) rfl ?_
      refine RunA.val (i := 4) rfl (by kernel_rfl) (by kernel_rfl) (Val.load_agg rfl (.head _) ty_111 rfl) rfl rfl rfl (fun _ _ _ h => h) (.cons .here rfl (.cons .here rfl (.cons .here rfl (.cons .here rfl .nil)))) rfl ?_
      refine RunA.one (i := 3) (by kernel_rfl) (by kernel_rfl) ?_
      refine RunI.callP rfl (isCall_func rfl ent_104) rfl rfl rfl (fun w hm => of_mark p q cap pw t h0 bv w (hm.old_at hV (by simp))) (RunK.toA (.cons .here rfl (.cons .here rfl (.cons .here rfl (.cons .here rfl .nil)))) (.cons .here rfl (.cons .here rfl (.cons .here rfl (.cons .here rfl .nil)))) rfl ?_)
      refine RunA.one (i := 5) (by kernel_rfl) (by kernel_rfl) ?_
      refine RunI.callP rfl (isCall_invoke rfl rfl (fun w => meth_166_pairworks_pair_powers _ w) ent_133) rfl rfl rfl (fun w hm => mark_calls _ (by omega) (by omega) (shownS t) bd.1 bd.2.1 bd.2.2 w) (RunK.toA (.cons .here rfl (.cons .here rfl (.cons .here rfl (.cons .here rfl .nil)))) (.cons .here rfl (.cons .here rfl (.cons .here rfl (.cons .here rfl .nil)))) rfl ?_)
      refine RunA.one (i := 6) (by kernel_rfl) (by kernel_rfl) ?_
      refine RunI.new rfl (New.buildSlice (parts := [(0, .tmp 29)]) rfl sl_164 zero_111 rfl rfl rfl rfl) rfl rfl rfl (fun b30 => (RunK.toA (.cons .here rfl (.cons .here rfl (.cons .here rfl (.cons .here rfl (.cons .here rfl .nil))))) (.cons (.there .here) rfl (.cons (.there .here) rfl (.cons (.there .here) rfl (.cons (.there .here) rfl .nil)))) rfl ?_))
      refine RunA.one (i := 7) (by kernel_rfl) (by kernel_rfl) ?_
      refine RunI.callP rfl (isCall_func rfl ent_103) rfl rfl rfl (fun w hm => narrowed_calls (_, _) [(_, _)] _ _ _ _ w (Sl.one (hm.at (.head _)) rfl) (by simp)) (RunK.toA (.cons .here rfl (.cons .here rfl (.cons .here rfl (.cons .here rfl (.cons .here rfl .nil))))) (.cons .here rfl (.cons .here rfl (.cons .here rfl (.cons .here rfl (.cons .here rfl .nil))))) rfl ?_)
      refine RunA.val (i := 8) rfl (by kernel_rfl) (by kernel_rfl) (Val.pure rfl) rfl rfl rfl (fun _ _ _ h => h) (.cons .here rfl (.cons .here rfl (.cons .here rfl (.cons .here rfl (.cons .here rfl .nil))))) rfl ?_
      refine RunA.val (i := 9) rfl (by kernel_rfl) (by kernel_rfl) (Val.pure rfl) rfl rfl rfl (fun _ _ _ h => h) (.cons .here rfl (.cons .here rfl (.cons .here rfl (.cons .here rfl (.cons .here rfl .nil))))) rfl ?_
      refine RunA.toB (by kernel_rfl) ?_
      refine RunB.one (i := 10) (by kernel_rfl) ?_
      refine RunI.sto rfl (Sto.store rfl rfl (.there (.there .here)) ty_111 rfl rfl) rfl rfl (RunK.toB ?_)
      refine RunB.one (i := 11) (by kernel_rfl) ?_
      refine RunI.val rfl (Val.pure rfl) rfl rfl rfl (RunK.toB ?_)
      refine RunB.done (by kernel_rfl) ?_
      refine RunE.next ?_
      refine RunC.ret ?_
      exact RunE.retP (.r2 rfl (.agg rfl (.tail _ (.tail _ (.head _))) ty_111 rfl) (.tmp rfl)) (by have e : stillS p t w0 = (nar w0 (powersS p t (shownS t)), isB (nar w0 (powersS p t (shownS t)))) := (by simp [stillS, c0'.1, c0'.2]); rw [e]; simp only [powersS, h0, if_false]; rfl)
end Go.Proofs.YthoheicppmbepaaGreat
