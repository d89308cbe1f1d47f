/- Walks of package mount: the first thing that hurts. -/
import Derived.Test.YthoheicppmbepaaGreatMb
set_option linter.unusedSimpArgs false
set_option linter.unusedVariables false
namespace Go.Proofs.YthoheicppmbepaaGreat
open Go Go.Eng Go.Pw1

theorem mwhy_calls (c : Cd) (t : Tr) (ht : t.Ok c.cuts) (k : Nat) (hk : k < c.p.things.length) (hw : (whyX c.p k).1 = 0) (q : Option Addr) (b o cap bc bm : Nat) (W : World) (h : CdAt c q b o cap bc bm W) :
    Calls Tryz.prog 63 #[mtV bc t, .int .i64 (k : Int)] W (Pure (.int .i64 (whyM c t k)) W) := by
  have hc := h.ok
  have hv := h.v
  have hM := h.m
  have hs := shiftX_bd h.pk k
  have hl := h.pk.len
  refine calls_start Tryz.func63 rfl rfl ?_
  refine RunC.seq ?_
  refine RunC.region ?_
  refine RunL.new (New.box rfl) rfl rfl rfl (fun b2 => ?_)
  refine RunL.val (Val.pure rfl) rfl rfl rfl ?_
  refine RunL.nil ?_
  refine RunE.next ?_
  refine RunC.seq ?_
  refine RunC.region ?_
  refine RunL.val (Val.build (parts := []) rfl zero_139 places_139 rfl) rfl rfl rfl ?_
  refine RunL.val (Val.makeInterface rfl noif_139) rfl rfl rfl ?_
  refine RunL.val (Val.build (parts := []) rfl zero_140 places_140 rfl) rfl rfl rfl ?_
  refine RunL.val (Val.makeInterface rfl noif_140) rfl rfl rfl ?_
  refine RunL.val (Val.build (parts := []) rfl zero_141 places_141 rfl) rfl rfl rfl ?_
  refine RunL.val (Val.makeInterface rfl noif_141) rfl rfl rfl ?_
  refine RunL.val (Val.build (parts := []) rfl zero_142 places_142 rfl) rfl rfl rfl ?_
  refine RunL.val (Val.makeInterface rfl noif_142) rfl rfl rfl ?_
  refine RunL.val (Val.build (parts := []) rfl zero_143 places_143 rfl) rfl rfl rfl ?_
  refine RunL.val (Val.makeInterface rfl noif_143) rfl rfl rfl ?_
  refine RunL.val (Val.build (parts := [(0, .tmp 9), (1, .tmp 11), (2, .tmp 13), (3, .tmp 15), (4, .tmp 17)]) rfl zero_146 places_146 rfl) rfl rfl rfl ?_
  refine RunL.new (New.alloc zero_146) rfl rfl rfl (fun b5 => ?_)
  refine RunL.sto (Sto.store rfl rfl .here ty_146 rfl rfl) rfl rfl ?_
  refine RunL.nil ?_
  refine RunE.next ?_
  refine RunC.seq ?_
  refine RunC.seq ?_
  refine RunC.region ?_
  refine RunL.val (Val.load_agg rfl (.head _) ty_146 rfl) rfl rfl rfl ?_
  refine RunL.val (Val.pure rfl) rfl rfl rfl ?_
  refine RunL.nil ?_
  refine RunE.next ?_
  refine RunC.block ?_
  refine RunC.unroll 5 ?_
  refine RunC.seq ?_
  refine RunC.region ?_
  refine RunL.val (Val.pure rfl) rfl rfl rfl ?_
  refine RunL.nil ?_
  refine RunE.next ?_
  refine RunC.seq ?_
  refine RunC.cond rfl ?_ (fun h => absurd h (by decide))
  intro c0
  clear c0
  refine RunC.skip ?_
  refine RunE.next ?_
  refine RunC.seq ?_
  refine RunC.block ?_
  refine RunC.seq ?_
  refine RunC.region ?_
  refine RunL.val (Val.pure rfl) rfl rfl rfl ?_
  refine RunL.val (Val.index1 rfl rfl arr1_146 (by decide) (by decide) (show _ = some (Value.iface 139 (.agg #[])) from rfl)) rfl rfl rfl ?_
  refine RunL.val (Val.pure rfl) rfl rfl rfl ?_
  refine RunL.val (Val.pure rfl) rfl rfl rfl ?_
  refine RunL.nil ?_
  refine RunE.next ?_
  refine RunC.seq ?_
  refine RunC.draw 13 fol_ (.cons .here rfl (.cons .here rfl .nil)) ?_
  refine RunA.val (i := 0) rfl (by kernel_rfl) (by kernel_rfl) (Val.pure rfl) rfl rfl rfl (fun _ _ _ h => h) (.cons .here rfl (.cons .here rfl .nil)) rfl ?_
  refine RunA.val (i := 1) rfl (by kernel_rfl) (by kernel_rfl) (Val.load_agg rfl (.tail _ (.head _)) ty_63 rfl) rfl rfl rfl (fun _ _ _ h => h) (.cons .here rfl (.cons .here rfl .nil)) rfl ?_
  refine RunA.val (i := 2) rfl (by kernel_rfl) (by kernel_rfl) (Val.pure rfl) rfl rfl rfl (fun _ _ _ h => h) (.cons .here rfl (.cons .here rfl .nil)) rfl ?_
  refine RunA.val (i := 3) rfl (by kernel_rfl) (by kernel_rfl) (Val.fieldAddr rfl fld_63_0) rfl rfl rfl (fun _ _ _ h => h) (.cons .here rfl (.cons .here rfl .nil)) rfl ?_
  refine RunA.val (i := 4) rfl (by kernel_rfl) (by kernel_rfl) (Val.load_one rfl (.tail _ (.head _)) ty_48 rfl) rfl rfl rfl (fun _ _ _ h => h) (.cons .here rfl (.cons .here rfl .nil)) rfl ?_
  refine RunA.val (i := 5) rfl (by kernel_rfl) (by kernel_rfl) (Val.pure rfl) rfl rfl rfl (fun _ _ _ h => h) (.cons .here rfl (.cons .here rfl .nil)) rfl ?_
  refine RunA.val (i := 6) rfl (by kernel_rfl) (by kernel_rfl) (Val.fieldAddr rfl fld_53_1) rfl rfl rfl (fun _ _ _ h => h) (.cons .here rfl (.cons .here rfl .nil)) rfl ?_
  refine RunA.val (i := 7) rfl (by kernel_rfl) (by kernel_rfl) (Val.oload_one rfl hv (by simp) ty_51 rfl) rfl rfl rfl (fun _ _ _ h => h) (.cons .here rfl (.cons .here rfl .nil)) rfl ?_
  refine RunA.val (i := 8) rfl (by kernel_rfl) (by kernel_rfl) (Val.pure rfl) rfl rfl rfl (fun _ _ _ h => h) (.cons .here rfl (.cons .here rfl .nil)) rfl ?_
  refine RunA.val (i := 10) rfl (by kernel_rfl) (by kernel_rfl) (Val.pure rfl) rfl rfl rfl (fun _ _ _ h => h) (.cons .here rfl (.cons .here rfl .nil)) rfl ?_
  refine RunA.val (i := 11) rfl (by kernel_rfl) (by kernel_rfl) (Val.nilMeth rfl rfl (nah_139_pairworks_mount_hurts _)) rfl rfl rfl (fun _ _ _ h => h) (.cons .here rfl (.cons .here rfl .nil)) rfl ?_
  refine RunA.val (i := 12) rfl (by kernel_rfl) (by kernel_rfl) (Val.pure rfl) rfl rfl rfl (fun _ _ _ h => h) (.cons .here rfl (.cons .here rfl .nil)) rfl ?_
  refine RunA.one (i := 9) (by kernel_rfl) (by kernel_rfl) ?_
  refine RunI.val rfl (Val.lookupE rfl rfl (fun w hm => hm.old_at hM (by simp)) mapB_51 zeroV_68 (by rw [mFind_M hk, if_pos hw])) rfl rfl rfl (RunK.toA (.cons .here rfl (.cons .here rfl .nil)) (.cons .here rfl (.cons .here rfl .nil)) rfl ?_)
  refine RunA.toB (by kernel_rfl) ?_
  refine RunB.one (i := 13) (by kernel_rfl) ?_
  refine RunI.callP rfl (isCall_invoke rfl rfl (fun w => meth_139_pairworks_mount_hurts _ w) ent_128) rfl rfl rfl (fun w hm => near_calls c hc t ht k _ hs q cap bc bm w (hm.old_at hv (by simp))) (RunK.toB ?_)
  refine RunB.done (by kernel_rfl) ?_
  refine RunE.next ?_
  refine RunC.cond rfl ?_ ?_
  · intro c1
    have c1' := c1; clear c1
    try simp only [decide_eq_true_eq, decide_eq_false_iff_not, Bool.not_eq_true', Bool.not_eq_false', Bool.and_eq_true, Bool.or_eq_true, Bool.and_eq_false_iff, Bool.or_eq_false_iff, Int.not_le, Int.not_lt] at c1'
    refine RunC.seq ?_
    refine RunC.region ?_
    refine RunL.val (Val.pure rfl) rfl rfl rfl ?_
    refine RunL.val (Val.add rfl rfl (IntWalk.i64_in _ ⟨by decide, by decide⟩)) rfl rfl rfl ?_
    refine RunL.val (Val.pure rfl) rfl rfl rfl ?_
    refine RunL.nil ?_
    refine RunE.next ?_
    refine RunC.ret ?_
    refine RunE.block_ret ?_
    refine RunE.pass_ret ?_
    refine RunE.pass_ret ?_
    refine RunE.block_ret ?_
    refine RunE.pass_ret ?_
    exact RunE.retP (.r1 rfl (.tmp rfl)) (by simp [whyM, hurtL, idxF, *])
  · intro c1
    have c1' := c1; clear c1
    try simp only [decide_eq_true_eq, decide_eq_false_iff_not, Bool.not_eq_true', Bool.not_eq_false', Bool.and_eq_true, Bool.or_eq_true, Bool.and_eq_false_iff, Bool.or_eq_false_iff, Int.not_le, Int.not_lt] at c1'
    have e0 := Int.not_lt.2 c1'
    refine RunC.skip ?_
    refine RunE.block_normal ?_
    refine RunE.next ?_
    refine RunC.region ?_
    refine RunL.val (Val.add rfl rfl (IntWalk.i64_in _ ⟨by decide, by decide⟩)) rfl rfl rfl ?_
    refine RunL.val (Val.pure rfl) rfl rfl rfl ?_
    refine RunL.nil ?_
    refine RunE.keep (Sub.cons (t := 1) rfl (Sub.cons (t := 2) rfl (Sub.cons (t := 4) rfl (Sub.cons (t := 19) rfl (Sub.cons (t := 20) rfl (Sub.nil _)))))) (.cons (.there .here) rfl .nil) ?_
    refine RunE.rounds ?_
    refine RunC.seq ?_
    refine RunC.region ?_
    refine RunL.val (Val.pure rfl) rfl rfl rfl ?_
    refine RunL.nil ?_
    refine RunE.next ?_
    refine RunC.seq ?_
    refine RunC.cond rfl ?_ (fun h => absurd h (by decide))
    intro c0
    clear c0
    refine RunC.skip ?_
    refine RunE.next ?_
    refine RunC.seq ?_
    refine RunC.block ?_
    refine RunC.seq ?_
    refine RunC.region ?_
    refine RunL.val (Val.pure rfl) rfl rfl rfl ?_
    refine RunL.val (Val.index1 rfl rfl arr1_146 (by decide) (by decide) (show _ = some (Value.iface 140 (.agg #[])) from rfl)) rfl rfl rfl ?_
    refine RunL.val (Val.pure rfl) rfl rfl rfl ?_
    refine RunL.val (Val.pure rfl) rfl rfl rfl ?_
    refine RunL.nil ?_
    refine RunE.next ?_
    refine RunC.seq ?_
    refine RunC.draw 13 fol_ (.cons .here rfl .nil) ?_
    refine RunA.val (i := 0) rfl (by kernel_rfl) (by kernel_rfl) (Val.pure rfl) rfl rfl rfl (fun _ _ _ h => h) (.cons .here rfl .nil) rfl ?_
    refine RunA.val (i := 1) rfl (by kernel_rfl) (by kernel_rfl) (Val.load_agg rfl (.head _) ty_63 rfl) rfl rfl rfl (fun _ _ _ h => h) (.cons .here rfl .nil) rfl ?_
    refine RunA.val (i := 2) rfl (by kernel_rfl) (by kernel_rfl) (Val.pure rfl) rfl rfl rfl (fun _ _ _ h => h) (.cons .here rfl .nil) rfl ?_
    refine RunA.val (i := 3) rfl (by kernel_rfl) (by kernel_rfl) (Val.fieldAddr rfl fld_63_0) rfl rfl rfl (fun _ _ _ h => h) (.cons .here rfl .nil) rfl ?_
    refine RunA.val (i := 4) rfl (by kernel_rfl) (by kernel_rfl) (Val.load_one rfl (.head _) ty_48 rfl) rfl rfl rfl (fun _ _ _ h => h) (.cons .here rfl .nil) rfl ?_
    refine RunA.val (i := 5) rfl (by kernel_rfl) (by kernel_rfl) (Val.pure rfl) rfl rfl rfl (fun _ _ _ h => h) (.cons .here rfl .nil) rfl ?_
    refine RunA.val (i := 6) rfl (by kernel_rfl) (by kernel_rfl) (Val.fieldAddr rfl fld_53_1) rfl rfl rfl (fun _ _ _ h => h) (.cons .here rfl .nil) rfl ?_
    refine RunA.val (i := 7) rfl (by kernel_rfl) (by kernel_rfl) (Val.oload_one rfl hv (by simp) ty_51 rfl) rfl rfl rfl (fun _ _ _ h => h) (.cons .here rfl .nil) rfl ?_
    refine RunA.val (i := 8) rfl (by kernel_rfl) (by kernel_rfl) (Val.pure rfl) rfl rfl rfl (fun _ _ _ h => h) (.cons .here rfl .nil) rfl ?_
    refine RunA.val (i := 10) rfl (by kernel_rfl) (by kernel_rfl) (Val.pure rfl) rfl rfl rfl (fun _ _ _ h => h) (.cons .here rfl .nil) rfl ?_
    refine RunA.val (i := 11) rfl (by kernel_rfl) (by kernel_rfl) (Val.nilMeth rfl rfl (nah_140_pairworks_mount_hurts _)) rfl rfl rfl (fun _ _ _ h => h) (.cons .here rfl .nil) rfl ?_
    refine RunA.val (i := 12) rfl (by kernel_rfl) (by kernel_rfl) (Val.pure rfl) rfl rfl rfl (fun _ _ _ h => h) (.cons .here rfl .nil) rfl ?_
    refine RunA.one (i := 9) (by kernel_rfl) (by kernel_rfl) ?_
    refine RunI.val rfl (Val.lookupE rfl rfl (fun w hm => hm.old_at hM (by simp)) mapB_51 zeroV_68 (by rw [mFind_M hk, if_pos hw])) rfl rfl rfl (RunK.toA (.cons .here rfl .nil) (.cons .here rfl .nil) rfl ?_)
    refine RunA.toB (by kernel_rfl) ?_
    refine RunB.one (i := 13) (by kernel_rfl) ?_
    refine RunI.callP rfl (isCall_invoke rfl rfl (fun w => meth_140_pairworks_mount_hurts _ w) ent_129) rfl rfl rfl (fun w hm => far_calls c hc t ht k _ hs q cap bc bm w (hm.old_at hv (by simp))) (RunK.toB ?_)
    refine RunB.done (by kernel_rfl) ?_
    refine RunE.next ?_
    refine RunC.cond rfl ?_ ?_
    · intro c1
      have c1' := c1; clear c1
      try simp only [decide_eq_true_eq, decide_eq_false_iff_not, Bool.not_eq_true', Bool.not_eq_false', Bool.and_eq_true, Bool.or_eq_true, Bool.and_eq_false_iff, Bool.or_eq_false_iff, Int.not_le, Int.not_lt] at c1'
      refine RunC.seq ?_
      refine RunC.region ?_
      refine RunL.val (Val.pure rfl) rfl rfl rfl ?_
      refine RunL.val (Val.add rfl rfl (IntWalk.i64_in _ ⟨by decide, by decide⟩)) rfl rfl rfl ?_
      refine RunL.val (Val.pure rfl) rfl rfl rfl ?_
      refine RunL.nil ?_
      refine RunE.next ?_
      refine RunC.ret ?_
      refine RunE.block_ret ?_
      refine RunE.pass_ret ?_
      refine RunE.pass_ret ?_
      refine RunE.block_ret ?_
      refine RunE.pass_ret ?_
      exact RunE.retP (.r1 rfl (.tmp rfl)) (by simp [whyM, hurtL, idxF, *])
    · intro c1
      have c1' := c1; clear c1
      try simp only [decide_eq_true_eq, decide_eq_false_iff_not, Bool.not_eq_true', Bool.not_eq_false', Bool.and_eq_true, Bool.or_eq_true, Bool.and_eq_false_iff, Bool.or_eq_false_iff, Int.not_le, Int.not_lt] at c1'
      have e1 := Int.not_lt.2 c1'
      refine RunC.skip ?_
      refine RunE.block_normal ?_
      refine RunE.next ?_
      refine RunC.region ?_
      refine RunL.val (Val.add rfl rfl (IntWalk.i64_in _ ⟨by decide, by decide⟩)) rfl rfl rfl ?_
      refine RunL.val (Val.pure rfl) rfl rfl rfl ?_
      refine RunL.nil ?_
      refine RunE.keep (Sub.cons (t := 1) rfl (Sub.cons (t := 2) rfl (Sub.cons (t := 4) rfl (Sub.cons (t := 19) rfl (Sub.cons (t := 20) rfl (Sub.nil _)))))) (.cons .here rfl .nil) ?_
      refine RunE.rounds ?_
      refine RunC.seq ?_
      refine RunC.region ?_
      refine RunL.val (Val.pure rfl) rfl rfl rfl ?_
      refine RunL.nil ?_
      refine RunE.next ?_
      refine RunC.seq ?_
      refine RunC.cond rfl ?_ (fun h => absurd h (by decide))
      intro c0
      clear c0
      refine RunC.skip ?_
      refine RunE.next ?_
      refine RunC.seq ?_
      refine RunC.block ?_
      refine RunC.seq ?_
      refine RunC.region ?_
      refine RunL.val (Val.pure rfl) rfl rfl rfl ?_
      refine RunL.val (Val.index1 rfl rfl arr1_146 (by decide) (by decide) (show _ = some (Value.iface 141 (.agg #[])) from rfl)) rfl rfl rfl ?_
      refine RunL.val (Val.pure rfl) rfl rfl rfl ?_
      refine RunL.val (Val.pure rfl) rfl rfl rfl ?_
      refine RunL.nil ?_
      refine RunE.next ?_
      refine RunC.seq ?_
      refine RunC.draw 13 fol_ (.cons .here rfl .nil) ?_
      refine RunA.val (i := 0) rfl (by kernel_rfl) (by kernel_rfl) (Val.pure rfl) rfl rfl rfl (fun _ _ _ h => h) (.cons .here rfl .nil) rfl ?_
      refine RunA.val (i := 1) rfl (by kernel_rfl) (by kernel_rfl) (Val.load_agg rfl (.head _) ty_63 rfl) rfl rfl rfl (fun _ _ _ h => h) (.cons .here rfl .nil) rfl ?_
      refine RunA.val (i := 2) rfl (by kernel_rfl) (by kernel_rfl) (Val.pure rfl) rfl rfl rfl (fun _ _ _ h => h) (.cons .here rfl .nil) rfl ?_
      refine RunA.val (i := 3) rfl (by kernel_rfl) (by kernel_rfl) (Val.fieldAddr rfl fld_63_0) rfl rfl rfl (fun _ _ _ h => h) (.cons .here rfl .nil) rfl ?_
      refine RunA.val (i := 4) rfl (by kernel_rfl) (by kernel_rfl) (Val.load_one rfl (.head _) ty_48 rfl) rfl rfl rfl (fun _ _ _ h => h) (.cons .here rfl .nil) rfl ?_
      refine RunA.val (i := 5) rfl (by kernel_rfl) (by kernel_rfl) (Val.pure rfl) rfl rfl rfl (fun _ _ _ h => h) (.cons .here rfl .nil) rfl ?_
      refine RunA.val (i := 6) rfl (by kernel_rfl) (by kernel_rfl) (Val.fieldAddr rfl fld_53_1) rfl rfl rfl (fun _ _ _ h => h) (.cons .here rfl .nil) rfl ?_
      refine RunA.val (i := 7) rfl (by kernel_rfl) (by kernel_rfl) (Val.oload_one rfl hv (by simp) ty_51 rfl) rfl rfl rfl (fun _ _ _ h => h) (.cons .here rfl .nil) rfl ?_
      refine RunA.val (i := 8) rfl (by kernel_rfl) (by kernel_rfl) (Val.pure rfl) rfl rfl rfl (fun _ _ _ h => h) (.cons .here rfl .nil) rfl ?_
      refine RunA.val (i := 10) rfl (by kernel_rfl) (by kernel_rfl) (Val.pure rfl) rfl rfl rfl (fun _ _ _ h => h) (.cons .here rfl .nil) rfl ?_
      refine RunA.val (i := 11) rfl (by kernel_rfl) (by kernel_rfl) (Val.nilMeth rfl rfl (nah_141_pairworks_mount_hurts _)) rfl rfl rfl (fun _ _ _ h => h) (.cons .here rfl .nil) rfl ?_
      refine RunA.val (i := 12) rfl (by kernel_rfl) (by kernel_rfl) (Val.pure rfl) rfl rfl rfl (fun _ _ _ h => h) (.cons .here rfl .nil) rfl ?_
      refine RunA.one (i := 9) (by kernel_rfl) (by kernel_rfl) ?_
      refine RunI.val rfl (Val.lookupE rfl rfl (fun w hm => hm.old_at hM (by simp)) mapB_51 zeroV_68 (by rw [mFind_M hk, if_pos hw])) rfl rfl rfl (RunK.toA (.cons .here rfl .nil) (.cons .here rfl .nil) rfl ?_)
      refine RunA.toB (by kernel_rfl) ?_
      refine RunB.one (i := 13) (by kernel_rfl) ?_
      refine RunI.callP rfl (isCall_invoke rfl rfl (fun w => meth_141_pairworks_mount_hurts _ w) ent_130) rfl rfl rfl (fun w hm => front_calls c hc t ht k _ hs q cap bc bm w (hm.old_at hv (by simp))) (RunK.toB ?_)
      refine RunB.done (by kernel_rfl) ?_
      refine RunE.next ?_
      refine RunC.cond rfl ?_ ?_
      · intro c1
        have c1' := c1; clear c1
        try simp only [decide_eq_true_eq, decide_eq_false_iff_not, Bool.not_eq_true', Bool.not_eq_false', Bool.and_eq_true, Bool.or_eq_true, Bool.and_eq_false_iff, Bool.or_eq_false_iff, Int.not_le, Int.not_lt] at c1'
        refine RunC.seq ?_
        refine RunC.region ?_
        refine RunL.val (Val.pure rfl) rfl rfl rfl ?_
        refine RunL.val (Val.add rfl rfl (IntWalk.i64_in _ ⟨by decide, by decide⟩)) rfl rfl rfl ?_
        refine RunL.val (Val.pure rfl) rfl rfl rfl ?_
        refine RunL.nil ?_
        refine RunE.next ?_
        refine RunC.ret ?_
        refine RunE.block_ret ?_
        refine RunE.pass_ret ?_
        refine RunE.pass_ret ?_
        refine RunE.block_ret ?_
        refine RunE.pass_ret ?_
        exact RunE.retP (.r1 rfl (.tmp rfl)) (by simp [whyM, hurtL, idxF, *])
      · intro c1
        have c1' := c1; clear c1
        try simp only [decide_eq_true_eq, decide_eq_false_iff_not, Bool.not_eq_true', Bool.not_eq_false', Bool.and_eq_true, Bool.or_eq_true, Bool.and_eq_false_iff, Bool.or_eq_false_iff, Int.not_le, Int.not_lt] at c1'
        have e2 := Int.not_lt.2 c1'
        refine RunC.skip ?_
        refine RunE.block_normal ?_
        refine RunE.next ?_
        refine RunC.region ?_
        refine RunL.val (Val.add rfl rfl (IntWalk.i64_in _ ⟨by decide, by decide⟩)) rfl rfl rfl ?_
        refine RunL.val (Val.pure rfl) rfl rfl rfl ?_
        refine RunL.nil ?_
        refine RunE.keep (Sub.cons (t := 1) rfl (Sub.cons (t := 2) rfl (Sub.cons (t := 4) rfl (Sub.cons (t := 19) rfl (Sub.cons (t := 20) rfl (Sub.nil _)))))) (.cons .here rfl .nil) ?_
        refine RunE.rounds ?_
        refine RunC.seq ?_
        refine RunC.region ?_
        refine RunL.val (Val.pure rfl) rfl rfl rfl ?_
        refine RunL.nil ?_
        refine RunE.next ?_
        refine RunC.seq ?_
        refine RunC.cond rfl ?_ (fun h => absurd h (by decide))
        intro c0
        clear c0
        refine RunC.skip ?_
        refine RunE.next ?_
        refine RunC.seq ?_
        refine RunC.block ?_
        refine RunC.seq ?_
        refine RunC.region ?_
        refine RunL.val (Val.pure rfl) rfl rfl rfl ?_
        refine RunL.val (Val.index1 rfl rfl arr1_146 (by decide) (by decide) (show _ = some (Value.iface 142 (.agg #[])) from rfl)) rfl rfl rfl ?_
        refine RunL.val (Val.pure rfl) rfl rfl rfl ?_
        refine RunL.val (Val.pure rfl) rfl rfl rfl ?_
        refine RunL.nil ?_
        refine RunE.next ?_
        refine RunC.seq ?_
        refine RunC.draw 13 fol_ (.cons .here rfl .nil) ?_
        refine RunA.val (i := 0) rfl (by kernel_rfl) (by kernel_rfl) (Val.pure rfl) rfl rfl rfl (fun _ _ _ h => h) (.cons .here rfl .nil) rfl ?_
        refine RunA.val (i := 1) rfl (by kernel_rfl) (by kernel_rfl) (Val.load_agg rfl (.head _) ty_63 rfl) rfl rfl rfl (fun _ _ _ h => h) (.cons .here rfl .nil) rfl ?_
        refine RunA.val (i := 2) rfl (by kernel_rfl) (by kernel_rfl) (Val.pure rfl) rfl rfl rfl (fun _ _ _ h => h) (.cons .here rfl .nil) rfl ?_
        refine RunA.val (i := 3) rfl (by kernel_rfl) (by kernel_rfl) (Val.fieldAddr rfl fld_63_0) rfl rfl rfl (fun _ _ _ h => h) (.cons .here rfl .nil) rfl ?_
        refine RunA.val (i := 4) rfl (by kernel_rfl) (by kernel_rfl) (Val.load_one rfl (.head _) ty_48 rfl) rfl rfl rfl (fun _ _ _ h => h) (.cons .here rfl .nil) rfl ?_
        refine RunA.val (i := 5) rfl (by kernel_rfl) (by kernel_rfl) (Val.pure rfl) rfl rfl rfl (fun _ _ _ h => h) (.cons .here rfl .nil) rfl ?_
        refine RunA.val (i := 6) rfl (by kernel_rfl) (by kernel_rfl) (Val.fieldAddr rfl fld_53_1) rfl rfl rfl (fun _ _ _ h => h) (.cons .here rfl .nil) rfl ?_
        refine RunA.val (i := 7) rfl (by kernel_rfl) (by kernel_rfl) (Val.oload_one rfl hv (by simp) ty_51 rfl) rfl rfl rfl (fun _ _ _ h => h) (.cons .here rfl .nil) rfl ?_
        refine RunA.val (i := 8) rfl (by kernel_rfl) (by kernel_rfl) (Val.pure rfl) rfl rfl rfl (fun _ _ _ h => h) (.cons .here rfl .nil) rfl ?_
        refine RunA.val (i := 10) rfl (by kernel_rfl) (by kernel_rfl) (Val.pure rfl) rfl rfl rfl (fun _ _ _ h => h) (.cons .here rfl .nil) rfl ?_
        refine RunA.val (i := 11) rfl (by kernel_rfl) (by kernel_rfl) (Val.nilMeth rfl rfl (nah_142_pairworks_mount_hurts _)) rfl rfl rfl (fun _ _ _ h => h) (.cons .here rfl .nil) rfl ?_
        refine RunA.val (i := 12) rfl (by kernel_rfl) (by kernel_rfl) (Val.pure rfl) rfl rfl rfl (fun _ _ _ h => h) (.cons .here rfl .nil) rfl ?_
        refine RunA.one (i := 9) (by kernel_rfl) (by kernel_rfl) ?_
        refine RunI.val rfl (Val.lookupE rfl rfl (fun w hm => hm.old_at hM (by simp)) mapB_51 zeroV_68 (by rw [mFind_M hk, if_pos hw])) rfl rfl rfl (RunK.toA (.cons .here rfl .nil) (.cons .here rfl .nil) rfl ?_)
        refine RunA.toB (by kernel_rfl) ?_
        refine RunB.one (i := 13) (by kernel_rfl) ?_
        refine RunI.callP rfl (isCall_invoke rfl rfl (fun w => meth_142_pairworks_mount_hurts _ w) ent_131) rfl rfl rfl (fun w hm => behindM_calls c hc t ht k _ hs q cap bc bm w (hm.old_at hv (by simp))) (RunK.toB ?_)
        refine RunB.done (by kernel_rfl) ?_
        refine RunE.next ?_
        refine RunC.cond rfl ?_ ?_
        · intro c1
          have c1' := c1; clear c1
          try simp only [decide_eq_true_eq, decide_eq_false_iff_not, Bool.not_eq_true', Bool.not_eq_false', Bool.and_eq_true, Bool.or_eq_true, Bool.and_eq_false_iff, Bool.or_eq_false_iff, Int.not_le, Int.not_lt] at c1'
          refine RunC.seq ?_
          refine RunC.region ?_
          refine RunL.val (Val.pure rfl) rfl rfl rfl ?_
          refine RunL.val (Val.add rfl rfl (IntWalk.i64_in _ ⟨by decide, by decide⟩)) rfl rfl rfl ?_
          refine RunL.val (Val.pure rfl) rfl rfl rfl ?_
          refine RunL.nil ?_
          refine RunE.next ?_
          refine RunC.ret ?_
          refine RunE.block_ret ?_
          refine RunE.pass_ret ?_
          refine RunE.pass_ret ?_
          refine RunE.block_ret ?_
          refine RunE.pass_ret ?_
          exact RunE.retP (.r1 rfl (.tmp rfl)) (by simp [whyM, hurtL, idxF, *])
        · intro c1
          have c1' := c1; clear c1
          try simp only [decide_eq_true_eq, decide_eq_false_iff_not, Bool.not_eq_true', Bool.not_eq_false', Bool.and_eq_true, Bool.or_eq_true, Bool.and_eq_false_iff, Bool.or_eq_false_iff, Int.not_le, Int.not_lt] at c1'
          have e3 := Int.not_lt.2 c1'
          refine RunC.skip ?_
          refine RunE.block_normal ?_
          refine RunE.next ?_
          refine RunC.region ?_
          refine RunL.val (Val.add rfl rfl (IntWalk.i64_in _ ⟨by decide, by decide⟩)) rfl rfl rfl ?_
          refine RunL.val (Val.pure rfl) rfl rfl rfl ?_
          refine RunL.nil ?_
          refine RunE.keep (Sub.cons (t := 1) rfl (Sub.cons (t := 2) rfl (Sub.cons (t := 4) rfl (Sub.cons (t := 19) rfl (Sub.cons (t := 20) rfl (Sub.nil _)))))) (.cons .here rfl .nil) ?_
          refine RunE.rounds ?_
          refine RunC.seq ?_
          refine RunC.region ?_
          refine RunL.val (Val.pure rfl) rfl rfl rfl ?_
          refine RunL.nil ?_
          refine RunE.next ?_
          refine RunC.seq ?_
          refine RunC.cond rfl ?_ (fun h => absurd h (by decide))
          intro c0
          clear c0
          refine RunC.skip ?_
          refine RunE.next ?_
          refine RunC.seq ?_
          refine RunC.block ?_
          refine RunC.seq ?_
          refine RunC.region ?_
          refine RunL.val (Val.pure rfl) rfl rfl rfl ?_
          refine RunL.val (Val.index1 rfl rfl arr1_146 (by decide) (by decide) (show _ = some (Value.iface 143 (.agg #[])) from rfl)) rfl rfl rfl ?_
          refine RunL.val (Val.pure rfl) rfl rfl rfl ?_
          refine RunL.val (Val.pure rfl) rfl rfl rfl ?_
          refine RunL.nil ?_
          refine RunE.next ?_
          refine RunC.seq ?_
          refine RunC.draw 13 fol_ (.cons .here rfl .nil) ?_
          refine RunA.val (i := 0) rfl (by kernel_rfl) (by kernel_rfl) (Val.pure rfl) rfl rfl rfl (fun _ _ _ h => h) (.cons .here rfl .nil) rfl ?_
          refine RunA.val (i := 1) rfl (by kernel_rfl) (by kernel_rfl) (Val.load_agg rfl (.head _) ty_63 rfl) rfl rfl rfl (fun _ _ _ h => h) (.cons .here rfl .nil) rfl ?_
          refine RunA.val (i := 2) rfl (by kernel_rfl) (by kernel_rfl) (Val.pure rfl) rfl rfl rfl (fun _ _ _ h => h) (.cons .here rfl .nil) rfl ?_
          refine RunA.val (i := 3) rfl (by kernel_rfl) (by kernel_rfl) (Val.fieldAddr rfl fld_63_0) rfl rfl rfl (fun _ _ _ h => h) (.cons .here rfl .nil) rfl ?_
          refine RunA.val (i := 4) rfl (by kernel_rfl) (by kernel_rfl) (Val.load_one rfl (.head _) ty_48 rfl) rfl rfl rfl (fun _ _ _ h => h) (.cons .here rfl .nil) rfl ?_
          refine RunA.val (i := 5) rfl (by kernel_rfl) (by kernel_rfl) (Val.pure rfl) rfl rfl rfl (fun _ _ _ h => h) (.cons .here rfl .nil) rfl ?_
          refine RunA.val (i := 6) rfl (by kernel_rfl) (by kernel_rfl) (Val.fieldAddr rfl fld_53_1) rfl rfl rfl (fun _ _ _ h => h) (.cons .here rfl .nil) rfl ?_
          refine RunA.val (i := 7) rfl (by kernel_rfl) (by kernel_rfl) (Val.oload_one rfl hv (by simp) ty_51 rfl) rfl rfl rfl (fun _ _ _ h => h) (.cons .here rfl .nil) rfl ?_
          refine RunA.val (i := 8) rfl (by kernel_rfl) (by kernel_rfl) (Val.pure rfl) rfl rfl rfl (fun _ _ _ h => h) (.cons .here rfl .nil) rfl ?_
          refine RunA.val (i := 10) rfl (by kernel_rfl) (by kernel_rfl) (Val.pure rfl) rfl rfl rfl (fun _ _ _ h => h) (.cons .here rfl .nil) rfl ?_
          refine RunA.val (i := 11) rfl (by kernel_rfl) (by kernel_rfl) (Val.nilMeth rfl rfl (nah_143_pairworks_mount_hurts _)) rfl rfl rfl (fun _ _ _ h => h) (.cons .here rfl .nil) rfl ?_
          refine RunA.val (i := 12) rfl (by kernel_rfl) (by kernel_rfl) (Val.pure rfl) rfl rfl rfl (fun _ _ _ h => h) (.cons .here rfl .nil) rfl ?_
          refine RunA.one (i := 9) (by kernel_rfl) (by kernel_rfl) ?_
          refine RunI.val rfl (Val.lookupE rfl rfl (fun w hm => hm.old_at hM (by simp)) mapB_51 zeroV_68 (by rw [mFind_M hk, if_pos hw])) rfl rfl rfl (RunK.toA (.cons .here rfl .nil) (.cons .here rfl .nil) rfl ?_)
          refine RunA.toB (by kernel_rfl) ?_
          refine RunB.one (i := 13) (by kernel_rfl) ?_
          refine RunI.callP rfl (isCall_invoke rfl rfl (fun w => meth_143_pairworks_mount_hurts _ w) ent_132) rfl rfl rfl (fun w hm => off_calls c t ht k hk _ q b o cap bc bm w (h.mem hm.drop)) (RunK.toB ?_)
          refine RunB.done (by kernel_rfl) ?_
          refine RunE.next ?_
          refine RunC.cond rfl ?_ ?_
          · intro c1
            have c1' := c1; clear c1
            try simp only [decide_eq_true_eq, decide_eq_false_iff_not, Bool.not_eq_true', Bool.not_eq_false', Bool.and_eq_true, Bool.or_eq_true, Bool.and_eq_false_iff, Bool.or_eq_false_iff, Int.not_le, Int.not_lt] at c1'
            refine RunC.seq ?_
            refine RunC.region ?_
            refine RunL.val (Val.pure rfl) rfl rfl rfl ?_
            refine RunL.val (Val.add rfl rfl (IntWalk.i64_in _ ⟨by decide, by decide⟩)) rfl rfl rfl ?_
            refine RunL.val (Val.pure rfl) rfl rfl rfl ?_
            refine RunL.nil ?_
            refine RunE.next ?_
            refine RunC.ret ?_
            refine RunE.block_ret ?_
            refine RunE.pass_ret ?_
            refine RunE.pass_ret ?_
            refine RunE.block_ret ?_
            refine RunE.pass_ret ?_
            exact RunE.retP (.r1 rfl (.tmp rfl)) (by simp [whyM, hurtL, idxF, *])
          · intro c1
            have c1' := c1; clear c1
            try simp only [decide_eq_true_eq, decide_eq_false_iff_not, Bool.not_eq_true', Bool.not_eq_false', Bool.and_eq_true, Bool.or_eq_true, Bool.and_eq_false_iff, Bool.or_eq_false_iff, Int.not_le, Int.not_lt] at c1'
            have e4 := c1'
            refine RunC.skip ?_
            refine RunE.block_normal ?_
            refine RunE.next ?_
            refine RunC.region ?_
            refine RunL.val (Val.add rfl rfl (IntWalk.i64_in _ ⟨by decide, by decide⟩)) rfl rfl rfl ?_
            refine RunL.val (Val.pure rfl) rfl rfl rfl ?_
            refine RunL.nil ?_
            refine RunE.keep (Sub.cons (t := 1) rfl (Sub.cons (t := 2) rfl (Sub.cons (t := 4) rfl (Sub.cons (t := 19) rfl (Sub.cons (t := 20) rfl (Sub.nil _)))))) (.cons .here rfl .nil) ?_
            refine RunE.rounds ?_
            refine RunC.seq ?_
            refine RunC.region ?_
            refine RunL.val (Val.pure rfl) rfl rfl rfl ?_
            refine RunL.nil ?_
            refine RunE.next ?_
            refine RunC.seq ?_
            refine RunC.cond rfl (fun h => absurd h (by decide)) ?_
            intro c0
            clear c0
            refine RunC.exit ?_
            refine RunE.pass_exit ?_
            refine RunE.pass_exit ?_
            refine RunE.block_here ?_
            refine RunE.next ?_
            refine RunC.seq ?_
            refine RunC.region ?_
            refine RunL.val (Val.pure rfl) rfl rfl rfl ?_
            refine RunL.nil ?_
            refine RunE.next ?_
            refine RunC.ret ?_
            exact RunE.retP (.r1 rfl (.tmp rfl)) (by simp [whyM, hurtL, idxF, *])
def seenS (p : Pr) (k : Nat) : Int × Int := if (whyX p k).1 = 0 then (shiftX p k).1 else (0, 0)
theorem seen_okV {p : Pr} {k : Nat} (hk : k < p.things.length) : Value.tuple #[(mFind (mEnts p) k).getD (.agg #[.int .i64 0, .int .i64 0]), .bool (mFind (mEnts p) k).isSome] = .tuple #[b2v (seenS p k), .bool (decide ((whyX p k).1 = 0))] := by
  rw [mFind_M hk]
  unfold seenS
  by_cases h : (whyX p k).1 = 0
  · simp [h]
  · simp [h, b2v]
abbrev thO (p : Pr) := { x : Eng.Own // OwnOk 1 x (seenN p).length ((seenN p).map fun n => [Value.int .i64 n]).flatten }
theorem things_calls (c : Cd) (q : Option Addr) (b o cap bc bm : Nat) (W : World) (h : CdAt c q b o cap bc bm W) :
    Calls Tryz.prog 62 #[.pointer (some ⟨bc, 0, none⟩)] W (News (fun x : thO c.p => .slice (ownQ x.1) (seenN c.p).length (ownC x.1)) (fun x => ownB 3 x.1 ((seenN c.p).map fun n => [Value.int .i64 n]).flatten ++ []) W) := by
  have hv := h.v
  have hM := h.m
  have hl := h.pk.len
  refine calls_start Tryz.func62 rfl rfl ?_
  refine RunC.seq ?_
  refine RunC.region ?_
  refine RunL.val (Val.pure rfl) rfl rfl rfl ?_
  refine RunL.nil ?_
  refine RunE.next ?_
  refine RunC.seq ?_
  refine RunC.seq ?_
  refine RunC.region ?_
  refine RunL.val (Val.pure rfl) rfl rfl rfl ?_
  refine RunL.val (Val.pure rfl) rfl rfl rfl ?_
  refine RunL.val (Val.fieldAddr rfl fld_53_0) rfl rfl rfl ?_
  refine RunL.val (Val.fieldAddr rfl fld_28_0) rfl rfl rfl ?_
  refine RunL.val (Val.fieldAddr rfl fld_26_5) rfl rfl rfl ?_
  refine RunL.val (Val.oload_one rfl hv (by simp) ty_24 rfl) rfl rfl rfl ?_
  refine RunL.val (Val.len_sl rfl sl_24) rfl rfl rfl ?_
  refine RunL.val (Val.pure rfl) rfl rfl rfl ?_
  refine RunL.nil ?_
  refine RunE.next ?_
  refine RunC.block ?_
  refine RunC.loopX (X := Eng.Own) (n0 := []) (c.p.things.length) (fun k x q => (13, .int .i64 (k : Int)) :: (2, ownV x (seenNK c.p k).length) :: q) (fun _ _ => _) (fun k x => []) (fun k x => ownB 3 x ((seenNK c.p k).map fun n => [Value.int .i64 n]).flatten ++ []) (fun k x => OwnOk 1 x (seenNK c.p k).length ((seenNK c.p k).map fun n => [Value.int .i64 n]).flatten) none OwnOk.start rfl (Sub.consE (t := 13) rfl rfl (Sub.consE (t := 2) rfl rfl (Sub.cons (t := 0) rfl (Sub.cons (t := 12) rfl (Sub.nil _))))) (Pick.same rfl) ?_
  intro k x kN kI
  have hx1 := kI
  refine RunC.seq ?_
  refine RunC.region ?_
  refine RunL.val (Val.pure rfl) rfl rfl rfl ?_
  refine RunL.nil ?_
  refine RunE.next ?_
  refine RunC.seq ?_
  refine RunC.cond rfl ?_ ?_
  · intro c0
    have c0' := c0; clear c0
    try simp only [decide_eq_true_eq, decide_eq_false_iff_not, Bool.not_eq_true', Bool.not_eq_false', Bool.and_eq_true, Bool.or_eq_true, Bool.and_eq_false_iff, Bool.or_eq_false_iff, Int.not_le, Int.not_lt] at c0'
    have hk : k < c.p.things.length := by omega
    refine RunC.skip ?_
    refine RunE.next ?_
    refine RunC.seq ?_
    refine RunC.block ?_
    refine RunC.seq ?_
    refine RunC.region ?_
    refine RunL.val (Val.pure rfl) rfl rfl rfl ?_
    refine RunL.val (Val.pure rfl) rfl rfl rfl ?_
    refine RunL.nil ?_
    refine RunE.next ?_
    refine RunC.seq ?_
    refine RunC.region ?_
    refine RunL.val (Val.pure rfl) rfl rfl rfl ?_
    refine RunL.val (Val.pure rfl) rfl rfl rfl ?_
    refine RunL.val (Val.fieldAddr rfl fld_53_1) rfl rfl rfl ?_
    refine RunL.val (Val.oload_one rfl hv (by simp) ty_51 rfl) rfl rfl rfl ?_
    refine RunL.val (Val.pure rfl) rfl rfl rfl ?_
    refine RunL.val (Val.lookupOkV rfl rfl (fun w hm => hm.old_at hM (by simp)) mapB_51 zeroV_68 (seen_okV hk)) rfl rfl rfl ?_
    iterate 3 refine RunL.val (Val.pure rfl) rfl rfl rfl ?_
    refine RunL.new (New.alloc zero_68) rfl rfl rfl (fun b4 => ?_)
    refine RunL.sto (Sto.store rfl rfl .here ty_68 rfl rfl) rfl rfl ?_
    refine RunL.val (Val.pure rfl) rfl rfl rfl ?_
    refine RunL.nil ?_
    refine RunE.next ?_
    refine RunC.seq ?_
    refine RunC.region ?_
    refine RunL.val (Val.pure rfl) rfl rfl rfl ?_
    refine RunL.nil ?_
    refine RunE.next ?_
    refine RunC.cond rfl ?_ ?_
    · intro c1
      have c1' := c1; clear c1
      try simp only [decide_eq_true_eq, decide_eq_false_iff_not, Bool.not_eq_true', Bool.not_eq_false', Bool.and_eq_true, Bool.or_eq_true, Bool.and_eq_false_iff, Bool.or_eq_false_iff, Int.not_le, Int.not_lt] at c1'
      have hw : (whyX c.p k).1 = 0 := c1'
      have hsl := seenNK_len c.p k
      refine RunC.region ?_
      refine RunL.val (Val.pure rfl) rfl rfl rfl ?_
      refine RunL.val (Val.pure rfl) rfl rfl rfl ?_
      refine RunL.new (New.buildSlice (parts := [(0, .tmp 27)]) rfl sl_55 zero_3 rfl rfl rfl rfl) rfl rfl rfl (fun b28 => ?_)
      refine RunL.append (A := [(b28, _), (b4, _)]) (B := _) (x := x) (ys := [.int .i64 (k : Int)]) ap_55 rfl rfl rfl hx1 rfl (fun h => by cases h) (fun w hm => src_blk (hm.at (.head _))) (one_of rfl) (by simp only [maxLen]; omega) (by omega) rfl (fun z29 hz29 => ?_)
      refine RunL.val (Val.pure rfl) rfl rfl rfl ?_
      refine RunL.nil ?_
      refine RunE.block_normal ?_
      refine RunE.next ?_
      refine RunC.region ?_
      refine RunL.val (Val.add rfl rfl (IntWalk.i64_in _ ⟨by omega, by omega⟩)) rfl rfl rfl ?_
      refine RunL.val (Val.pure rfl) rfl rfl rfl ?_
      refine RunL.nil ?_
      exact RunE.roundX z29 (by omega) (by first | (rw [seenNK_yes hw, ← flat_snoc, List.length_append]; exact hz29) | (rw [seenNK_no hw]; exact hx1)) rfl (Sub.consE (t := 13) rfl rfl (Sub.consE (t := 2) rfl (by first | (rw [seenNK_yes hw, List.length_append]; rfl) | rw [seenNK_no hw]) (Sub.cons (t := 0) rfl (Sub.cons (t := 12) rfl (Sub.nil _))))) (Pick.skip (Pick.skip (Pick.same (by rw [seenNK_yes hw, ← flat_snoc]; rfl))))
    · intro c1
      have c1' := c1; clear c1
      try simp only [decide_eq_true_eq, decide_eq_false_iff_not, Bool.not_eq_true', Bool.not_eq_false', Bool.and_eq_true, Bool.or_eq_true, Bool.and_eq_false_iff, Bool.or_eq_false_iff, Int.not_le, Int.not_lt] at c1'
      have hw : (whyX c.p k).1 ≠ 0 := c1'
      refine RunC.skip ?_
      refine RunE.block_normal ?_
      refine RunE.next ?_
      refine RunC.region ?_
      refine RunL.val (Val.add rfl rfl (IntWalk.i64_in _ ⟨by omega, by omega⟩)) rfl rfl rfl ?_
      refine RunL.val (Val.pure rfl) rfl rfl rfl ?_
      refine RunL.nil ?_
      exact RunE.roundX x (by omega) (by first | (rw [seenNK_yes hw, ← flat_snoc, List.length_append]; exact hz29) | (rw [seenNK_no hw]; exact hx1)) rfl (Sub.consE (t := 13) rfl rfl (Sub.consE (t := 2) rfl (by first | (rw [seenNK_yes hw, List.length_append]; rfl) | rw [seenNK_no hw]) (Sub.cons (t := 0) rfl (Sub.cons (t := 12) rfl (Sub.nil _))))) (Pick.skip (Pick.same (by rw [seenNK_no hw])))
  · intro c0
    have c0' := c0; clear c0
    try simp only [decide_eq_true_eq, decide_eq_false_iff_not, Bool.not_eq_true', Bool.not_eq_false', Bool.and_eq_true, Bool.or_eq_true, Bool.and_eq_false_iff, Bool.or_eq_false_iff, Int.not_le, Int.not_lt] at c0'
    obtain rfl : k = c.p.things.length := by omega
    have y1 : ownV x (seenNK c.p c.p.things.length).length = .slice (ownQ x) (seenN c.p).length (ownC x) := ownV_slice hx1
    simp only [y1]
    refine RunC.exit ?_
    refine RunE.pass_exit ?_
    refine RunE.pass_exit ?_
    refine RunE.block_here ?_
    refine RunE.next ?_
    refine RunC.seq ?_
    refine RunC.region ?_
    refine RunL.val (Val.pure rfl) rfl rfl rfl ?_
    refine RunL.val (Val.pure rfl) rfl rfl rfl ?_
    refine RunL.nil ?_
    refine RunE.next ?_
    refine RunC.ret ?_
    exact RunE.ret (chg := []) (.r1 rfl (.tmp rfl)) (fun _ hm => ⟨⟨x, hx1⟩, rfl, hm.pick (Pick.refl _)⟩)
theorem th_sl {p : Pr} (x : thO p) {w : World} (hm : ∀ b o, (b, o) ∈ ownB 3 x.1 ((seenN p).map fun n => [Value.int .i64 n]).flatten ++ [] → w.heap[b]? = some o) : Sl w (ownQ x.1) (ownK x.1) 0 1 ((seenN p).map fun n => [Value.int .i64 n]) :=
  own_sl (f := fun n : Int => [Value.int .i64 n]) (sz := 1) (fun _ => rfl) (by decide) x.2 (fun b o h => hm b o (List.mem_append_left _ h))
end Go.Proofs.YthoheicppmbepaaGreat
