/- Walks of the reference of layer 3: what hurts. -/
import Derived.Test.YthoheicppmbepaaGreatZa
set_option linter.unusedSimpArgs false
set_option linter.unusedVariables false
namespace Go.Proofs.YthoheicppmbepaaGreat
open Go Go.Eng Go.Pw1

theorem zHurt_calls (c : Cd) (hc : c.Ok) (t : Tr) (ht : t.Ok c.cuts) (x : Th) (hx : x.Ok) (q : Option Addr) (cap : Nat) (W : World) : Calls Tryz.prog 64 #[c.v q cap, t.v, x.v] W (Pure (.int .i64 (hurtR c t x)) W) := by
  have ab := apart_bd hc ht
  have hs := shift_bd hx
  have ht0 := ht
  have hx0 := hx
  obtain ⟨t1, t2, t3, t4, t5, t6, t7, t8⟩ := ht
  obtain ⟨⟨x1, x2, x3⟩, _, ⟨x4, x5, x6⟩, _⟩ := hx
  obtain ⟨h1, h2, h3, h4, h5, h6, h7, h8, h9, h10, h11, h12, h13, h14, h15, h16, h17⟩ := id hc
  have w0 := step_bd hc (x := t.ll - t.rl) (by omega)
  have w2 := step_bd hc (x := t.lr) (by omega)
  have w3 := step_bd hc (x := t.rl) (by omega)
  have w4 := step_bd hc (x := t.ll) (by omega)
  have w5 := step_bd hc (x := t.rr) (by omega)
  have w6 : windowM c t = c.step * (t.ll - t.rl) := rfl
  refine calls_start Tryz.func64 rfl rfl ?_
  refine RunC.seq ?_
  refine RunC.region ?_
  refine RunL.new (New.box rfl) rfl rfl rfl (fun b3 => ?_)
  refine RunL.new (New.box rfl) rfl rfl rfl (fun b4 => ?_)
  refine RunL.new (New.box rfl) rfl rfl rfl (fun b5 => ?_)
  refine RunL.val (Val.pure rfl) rfl rfl rfl ?_
  refine RunL.nil ?_
  refine RunE.next ?_
  refine RunC.seq ?_
  refine RunC.region ?_
  refine RunL.val (Val.load_agg rfl (.head _) ty_76 rfl) rfl rfl rfl ?_
  refine RunL.callP (isCall_func rfl ent_36) rfl rfl rfl (fun w hm => rOf_calls x hx0 w) ?_
  refine RunL.new (New.alloc zero_23) rfl rfl rfl (fun b7 => ?_)
  refine RunL.sto (Sto.store rfl rfl .here ty_23 rfl rfl) rfl rfl ?_
  refine RunL.nil ?_
  refine RunE.next ?_
  refine RunC.seq ?_
  refine RunC.seq ?_
  refine RunC.draw 11 fol_ (.cons .here rfl (.cons .here rfl (.cons .here rfl (.cons .here rfl .nil)))) ?_
  refine RunA.val (i := 0) rfl (by kernel_rfl) (by kernel_rfl) (Val.load_agg rfl (.tail _ (.tail _ (.tail _ (.head _)))) ty_28 rfl) rfl rfl rfl (fun _ _ _ h => h) (.cons .here rfl (.cons .here rfl (.cons .here rfl (.cons .here rfl .nil)))) rfl ?_
  refine RunA.val (i := 1) rfl (by kernel_rfl) (by kernel_rfl) (Val.load_agg rfl (.tail _ (.tail _ (.head _))) ty_30 rfl) rfl rfl rfl (fun _ _ _ h => h) (.cons .here rfl (.cons .here rfl (.cons .here rfl (.cons .here rfl .nil)))) rfl ?_
  refine RunA.val (i := 2) rfl (by kernel_rfl) (by kernel_rfl) (Val.fieldAddr rfl fld_23_1) rfl rfl rfl (fun _ _ _ h => h) (.cons .here rfl (.cons .here rfl (.cons .here rfl (.cons .here rfl .nil)))) rfl ?_
  refine RunA.val (i := 3) rfl (by kernel_rfl) (by kernel_rfl) (Val.load_one rfl (.head _) ty_3 rfl) rfl rfl rfl (fun _ _ _ h => h) (.cons .here rfl (.cons .here rfl (.cons .here rfl (.cons .here rfl .nil)))) rfl ?_
  refine RunA.val (i := 5) rfl (by kernel_rfl) (by kernel_rfl) (Val.fieldAddr rfl fld_28_4) rfl rfl rfl (fun _ _ _ h => h) (.cons .here rfl (.cons .here rfl (.cons .here rfl (.cons .here rfl .nil)))) rfl ?_
  refine RunA.val (i := 6) rfl (by kernel_rfl) (by kernel_rfl) (Val.fieldAddr rfl fld_23_1) rfl rfl rfl (fun _ _ _ h => h) (.cons .here rfl (.cons .here rfl (.cons .here rfl (.cons .here rfl .nil)))) rfl ?_
  refine RunA.val (i := 7) rfl (by kernel_rfl) (by kernel_rfl) (Val.load_one rfl (.tail _ (.tail _ (.tail _ (.head _)))) ty_3 rfl) rfl rfl rfl (fun _ _ _ h => h) (.cons .here rfl (.cons .here rfl (.cons .here rfl (.cons .here rfl .nil)))) rfl ?_
  refine RunA.val (i := 8) rfl (by kernel_rfl) (by kernel_rfl) (Val.fieldAddr rfl fld_28_6) rfl rfl rfl (fun _ _ _ h => h) (.cons .here rfl (.cons .here rfl (.cons .here rfl (.cons .here rfl .nil)))) rfl ?_
  refine RunA.val (i := 9) rfl (by kernel_rfl) (by kernel_rfl) (Val.load_one rfl (.tail _ (.tail _ (.tail _ (.head _)))) ty_3 rfl) rfl rfl rfl (fun _ _ _ h => h) (.cons .here rfl (.cons .here rfl (.cons .here rfl (.cons .here rfl .nil)))) rfl ?_
  refine RunA.val (i := 10) rfl (by kernel_rfl) (by kernel_rfl) (Val.sub' rfl rfl (IntWalk.i64_in _ ⟨by omega, by omega⟩)) rfl rfl rfl (fun _ _ _ h => h) (.cons .here rfl (.cons .here rfl (.cons .here rfl (.cons .here rfl .nil)))) rfl ?_
  refine RunA.one (i := 4) (by kernel_rfl) (by kernel_rfl) ?_
  refine RunI.callP rfl (isCall_func rfl ent_37) rfl rfl rfl (fun w hm => zApart_calls c hc t ht0 _ (by omega) q cap w) (RunK.toA (.cons .here rfl (.cons .here rfl (.cons .here rfl (.cons .here rfl .nil)))) (.cons .here rfl (.cons .here rfl (.cons .here rfl (.cons .here rfl .nil)))) rfl ?_)
  refine RunA.toB (by kernel_rfl) ?_
  refine RunB.one (i := 11) (by kernel_rfl) ?_
  refine RunI.val rfl (Val.pure rfl) rfl rfl rfl (RunK.toB ?_)
  refine RunB.done (by kernel_rfl) ?_
  refine RunE.next ?_
  refine RunC.cond rfl ?_ ?_
  · intro c0
    have c0' := c0; clear c0
    try simp only [decide_eq_true_eq, decide_eq_false_iff_not, Bool.not_eq_true', Bool.not_eq_false', Bool.and_eq_true, Bool.or_eq_true, Bool.and_eq_false_iff, Bool.or_eq_false_iff, Int.not_le, Int.not_lt] at c0'
    refine RunC.seq ?_
    refine RunC.region ?_
    refine RunL.val (Val.pure rfl) rfl rfl rfl ?_
    refine RunL.nil ?_
    refine RunE.next ?_
    refine RunC.ret ?_
    refine RunE.pass_ret ?_
    exact RunE.retP (.r1 rfl (.tmp rfl)) (by simp only [hurtR, if_pos c0'])
  · intro c0
    have c0' := c0; clear c0
    try simp only [decide_eq_true_eq, decide_eq_false_iff_not, Bool.not_eq_true', Bool.not_eq_false', Bool.and_eq_true, Bool.or_eq_true, Bool.and_eq_false_iff, Bool.or_eq_false_iff, Int.not_le, Int.not_lt] at c0'
    have e1 := Int.not_lt.2 c0'
    refine RunC.skip ?_
    refine RunE.next ?_
    refine RunC.seq ?_
    refine RunC.seq ?_
    refine RunC.draw 11 fol_ (.cons .here rfl (.cons .here rfl (.cons .here rfl (.cons .here rfl .nil)))) ?_
    refine RunA.val (i := 0) rfl (by kernel_rfl) (by kernel_rfl) (Val.load_agg rfl (.tail _ (.tail _ (.tail _ (.head _)))) ty_28 rfl) rfl rfl rfl (fun _ _ _ h => h) (.cons .here rfl (.cons .here rfl (.cons .here rfl (.cons .here rfl .nil)))) rfl ?_
    refine RunA.val (i := 1) rfl (by kernel_rfl) (by kernel_rfl) (Val.load_agg rfl (.tail _ (.tail _ (.head _))) ty_30 rfl) rfl rfl rfl (fun _ _ _ h => h) (.cons .here rfl (.cons .here rfl (.cons .here rfl (.cons .here rfl .nil)))) rfl ?_
    refine RunA.val (i := 2) rfl (by kernel_rfl) (by kernel_rfl) (Val.fieldAddr rfl fld_23_0) rfl rfl rfl (fun _ _ _ h => h) (.cons .here rfl (.cons .here rfl (.cons .here rfl (.cons .here rfl .nil)))) rfl ?_
    refine RunA.val (i := 3) rfl (by kernel_rfl) (by kernel_rfl) (Val.load_one rfl (.head _) ty_3 rfl) rfl rfl rfl (fun _ _ _ h => h) (.cons .here rfl (.cons .here rfl (.cons .here rfl (.cons .here rfl .nil)))) rfl ?_
    refine RunA.val (i := 5) rfl (by kernel_rfl) (by kernel_rfl) (Val.fieldAddr rfl fld_28_4) rfl rfl rfl (fun _ _ _ h => h) (.cons .here rfl (.cons .here rfl (.cons .here rfl (.cons .here rfl .nil)))) rfl ?_
    refine RunA.val (i := 6) rfl (by kernel_rfl) (by kernel_rfl) (Val.fieldAddr rfl fld_23_0) rfl rfl rfl (fun _ _ _ h => h) (.cons .here rfl (.cons .here rfl (.cons .here rfl (.cons .here rfl .nil)))) rfl ?_
    refine RunA.val (i := 7) rfl (by kernel_rfl) (by kernel_rfl) (Val.load_one rfl (.tail _ (.tail _ (.tail _ (.head _)))) ty_3 rfl) rfl rfl rfl (fun _ _ _ h => h) (.cons .here rfl (.cons .here rfl (.cons .here rfl (.cons .here rfl .nil)))) rfl ?_
    refine RunA.val (i := 8) rfl (by kernel_rfl) (by kernel_rfl) (Val.fieldAddr rfl fld_28_5) rfl rfl rfl (fun _ _ _ h => h) (.cons .here rfl (.cons .here rfl (.cons .here rfl (.cons .here rfl .nil)))) rfl ?_
    refine RunA.val (i := 9) rfl (by kernel_rfl) (by kernel_rfl) (Val.load_one rfl (.tail _ (.tail _ (.tail _ (.head _)))) ty_3 rfl) rfl rfl rfl (fun _ _ _ h => h) (.cons .here rfl (.cons .here rfl (.cons .here rfl (.cons .here rfl .nil)))) rfl ?_
    refine RunA.val (i := 10) rfl (by kernel_rfl) (by kernel_rfl) (Val.add rfl rfl (IntWalk.i64_in _ ⟨by omega, by omega⟩)) rfl rfl rfl (fun _ _ _ h => h) (.cons .here rfl (.cons .here rfl (.cons .here rfl (.cons .here rfl .nil)))) rfl ?_
    refine RunA.one (i := 4) (by kernel_rfl) (by kernel_rfl) ?_
    refine RunI.callP rfl (isCall_func rfl ent_37) rfl rfl rfl (fun w hm => zApart_calls c hc t ht0 _ (by omega) q cap w) (RunK.toA (.cons .here rfl (.cons .here rfl (.cons .here rfl (.cons .here rfl .nil)))) (.cons .here rfl (.cons .here rfl (.cons .here rfl (.cons .here rfl .nil)))) rfl ?_)
    refine RunA.toB (by kernel_rfl) ?_
    refine RunB.one (i := 11) (by kernel_rfl) ?_
    refine RunI.val rfl (Val.pure rfl) rfl rfl rfl (RunK.toB ?_)
    refine RunB.done (by kernel_rfl) ?_
    refine RunE.next ?_
    refine RunC.cond rfl ?_ ?_
    · intro c1
      have c1' := c1; clear c1
      try simp only [decide_eq_true_eq, decide_eq_false_iff_not, Bool.not_eq_true', Bool.not_eq_false', Bool.and_eq_true, Bool.or_eq_true, Bool.and_eq_false_iff, Bool.or_eq_false_iff, Int.not_le, Int.not_lt] at c1'
      refine RunC.seq ?_
      refine RunC.region ?_
      refine RunL.val (Val.pure rfl) rfl rfl rfl ?_
      refine RunL.nil ?_
      refine RunE.next ?_
      refine RunC.ret ?_
      refine RunE.pass_ret ?_
      exact RunE.retP (.r1 rfl (.tmp rfl)) (by simp only [hurtR, if_neg e1, if_pos c1'])
    · intro c1
      have c1' := c1; clear c1
      try simp only [decide_eq_true_eq, decide_eq_false_iff_not, Bool.not_eq_true', Bool.not_eq_false', Bool.and_eq_true, Bool.or_eq_true, Bool.and_eq_false_iff, Bool.or_eq_false_iff, Int.not_le, Int.not_lt] at c1'
      have e2 := Int.not_lt.2 c1'
      refine RunC.skip ?_
      refine RunE.next ?_
      refine RunC.seq ?_
      refine RunC.seq ?_
      refine RunC.draw 8 fol_ (.cons .here rfl (.cons .here rfl (.cons .here rfl (.cons .here rfl .nil)))) ?_
      refine RunA.val (i := 0) rfl (by kernel_rfl) (by kernel_rfl) (Val.fieldAddr rfl fld_23_1) rfl rfl rfl (fun _ _ _ h => h) (.cons .here rfl (.cons .here rfl (.cons .here rfl (.cons .here rfl .nil)))) rfl ?_
      refine RunA.val (i := 1) rfl (by kernel_rfl) (by kernel_rfl) (Val.load_one rfl (.head _) ty_3 rfl) rfl rfl rfl (fun _ _ _ h => h) (.cons .here rfl (.cons .here rfl (.cons .here rfl (.cons .here rfl .nil)))) rfl ?_
      refine RunA.val (i := 2) rfl (by kernel_rfl) (by kernel_rfl) (Val.load_agg rfl (.tail _ (.tail _ (.tail _ (.head _)))) ty_28 rfl) rfl rfl rfl (fun _ _ _ h => h) (.cons .here rfl (.cons .here rfl (.cons .here rfl (.cons .here rfl .nil)))) rfl ?_
      refine RunA.val (i := 3) rfl (by kernel_rfl) (by kernel_rfl) (Val.load_agg rfl (.tail _ (.tail _ (.head _))) ty_30 rfl) rfl rfl rfl (fun _ _ _ h => h) (.cons .here rfl (.cons .here rfl (.cons .here rfl (.cons .here rfl .nil)))) rfl ?_
      refine RunA.val (i := 5) rfl (by kernel_rfl) (by kernel_rfl) (Val.fieldAddr rfl fld_28_7) rfl rfl rfl (fun _ _ _ h => h) (.cons .here rfl (.cons .here rfl (.cons .here rfl (.cons .here rfl .nil)))) rfl ?_
      refine RunA.val (i := 6) rfl (by kernel_rfl) (by kernel_rfl) (Val.load_one rfl (.tail _ (.tail _ (.tail _ (.head _)))) ty_3 rfl) rfl rfl rfl (fun _ _ _ h => h) (.cons .here rfl (.cons .here rfl (.cons .here rfl (.cons .here rfl .nil)))) rfl ?_
      refine RunA.one (i := 4) (by kernel_rfl) (by kernel_rfl) ?_
      refine RunI.callP rfl (isCall_func rfl ent_66) rfl rfl rfl (fun w hm => zWindow_calls c hc t ht0 q cap w) (RunK.toA (.cons .here rfl (.cons .here rfl (.cons .here rfl (.cons .here rfl .nil)))) (.cons .here rfl (.cons .here rfl (.cons .here rfl (.cons .here rfl .nil)))) rfl ?_)
      refine RunA.val (i := 7) rfl (by kernel_rfl) (by kernel_rfl) (Val.add rfl rfl (IntWalk.i64_in _ ⟨by omega, by omega⟩)) rfl rfl rfl (fun _ _ _ h => h) (.cons .here rfl (.cons .here rfl (.cons .here rfl (.cons .here rfl .nil)))) rfl ?_
      refine RunA.toB (by kernel_rfl) ?_
      refine RunB.one (i := 8) (by kernel_rfl) ?_
      refine RunI.val rfl (Val.pure rfl) rfl rfl rfl (RunK.toB ?_)
      refine RunB.done (by kernel_rfl) ?_
      refine RunE.next ?_
      refine RunC.cond rfl ?_ ?_
      · intro c2
        have c2' := c2; clear c2
        try simp only [decide_eq_true_eq, decide_eq_false_iff_not, Bool.not_eq_true', Bool.not_eq_false', Bool.and_eq_true, Bool.or_eq_true, Bool.and_eq_false_iff, Bool.or_eq_false_iff, Int.not_le, Int.not_lt] at c2'
        refine RunC.seq ?_
        refine RunC.region ?_
        refine RunL.val (Val.pure rfl) rfl rfl rfl ?_
        refine RunL.nil ?_
        refine RunE.next ?_
        refine RunC.ret ?_
        refine RunE.pass_ret ?_
        exact RunE.retP (.r1 rfl (.tmp rfl)) (by simp only [hurtR, if_neg e1, if_neg e2, if_pos c2'])
      · intro c2
        have c2' := c2; clear c2
        try simp only [decide_eq_true_eq, decide_eq_false_iff_not, Bool.not_eq_true', Bool.not_eq_false', Bool.and_eq_true, Bool.or_eq_true, Bool.and_eq_false_iff, Bool.or_eq_false_iff, Int.not_le, Int.not_lt] at c2'
        have e3 := Int.not_lt.2 c2'
        refine RunC.skip ?_
        refine RunE.next ?_
        refine RunC.seq ?_
        refine RunC.seq ?_
        refine RunC.draw 8 fol_ (.cons .here rfl (.cons .here rfl (.cons .here rfl (.cons .here rfl .nil)))) ?_
        refine RunA.val (i := 0) rfl (by kernel_rfl) (by kernel_rfl) (Val.fieldAddr rfl fld_23_0) rfl rfl rfl (fun _ _ _ h => h) (.cons .here rfl (.cons .here rfl (.cons .here rfl (.cons .here rfl .nil)))) rfl ?_
        refine RunA.val (i := 1) rfl (by kernel_rfl) (by kernel_rfl) (Val.load_one rfl (.head _) ty_3 rfl) rfl rfl rfl (fun _ _ _ h => h) (.cons .here rfl (.cons .here rfl (.cons .here rfl (.cons .here rfl .nil)))) rfl ?_
        refine RunA.val (i := 2) rfl (by kernel_rfl) (by kernel_rfl) (Val.load_agg rfl (.tail _ (.tail _ (.tail _ (.head _)))) ty_28 rfl) rfl rfl rfl (fun _ _ _ h => h) (.cons .here rfl (.cons .here rfl (.cons .here rfl (.cons .here rfl .nil)))) rfl ?_
        refine RunA.val (i := 3) rfl (by kernel_rfl) (by kernel_rfl) (Val.load_agg rfl (.tail _ (.tail _ (.head _))) ty_30 rfl) rfl rfl rfl (fun _ _ _ h => h) (.cons .here rfl (.cons .here rfl (.cons .here rfl (.cons .here rfl .nil)))) rfl ?_
        refine RunA.val (i := 5) rfl (by kernel_rfl) (by kernel_rfl) (Val.fieldAddr rfl fld_28_8) rfl rfl rfl (fun _ _ _ h => h) (.cons .here rfl (.cons .here rfl (.cons .here rfl (.cons .here rfl .nil)))) rfl ?_
        refine RunA.val (i := 6) rfl (by kernel_rfl) (by kernel_rfl) (Val.load_one rfl (.tail _ (.tail _ (.tail _ (.head _)))) ty_3 rfl) rfl rfl rfl (fun _ _ _ h => h) (.cons .here rfl (.cons .here rfl (.cons .here rfl (.cons .here rfl .nil)))) rfl ?_
        refine RunA.one (i := 4) (by kernel_rfl) (by kernel_rfl) ?_
        refine RunI.callP rfl (isCall_func rfl ent_66) rfl rfl rfl (fun w hm => zWindow_calls c hc t ht0 q cap w) (RunK.toA (.cons .here rfl (.cons .here rfl (.cons .here rfl (.cons .here rfl .nil)))) (.cons .here rfl (.cons .here rfl (.cons .here rfl (.cons .here rfl .nil)))) rfl ?_)
        refine RunA.val (i := 7) rfl (by kernel_rfl) (by kernel_rfl) (Val.sub' rfl rfl (IntWalk.i64_in _ ⟨by omega, by omega⟩)) rfl rfl rfl (fun _ _ _ h => h) (.cons .here rfl (.cons .here rfl (.cons .here rfl (.cons .here rfl .nil)))) rfl ?_
        refine RunA.toB (by kernel_rfl) ?_
        refine RunB.one (i := 8) (by kernel_rfl) ?_
        refine RunI.val rfl (Val.pure rfl) rfl rfl rfl (RunK.toB ?_)
        refine RunB.done (by kernel_rfl) ?_
        refine RunE.next ?_
        refine RunC.cond rfl ?_ ?_
        · intro c3
          have c3' := c3; clear c3
          try simp only [decide_eq_true_eq, decide_eq_false_iff_not, Bool.not_eq_true', Bool.not_eq_false', Bool.and_eq_true, Bool.or_eq_true, Bool.and_eq_false_iff, Bool.or_eq_false_iff, Int.not_le, Int.not_lt] at c3'
          refine RunC.seq ?_
          refine RunC.region ?_
          refine RunL.val (Val.pure rfl) rfl rfl rfl ?_
          refine RunL.nil ?_
          refine RunE.next ?_
          refine RunC.ret ?_
          refine RunE.pass_ret ?_
          exact RunE.retP (.r1 rfl (.tmp rfl)) (by simp only [hurtR, if_neg e1, if_neg e2, if_neg e3, if_pos c3'])
        · intro c3
          have c3' := c3; clear c3
          try simp only [decide_eq_true_eq, decide_eq_false_iff_not, Bool.not_eq_true', Bool.not_eq_false', Bool.and_eq_true, Bool.or_eq_true, Bool.and_eq_false_iff, Bool.or_eq_false_iff, Int.not_le, Int.not_lt] at c3'
          have e4 := Int.not_lt.2 c3'
          refine RunC.skip ?_
          refine RunE.next ?_
          refine RunC.seq ?_
          refine RunC.region ?_
          refine RunL.val (Val.fieldAddr rfl fld_28_1) rfl rfl rfl ?_
          refine RunL.val (Val.load_one rfl (.tail _ (.tail _ (.tail _ (.head _)))) ty_3 rfl) rfl rfl rfl ?_
          refine RunL.val (Val.neg rfl (IntWalk.i64_in _ ⟨by omega, by omega⟩)) rfl rfl rfl ?_
          refine RunL.val (Val.fieldAddr rfl fld_28_2) rfl rfl rfl ?_
          refine RunL.val (Val.load_one rfl (.tail _ (.tail _ (.tail _ (.head _)))) ty_3 rfl) rfl rfl rfl ?_
          refine RunL.val (Val.fieldAddr rfl fld_30_0) rfl rfl rfl ?_
          refine RunL.val (Val.load_one rfl (.tail _ (.tail _ (.head _))) ty_3 rfl) rfl rfl rfl ?_
          refine RunL.val (Val.mul rfl rfl (IntWalk.i64_in _ ⟨by omega, by omega⟩)) rfl rfl rfl ?_
          refine RunL.val (Val.add rfl rfl (IntWalk.i64_in _ ⟨by omega, by omega⟩)) rfl rfl rfl ?_
          refine RunL.val (Val.fieldAddr rfl fld_76_0) rfl rfl rfl ?_
          refine RunL.val (Val.fieldAddr rfl fld_74_0) rfl rfl rfl ?_
          refine RunL.val (Val.fieldAddr rfl fld_23_0) rfl rfl rfl ?_
          refine RunL.val (Val.load_one rfl (.tail _ (.head _)) ty_3 rfl) rfl rfl rfl ?_
          refine RunL.val (Val.pure rfl) rfl rfl rfl ?_
          refine RunL.val (Val.pure rfl) rfl rfl rfl ?_
          refine RunL.andPart (dj := 68) (dp := 82) 14 rfl (fun g68 => by
            have g68' := g68
            try simp only [decide_eq_true_eq, decide_eq_false_iff_not, Bool.not_eq_true', Bool.not_eq_false', Bool.and_eq_true, Bool.or_eq_true, Bool.and_eq_false_iff, Bool.or_eq_false_iff, Int.not_le, Int.not_lt] at g68'
            refine RunL.val (Val.fieldAddr rfl fld_76_0) rfl rfl rfl ?_
            refine RunL.val (Val.fieldAddr rfl fld_74_0) rfl rfl rfl ?_
            refine RunL.val (Val.fieldAddr rfl fld_23_1) rfl rfl rfl ?_
            refine RunL.val (Val.load_one rfl (.tail _ (.head _)) ty_3 rfl) rfl rfl rfl ?_
            refine RunL.val (Val.fieldAddr rfl fld_28_1) rfl rfl rfl ?_
            refine RunL.val (Val.load_one rfl (.tail _ (.tail _ (.tail _ (.head _)))) ty_3 rfl) rfl rfl rfl ?_
            refine RunL.val (Val.fieldAddr rfl fld_28_2) rfl rfl rfl ?_
            refine RunL.val (Val.load_one rfl (.tail _ (.tail _ (.tail _ (.head _)))) ty_3 rfl) rfl rfl rfl ?_
            refine RunL.val (Val.fieldAddr rfl fld_30_1) rfl rfl rfl ?_
            refine RunL.val (Val.load_one rfl (.tail _ (.tail _ (.head _))) ty_3 rfl) rfl rfl rfl ?_
            refine RunL.val (Val.mul rfl rfl (IntWalk.i64_in _ ⟨by omega, by omega⟩)) rfl rfl rfl ?_
            refine RunL.val (Val.sub' rfl rfl (IntWalk.i64_in _ ⟨by omega, by omega⟩)) rfl rfl rfl ?_
            refine RunL.val (Val.pure rfl) rfl rfl rfl ?_
            refine RunL.val (Val.pure rfl) rfl rfl rfl ?_
            exact RunL.segEnd (Sub.cons rfl (Sub.skip rfl (Sub.skip rfl (Sub.skip rfl (Sub.skip rfl (Sub.skip rfl (Sub.skip rfl (Sub.skip rfl (Sub.skip rfl (Sub.skip rfl (Sub.skip rfl (Sub.skip rfl (Sub.skip rfl (Sub.skip rfl (Sub.skip rfl (Sub.same rfl (by rw [g68]) (Sub.refl _))))))))))))))))) (List.Sublist.refl _)
          ) (fun g68 => by
            have g68' := g68
            try simp only [decide_eq_true_eq, decide_eq_false_iff_not, Bool.not_eq_true', Bool.not_eq_false', Bool.and_eq_true, Bool.or_eq_true, Bool.and_eq_false_iff, Bool.or_eq_false_iff, Int.not_le, Int.not_lt] at g68'
            iterate 13 refine RunL.no rfl rfl rfl ?_
            refine RunL.val (Val.pure rfl) rfl rfl rfl ?_
            exact RunL.segEnd (Sub.cons rfl (Sub.skip rfl (Sub.skip rfl (Sub.skip rfl (Sub.skip rfl (Sub.skip rfl (Sub.skip rfl (Sub.skip rfl (Sub.skip rfl (Sub.skip rfl (Sub.skip rfl (Sub.skip rfl (Sub.skip rfl (Sub.skip rfl (Sub.skip rfl (Sub.same rfl (by rw [g68]) (Sub.refl _))))))))))))))))) (List.Sublist.refl _)
          ) ?_
          refine RunL.val (Val.pure rfl) rfl rfl rfl ?_
          refine RunL.nil ?_
          refine RunE.next ?_
          refine RunC.seq ?_
          refine RunC.region ?_
          refine RunL.val (Val.fieldAddr rfl fld_28_1) rfl rfl rfl ?_
          refine RunL.val (Val.load_one rfl (.tail _ (.tail _ (.tail _ (.head _)))) ty_3 rfl) rfl rfl rfl ?_
          refine RunL.val (Val.neg rfl (IntWalk.i64_in _ ⟨by omega, by omega⟩)) rfl rfl rfl ?_
          refine RunL.val (Val.fieldAddr rfl fld_28_2) rfl rfl rfl ?_
          refine RunL.val (Val.load_one rfl (.tail _ (.tail _ (.tail _ (.head _)))) ty_3 rfl) rfl rfl rfl ?_
          refine RunL.val (Val.fieldAddr rfl fld_30_2) rfl rfl rfl ?_
          refine RunL.val (Val.load_one rfl (.tail _ (.tail _ (.head _))) ty_3 rfl) rfl rfl rfl ?_
          refine RunL.val (Val.mul rfl rfl (IntWalk.i64_in _ ⟨by omega, by omega⟩)) rfl rfl rfl ?_
          refine RunL.val (Val.add rfl rfl (IntWalk.i64_in _ ⟨by omega, by omega⟩)) rfl rfl rfl ?_
          refine RunL.val (Val.fieldAddr rfl fld_76_1) rfl rfl rfl ?_
          refine RunL.val (Val.fieldAddr rfl fld_74_0) rfl rfl rfl ?_
          refine RunL.val (Val.fieldAddr rfl fld_23_0) rfl rfl rfl ?_
          refine RunL.val (Val.load_one rfl (.tail _ (.head _)) ty_3 rfl) rfl rfl rfl ?_
          refine RunL.val (Val.pure rfl) rfl rfl rfl ?_
          refine RunL.val (Val.pure rfl) rfl rfl rfl ?_
          refine RunL.andPart (dj := 97) (dp := 111) 14 rfl (fun g97 => by
            have g97' := g97
            try simp only [decide_eq_true_eq, decide_eq_false_iff_not, Bool.not_eq_true', Bool.not_eq_false', Bool.and_eq_true, Bool.or_eq_true, Bool.and_eq_false_iff, Bool.or_eq_false_iff, Int.not_le, Int.not_lt] at g97'
            refine RunL.val (Val.fieldAddr rfl fld_76_1) rfl rfl rfl ?_
            refine RunL.val (Val.fieldAddr rfl fld_74_0) rfl rfl rfl ?_
            refine RunL.val (Val.fieldAddr rfl fld_23_1) rfl rfl rfl ?_
            refine RunL.val (Val.load_one rfl (.tail _ (.head _)) ty_3 rfl) rfl rfl rfl ?_
            refine RunL.val (Val.fieldAddr rfl fld_28_1) rfl rfl rfl ?_
            refine RunL.val (Val.load_one rfl (.tail _ (.tail _ (.tail _ (.head _)))) ty_3 rfl) rfl rfl rfl ?_
            refine RunL.val (Val.fieldAddr rfl fld_28_2) rfl rfl rfl ?_
            refine RunL.val (Val.load_one rfl (.tail _ (.tail _ (.tail _ (.head _)))) ty_3 rfl) rfl rfl rfl ?_
            refine RunL.val (Val.fieldAddr rfl fld_30_3) rfl rfl rfl ?_
            refine RunL.val (Val.load_one rfl (.tail _ (.tail _ (.head _))) ty_3 rfl) rfl rfl rfl ?_
            refine RunL.val (Val.mul rfl rfl (IntWalk.i64_in _ ⟨by omega, by omega⟩)) rfl rfl rfl ?_
            refine RunL.val (Val.sub' rfl rfl (IntWalk.i64_in _ ⟨by omega, by omega⟩)) rfl rfl rfl ?_
            refine RunL.val (Val.pure rfl) rfl rfl rfl ?_
            refine RunL.val (Val.pure rfl) rfl rfl rfl ?_
            exact RunL.segEnd (Sub.cons rfl (Sub.skip rfl (Sub.skip rfl (Sub.skip rfl (Sub.skip rfl (Sub.skip rfl (Sub.skip rfl (Sub.skip rfl (Sub.skip rfl (Sub.skip rfl (Sub.skip rfl (Sub.skip rfl (Sub.skip rfl (Sub.skip rfl (Sub.skip rfl (Sub.same rfl (by rw [g97]) (Sub.refl _))))))))))))))))) (List.Sublist.refl _)
          ) (fun g97 => by
            have g97' := g97
            try simp only [decide_eq_true_eq, decide_eq_false_iff_not, Bool.not_eq_true', Bool.not_eq_false', Bool.and_eq_true, Bool.or_eq_true, Bool.and_eq_false_iff, Bool.or_eq_false_iff, Int.not_le, Int.not_lt] at g97'
            iterate 13 refine RunL.no rfl rfl rfl ?_
            refine RunL.val (Val.pure rfl) rfl rfl rfl ?_
            exact RunL.segEnd (Sub.cons rfl (Sub.skip rfl (Sub.skip rfl (Sub.skip rfl (Sub.skip rfl (Sub.skip rfl (Sub.skip rfl (Sub.skip rfl (Sub.skip rfl (Sub.skip rfl (Sub.skip rfl (Sub.skip rfl (Sub.skip rfl (Sub.skip rfl (Sub.skip rfl (Sub.same rfl (by rw [g97]) (Sub.refl _))))))))))))))))) (List.Sublist.refl _)
          ) ?_
          refine RunL.val (Val.pure rfl) rfl rfl rfl ?_
          refine RunL.nil ?_
          refine RunE.next ?_
          refine RunC.seq ?_
          refine RunC.seq ?_
          refine RunC.region ?_
          iterate 3 refine RunL.val (Val.pure rfl) rfl rfl rfl ?_
          refine RunL.orPart (dj := 114) (dp := 117) 3 rfl (fun g114 => by
            have g114' := g114
            try simp only [decide_eq_true_eq, decide_eq_false_iff_not, Bool.not_eq_true', Bool.not_eq_false', Bool.and_eq_true, Bool.or_eq_true, Bool.and_eq_false_iff, Bool.or_eq_false_iff, Int.not_le, Int.not_lt] at g114'
            iterate 3 refine RunL.val (Val.pure rfl) rfl rfl rfl ?_
            exact RunL.segEnd (Sub.cons rfl (Sub.skip rfl (Sub.skip rfl (Sub.skip rfl (Sub.same rfl (by rw [g114]) (Sub.refl _)))))) (List.Sublist.refl _)
          ) (fun g114 => by
            have g114' := g114
            try simp only [decide_eq_true_eq, decide_eq_false_iff_not, Bool.not_eq_true', Bool.not_eq_false', Bool.and_eq_true, Bool.or_eq_true, Bool.and_eq_false_iff, Bool.or_eq_false_iff, Int.not_le, Int.not_lt] at g114'
            refine RunL.no rfl rfl rfl ?_
            refine RunL.no rfl rfl rfl ?_
            refine RunL.val (Val.pure rfl) rfl rfl rfl ?_
            exact RunL.segEnd (Sub.cons rfl (Sub.skip rfl (Sub.skip rfl (Sub.skip rfl (Sub.same rfl (by rw [g114]) (Sub.refl _)))))) (List.Sublist.refl _)
          ) ?_
          refine RunL.nil ?_
          refine RunE.next ?_
          refine RunC.cond rfl ?_ ?_
          · intro c4
            have c4' := c4; clear c4
            try simp only [decide_eq_true_eq, decide_eq_false_iff_not, Bool.not_eq_true', Bool.not_eq_false', Bool.and_eq_true, Bool.or_eq_true, Bool.and_eq_false_iff, Bool.or_eq_false_iff, Int.not_le, Int.not_lt] at c4'
            have e5 : offM c t x = true := by
              simp only [offM, Bool.or_eq_true, decide_eq_true_eq]
              omega
            refine RunC.seq ?_
            refine RunC.region ?_
            refine RunL.val (Val.pure rfl) rfl rfl rfl ?_
            refine RunL.nil ?_
            refine RunE.next ?_
            refine RunC.ret ?_
            refine RunE.pass_ret ?_
            exact RunE.retP (.r1 rfl (.tmp rfl)) (by simp only [hurtR, if_neg e1, if_neg e2, if_neg e3, if_neg e4, if_pos e5])
          · intro c4
            have c4' := c4; clear c4
            try simp only [decide_eq_true_eq, decide_eq_false_iff_not, Bool.not_eq_true', Bool.not_eq_false', Bool.and_eq_true, Bool.or_eq_true, Bool.and_eq_false_iff, Bool.or_eq_false_iff, Int.not_le, Int.not_lt] at c4'
            have e5 : offM c t x = false := by
              rw [Bool.eq_false_iff]
              simp only [offM, ne_eq, Bool.or_eq_true, decide_eq_true_eq]
              omega
            refine RunC.skip ?_
            refine RunE.next ?_
            refine RunC.seq ?_
            refine RunC.region ?_
            refine RunL.val (Val.pure rfl) rfl rfl rfl ?_
            refine RunL.nil ?_
            refine RunE.next ?_
            refine RunC.ret ?_
            exact RunE.retP (.r1 rfl (.tmp rfl)) (by simp [hurtR, e1, e2, e3, e4, e5])
def optV (o : Option (Int × Int)) : Value := .tuple #[.int .i64 (o.getD (0, 0)).1, .int .i64 (o.getD (0, 0)).2, .bool o.isSome]
theorem zhurts_calls (c : Cd) (hc : c.Ok) (hpk : c.p.Ok) (t : Tr) (ht : t.Ok c.cuts) (l : List Int) (hin : ∀ i ∈ l, ∃ j : Nat, i = j ∧ j < c.p.things.length) (hll : l.length ≤ 1000) (q : Option Addr) (b o cap : Nat) (q2 : Option Addr) (b2 cap2 : Nat) (W : World) (hS : Sl W q b o 9 (c.p.things.map Th.cells)) (hL : Sl W q2 b2 0 1 (l.map fun n => [Value.int .i64 n])) :
    Calls Tryz.prog 31 #[c.v q cap, t.v, .slice q2 l.length cap2] W (Pure (optV (hurtRF c t l)) W) := by
  have hl := hpk.len
  refine calls_start Tryz.func31 rfl rfl ?_
  refine RunC.seq ?_
  refine RunC.region ?_
  refine RunL.new (New.box rfl) rfl rfl rfl (fun b3 => ?_)
  refine RunL.new (New.box rfl) rfl rfl rfl (fun b4 => ?_)
  iterate 3 refine RunL.val (Val.pure rfl) rfl rfl rfl ?_
  refine RunL.nil ?_
  refine RunE.next ?_
  refine RunC.seq ?_
  refine RunC.seq ?_
  refine RunC.region ?_
  refine RunL.val (Val.pure rfl) rfl rfl rfl ?_
  refine RunL.nil ?_
  refine RunE.next ?_
  refine RunC.block ?_
  refine RunC.loopK (l.length) (fun k q => (9, .int .i64 (k : Int)) :: q) (fun _ => _) (fun _ => []) (fun k => ∀ j (h : j < k) (h2 : j < l.length), hurtR c t (thingAt c.p l[j]) = 0) (fun j h => absurd h (by omega)) rfl (Sub.consE (t := 9) rfl rfl (Sub.cons (t := 2) rfl (Sub.cons (t := 3) rfl (Sub.cons (t := 4) rfl (Sub.nil _))))) (.cons (.there .here) rfl (.cons .here rfl .nil)) ?_
  intro k kN kI
  refine RunC.seq ?_
  refine RunC.seq ?_
  refine RunC.region ?_
  refine RunL.val (Val.pure rfl) rfl rfl rfl ?_
  refine RunL.val (Val.pure rfl) rfl rfl rfl ?_
  refine RunL.val (Val.len_sl rfl sl_55) rfl rfl rfl ?_
  refine RunL.val (Val.pure rfl) rfl rfl rfl ?_
  refine RunL.nil ?_
  refine RunE.next ?_
  refine RunC.cond rfl ?_ ?_
  · intro c0
    have c0' := c0; clear c0
    try simp only [decide_eq_true_eq, decide_eq_false_iff_not, Bool.not_eq_true', Bool.not_eq_false', Bool.and_eq_true, Bool.or_eq_true, Bool.and_eq_false_iff, Bool.or_eq_false_iff, Int.not_le, Int.not_lt] at c0'
    have hk : k < l.length := by omega
    obtain ⟨j, hi, hj⟩ := hin _ (List.getElem_mem hk)
    obtain ⟨y, hy⟩ : ∃ y, c.p.things[j] = y := ⟨_, rfl⟩
    have hyo := (hpk.ths y (hy ▸ List.getElem_mem hj)).1
    refine RunC.skip ?_
    refine RunE.next ?_
    refine RunC.seq ?_
    refine RunC.block ?_
    refine RunC.seq ?_
    refine RunC.draw 11 fol_ (.cons .here rfl (.cons .here rfl .nil)) ?_
    refine RunA.val (i := 0) rfl (by kernel_rfl) (by kernel_rfl) (Val.load_agg rfl (.head _) ty_28 rfl) rfl rfl rfl (fun _ _ _ h => h) (.cons .here rfl (.cons .here rfl .nil)) rfl ?_
    refine RunA.val (i := 1) rfl (by kernel_rfl) (by kernel_rfl) (Val.load_agg rfl (.tail _ (.head _)) ty_30 rfl) rfl rfl rfl (fun _ _ _ h => h) (.cons .here rfl (.cons .here rfl .nil)) rfl ?_
    refine RunA.val (i := 2) rfl (by kernel_rfl) (by kernel_rfl) (Val.fieldAddr rfl fld_28_0) rfl rfl rfl (fun _ _ _ h => h) (.cons .here rfl (.cons .here rfl .nil)) rfl ?_
    refine RunA.val (i := 3) rfl (by kernel_rfl) (by kernel_rfl) (Val.fieldAddr rfl fld_26_5) rfl rfl rfl (fun _ _ _ h => h) (.cons .here rfl (.cons .here rfl .nil)) rfl ?_
    refine RunA.val (i := 4) rfl (by kernel_rfl) (by kernel_rfl) (Val.load_one rfl (.head _) ty_24 rfl) rfl rfl rfl (fun _ _ _ h => h) (.cons .here rfl (.cons .here rfl .nil)) rfl ?_
    refine RunA.val (i := 5) rfl (by kernel_rfl) (by kernel_rfl) (Val.pure rfl) rfl rfl rfl (fun _ _ _ h => h) (.cons .here rfl (.cons .here rfl .nil)) rfl ?_
    refine RunA.val (i := 6) rfl (by kernel_rfl) (by kernel_rfl) (Val.pure rfl) rfl rfl rfl (fun _ _ _ h => h) (.cons .here rfl (.cons .here rfl .nil)) rfl ?_
    refine RunA.val (i := 7) rfl (by kernel_rfl) (by kernel_rfl) (Val.indexAddr_slp rfl rfl sl_55 (by omega) (by omega) (hL.ptrM hk)) rfl rfl rfl (fun _ _ _ h => h) (.cons .here rfl (.cons .here rfl .nil)) rfl ?_
    refine RunA.val (i := 8) rfl (by kernel_rfl) (by kernel_rfl) (Val.load_gen rfl (fun w hm => hL.loadM1 (by decide) hm (by simp) ty_3 hk (v := .int .i64 (j : Int)) (by simp [hi]))) rfl rfl rfl (fun _ _ _ h => h) (.cons .here rfl (.cons .here rfl .nil)) rfl ?_
    refine RunA.val (i := 9) rfl (by kernel_rfl) (by kernel_rfl) (Val.indexAddr_slp rfl rfl sl_24 (by omega) (by omega) (hS.ptrM hj)) rfl rfl rfl (fun _ _ _ h => h) (.cons .here rfl (.cons .here rfl .nil)) rfl ?_
    refine RunA.val (i := 10) rfl (by kernel_rfl) (by kernel_rfl) (Val.load_gen rfl (fun w hm => hS.loadX (by decide) hm (by simp) ty_76 hj hy)) rfl rfl rfl (fun _ _ _ h => h) (.cons .here rfl (.cons .here rfl .nil)) rfl ?_
    refine RunA.toB (by kernel_rfl) ?_
    refine RunB.one (i := 11) (by kernel_rfl) ?_
    refine RunI.callP rfl (isCall_func rfl ent_64) rfl rfl rfl (fun w hm => zHurt_calls c hc t ht y hyo q cap w) (RunK.toB ?_)
    refine RunB.one (i := 12) (by kernel_rfl) ?_
    refine RunI.val rfl (Val.pure rfl) rfl rfl rfl (RunK.toB ?_)
    refine RunB.done (by kernel_rfl) ?_
    refine RunE.next ?_
    refine RunC.seq ?_
    refine RunC.region ?_
    refine RunL.val (Val.pure rfl) rfl rfl rfl ?_
    refine RunL.val (Val.pure rfl) rfl rfl rfl ?_
    refine RunL.nil ?_
    refine RunE.next ?_
    refine RunC.cond rfl ?_ ?_
    · intro c1
      have c1' := c1; clear c1
      try simp only [decide_eq_true_eq, decide_eq_false_iff_not, Bool.not_eq_true', Bool.not_eq_false', Bool.and_eq_true, Bool.or_eq_true, Bool.and_eq_false_iff, Bool.or_eq_false_iff, Int.not_le, Int.not_lt] at c1'
      refine RunC.seq ?_
      refine RunC.region ?_
      refine RunL.val (Val.pure rfl) rfl rfl rfl ?_
      refine RunL.val (Val.pure rfl) rfl rfl rfl ?_
      refine RunL.val (Val.indexAddr_slp rfl rfl sl_55 (by omega) (by omega) (hL.ptrM hk)) rfl rfl rfl ?_
      refine RunL.val (Val.load_gen rfl (fun w hm => hL.loadM1 (by decide) hm (by simp) ty_3 hk (v := .int .i64 (j : Int)) (by simp [hi]))) rfl rfl rfl ?_
      iterate 4 refine RunL.val (Val.pure rfl) rfl rfl rfl ?_
      refine RunL.nil ?_
      refine RunE.next ?_
      refine RunC.ret ?_
      refine RunE.block_ret ?_
      refine RunE.pass_ret ?_
      refine RunE.pass_ret ?_
      refine RunE.block_ret ?_
      refine RunE.pass_ret ?_
      exact RunE.retP (.r3 rfl (.tmp rfl) (.tmp rfl) (.tmp rfl)) (by have e := hurtRF_hit (c := c) (t := t) hk (fun j2 h2 => kI j2 h2 (by omega)) (by rw [hi, thingAt_eq hj hy]; exact c1'); rw [e, hi, thingAt_eq hj hy]; rfl)
    · intro c1
      have c1' := c1; clear c1
      try simp only [decide_eq_true_eq, decide_eq_false_iff_not, Bool.not_eq_true', Bool.not_eq_false', Bool.and_eq_true, Bool.or_eq_true, Bool.and_eq_false_iff, Bool.or_eq_false_iff, Int.not_le, Int.not_lt] at c1'
      refine RunC.skip ?_
      refine RunE.block_normal ?_
      refine RunE.next ?_
      refine RunC.region ?_
      refine RunL.val (Val.pure rfl) rfl rfl rfl ?_
      refine RunL.val (Val.add rfl rfl (IntWalk.i64_in _ ⟨by omega, by omega⟩)) rfl rfl rfl ?_
      refine RunL.val (Val.pure rfl) rfl rfl rfl ?_
      refine RunL.nil ?_
      exact RunE.round (by omega) (fun j2 h2 h3 => by (rcases Nat.lt_or_ge j2 k with h4 | h4; exact kI j2 h4 h3; have e : j2 = k := (by omega); subst e; rw [hi, thingAt_eq hj hy]; exact c1')) rfl (Sub.consE (t := 9) rfl rfl (Sub.cons (t := 2) rfl (Sub.cons (t := 3) rfl (Sub.cons (t := 4) rfl (Sub.nil _))))) (.cons .here rfl (.cons .here rfl .nil))
  · intro c0
    have c0' := c0; clear c0
    try simp only [decide_eq_true_eq, decide_eq_false_iff_not, Bool.not_eq_true', Bool.not_eq_false', Bool.and_eq_true, Bool.or_eq_true, Bool.and_eq_false_iff, Bool.or_eq_false_iff, Int.not_le, Int.not_lt] at c0'
    obtain rfl : k = l.length := by omega
    refine RunC.exit ?_
    refine RunE.pass_exit ?_
    refine RunE.pass_exit ?_
    refine RunE.block_here ?_
    refine RunE.next ?_
    refine RunC.seq ?_
    refine RunC.region ?_
    iterate 3 refine RunL.val (Val.pure rfl) rfl rfl rfl ?_
    refine RunL.nil ?_
    refine RunE.next ?_
    refine RunC.ret ?_
    exact RunE.retP (.r3 rfl (.tmp rfl) (.tmp rfl) (.tmp rfl)) (by have e : hurtRF c t l = none := hurtRF_all (fun i hi => by (obtain ⟨j, hj, rfl⟩ := List.getElem_of_mem hi; exact kI j hj hj)); rw [e]; rfl)
theorem seenN_all (p : Pr) : ∀ i ∈ seenN p, ∃ j : Nat, i = j ∧ j < p.things.length := fun i hi => by
  obtain ⟨j, h1, h2, _⟩ := seenN_in hi
  exact ⟨j, h1, h2⟩
theorem zHurts_calls (c : Cd) (t : Tr) (q : Option Addr) (b o cap : Nat) (W : World) (hS : Sl W q b o 9 (c.p.things.map Th.cells)) (hl : c.p.things.length ≤ 100000000000) :
    Calls Tryz.prog 9 #[c.v q cap, t.v] W (Pure (.tuple #[.int .i64 (hurtsR c t).1, .int .i64 (hurtsR c t).2.1, .int .i64 (hurtsR c t).2.2]) W) := by
  by_cases h0 : checkR c (trR c t) = 0
  · obtain ⟨hp, _, hc, htr⟩ := check_pair h0
    have hpk := isPair_ok hp
    have ht := (trIs_ok (trR_eq c t ▸ htr)).1
    have hsl := seenN_len c.p
    have hl12 := hpk.len
    rcases Nat.eq_zero_or_pos (seenN c.p).length with hn | hn
    · have hn2 := List.length_eq_zero_iff.1 hn
      refine calls_start Tryz.func9 rfl rfl ?_
      refine RunC.seq ?_
      refine RunC.region ?_
      refine RunL.new (New.box rfl) rfl rfl rfl (fun b2 => ?_)
      refine RunL.new (New.box rfl) rfl rfl rfl (fun b3 => ?_)
      iterate 3 refine RunL.val (Val.pure rfl) rfl rfl rfl ?_
      refine RunL.nil ?_
      refine RunE.next ?_
      refine RunC.seq ?_
      refine RunC.draw 4 fol_ (.cons .here rfl (.cons .here rfl .nil)) ?_
      refine RunA.val (i := 0) rfl (by kernel_rfl) (by kernel_rfl) (Val.load_agg rfl (.tail _ (.head _)) ty_28 rfl) rfl rfl rfl (fun _ _ _ h => h) (.cons .here rfl (.cons .here rfl .nil)) rfl ?_
      refine RunA.val (i := 1) rfl (by kernel_rfl) (by kernel_rfl) (Val.load_agg rfl (.tail _ (.head _)) ty_28 rfl) rfl rfl rfl (fun _ _ _ h => h) (.cons .here rfl (.cons .here rfl .nil)) rfl ?_
      refine RunA.val (i := 2) rfl (by kernel_rfl) (by kernel_rfl) (Val.load_agg rfl (.head _) ty_30 rfl) rfl rfl rfl (fun _ _ _ h => h) (.cons .here rfl (.cons .here rfl .nil)) rfl ?_
      refine RunA.one (i := 3) (by kernel_rfl) (by kernel_rfl) ?_
      refine RunI.callP rfl (isCall_func rfl ent_30) rfl rfl rfl (fun w hm => zTrim_calls c t q cap w) (RunK.toA (.cons .here rfl (.cons .here rfl .nil)) (.cons .here rfl (.cons .here rfl .nil)) rfl ?_)
      refine RunA.toB (by kernel_rfl) ?_
      refine RunB.one (i := 4) (by kernel_rfl) ?_
      refine RunI.callP rfl (isCall_func rfl ent_25) rfl rfl rfl (fun w hm => (by have h9 := zcheck_calls c (trW c t) q b o cap w (hS.mono (by decide) hm (by simp)) hl; rw [check_W, h0] at h9; exact h9)) (RunK.toB ?_)
      refine RunB.one (i := 5) (by kernel_rfl) ?_
      refine RunI.val rfl (Val.pure rfl) rfl rfl rfl (RunK.toB ?_)
      refine RunB.done (by kernel_rfl) ?_
      refine RunE.next ?_
      refine RunC.seq ?_
      refine RunC.seq ?_
      refine RunC.region ?_
      refine RunL.val (Val.pure rfl) rfl rfl rfl ?_
      refine RunL.val (Val.pure rfl) rfl rfl rfl ?_
      refine RunL.nil ?_
      refine RunE.next ?_
      refine RunC.cond rfl (fun h => absurd h (by simp)) ?_
      intro c0
      clear c0
      refine RunC.skip ?_
      refine RunE.next ?_
      refine RunC.seq ?_
      refine RunC.draw 11 fol_ (.cons .here rfl (.cons .here rfl .nil)) ?_
      refine RunA.val (i := 0) rfl (by kernel_rfl) (by kernel_rfl) (Val.load_agg rfl (.tail _ (.head _)) ty_28 rfl) rfl rfl rfl (fun _ _ _ h => h) (.cons .here rfl (.cons .here rfl .nil)) rfl ?_
      refine RunA.val (i := 1) rfl (by kernel_rfl) (by kernel_rfl) (Val.load_agg rfl (.head _) ty_30 rfl) rfl rfl rfl (fun _ _ _ h => h) (.cons .here rfl (.cons .here rfl .nil)) rfl ?_
      refine RunA.val (i := 2) rfl (by kernel_rfl) (by kernel_rfl) (Val.load_agg rfl (.tail _ (.head _)) ty_28 rfl) rfl rfl rfl (fun _ _ _ h => h) (.cons .here rfl (.cons .here rfl .nil)) rfl ?_
      refine RunA.one (i := 3) (by kernel_rfl) (by kernel_rfl) ?_
      refine RunI.callP rfl (isCall_func rfl ent_26) rfl rfl rfl (fun w hm => zempty c hn2 hpk q b o cap w (hS.mono (by decide) hm (by simp))) (RunK.toA (.cons .here rfl (.cons .here rfl .nil)) (.cons .here rfl (.cons .here rfl .nil)) rfl ?_)
      refine RunA.one (i := 4) (by kernel_rfl) (by kernel_rfl) ?_
      refine RunI.callP rfl (isCall_func rfl ent_31) rfl rfl rfl (fun w hm => zhurts_calls c hc hpk t ht [] (by simp) (by simp) q b o cap none 0 0 w (hS.mono (by decide) hm (by simp)) Sl.emp) (RunK.toA (.cons .here rfl (.cons .here rfl .nil)) (.cons .here rfl (.cons .here rfl .nil)) rfl ?_)
      refine RunA.val (i := 5) rfl (by kernel_rfl) (by kernel_rfl) (Val.pure rfl) rfl rfl rfl (fun _ _ _ h => h) (.cons .here rfl (.cons .here rfl .nil)) rfl ?_
      refine RunA.val (i := 6) rfl (by kernel_rfl) (by kernel_rfl) (Val.pure rfl) rfl rfl rfl (fun _ _ _ h => h) (.cons .here rfl (.cons .here rfl .nil)) rfl ?_
      refine RunA.val (i := 7) rfl (by kernel_rfl) (by kernel_rfl) (Val.pure rfl) rfl rfl rfl (fun _ _ _ h => h) (.cons .here rfl (.cons .here rfl .nil)) rfl ?_
      refine RunA.val (i := 8) rfl (by kernel_rfl) (by kernel_rfl) (Val.pure rfl) rfl rfl rfl (fun _ _ _ h => h) (.cons .here rfl (.cons .here rfl .nil)) rfl ?_
      refine RunA.val (i := 9) rfl (by kernel_rfl) (by kernel_rfl) (Val.pure rfl) rfl rfl rfl (fun _ _ _ h => h) (.cons .here rfl (.cons .here rfl .nil)) rfl ?_
      refine RunA.val (i := 10) rfl (by kernel_rfl) (by kernel_rfl) (Val.pure rfl) rfl rfl rfl (fun _ _ _ h => h) (.cons .here rfl (.cons .here rfl .nil)) rfl ?_
      refine RunA.toB (by kernel_rfl) ?_
      refine RunB.one (i := 11) (by kernel_rfl) ?_
      refine RunI.val rfl (Val.pure rfl) rfl rfl rfl (RunK.toB ?_)
      refine RunB.done (by kernel_rfl) ?_
      refine RunE.next ?_
      refine RunC.seq ?_
      refine RunC.seq ?_
      refine RunC.region ?_
      refine RunL.val (Val.pure rfl) rfl rfl rfl ?_
      refine RunL.nil ?_
      refine RunE.next ?_
      refine RunC.cond rfl (fun h => absurd h (by simp [hurtRF])) ?_
      intro c1
      clear c1
      refine RunC.skip ?_
      refine RunE.next ?_
      refine RunC.seq ?_
      refine RunC.region ?_
      iterate 3 refine RunL.val (Val.pure rfl) rfl rfl rfl ?_
      refine RunL.nil ?_
      refine RunE.next ?_
      refine RunC.ret ?_
      exact RunE.retP (.r3 rfl (.tmp rfl) (.tmp rfl) (.tmp rfl)) (by simp [hurtsR, h0, hn2, hurtRF])
    · refine calls_start Tryz.func9 rfl rfl ?_
      refine RunC.seq ?_
      refine RunC.region ?_
      refine RunL.new (New.box rfl) rfl rfl rfl (fun b2 => ?_)
      refine RunL.new (New.box rfl) rfl rfl rfl (fun b3 => ?_)
      iterate 3 refine RunL.val (Val.pure rfl) rfl rfl rfl ?_
      refine RunL.nil ?_
      refine RunE.next ?_
      refine RunC.seq ?_
      refine RunC.draw 4 fol_ (.cons .here rfl (.cons .here rfl .nil)) ?_
      refine RunA.val (i := 0) rfl (by kernel_rfl) (by kernel_rfl) (Val.load_agg rfl (.tail _ (.head _)) ty_28 rfl) rfl rfl rfl (fun _ _ _ h => h) (.cons .here rfl (.cons .here rfl .nil)) rfl ?_
      refine RunA.val (i := 1) rfl (by kernel_rfl) (by kernel_rfl) (Val.load_agg rfl (.tail _ (.head _)) ty_28 rfl) rfl rfl rfl (fun _ _ _ h => h) (.cons .here rfl (.cons .here rfl .nil)) rfl ?_
      refine RunA.val (i := 2) rfl (by kernel_rfl) (by kernel_rfl) (Val.load_agg rfl (.head _) ty_30 rfl) rfl rfl rfl (fun _ _ _ h => h) (.cons .here rfl (.cons .here rfl .nil)) rfl ?_
      refine RunA.one (i := 3) (by kernel_rfl) (by kernel_rfl) ?_
      refine RunI.callP rfl (isCall_func rfl ent_30) rfl rfl rfl (fun w hm => zTrim_calls c t q cap w) (RunK.toA (.cons .here rfl (.cons .here rfl .nil)) (.cons .here rfl (.cons .here rfl .nil)) rfl ?_)
      refine RunA.toB (by kernel_rfl) ?_
      refine RunB.one (i := 4) (by kernel_rfl) ?_
      refine RunI.callP rfl (isCall_func rfl ent_25) rfl rfl rfl (fun w hm => (by have h9 := zcheck_calls c (trW c t) q b o cap w (hS.mono (by decide) hm (by simp)) hl; rw [check_W, h0] at h9; exact h9)) (RunK.toB ?_)
      refine RunB.one (i := 5) (by kernel_rfl) ?_
      refine RunI.val rfl (Val.pure rfl) rfl rfl rfl (RunK.toB ?_)
      refine RunB.done (by kernel_rfl) ?_
      refine RunE.next ?_
      refine RunC.seq ?_
      refine RunC.seq ?_
      refine RunC.region ?_
      refine RunL.val (Val.pure rfl) rfl rfl rfl ?_
      refine RunL.val (Val.pure rfl) rfl rfl rfl ?_
      refine RunL.nil ?_
      refine RunE.next ?_
      refine RunC.cond rfl (fun h => absurd h (by simp)) ?_
      intro c0
      clear c0
      refine RunC.skip ?_
      refine RunE.next ?_
      refine RunC.seq ?_
      refine RunC.draw 11 fol_ (.cons .here rfl (.cons .here rfl .nil)) ?_
      refine RunA.val (i := 0) rfl (by kernel_rfl) (by kernel_rfl) (Val.load_agg rfl (.tail _ (.head _)) ty_28 rfl) rfl rfl rfl (fun _ _ _ h => h) (.cons .here rfl (.cons .here rfl .nil)) rfl ?_
      refine RunA.val (i := 1) rfl (by kernel_rfl) (by kernel_rfl) (Val.load_agg rfl (.head _) ty_30 rfl) rfl rfl rfl (fun _ _ _ h => h) (.cons .here rfl (.cons .here rfl .nil)) rfl ?_
      refine RunA.val (i := 2) rfl (by kernel_rfl) (by kernel_rfl) (Val.load_agg rfl (.tail _ (.head _)) ty_28 rfl) rfl rfl rfl (fun _ _ _ h => h) (.cons .here rfl (.cons .here rfl .nil)) rfl ?_
      refine RunA.one (i := 3) (by kernel_rfl) (by kernel_rfl) ?_
      refine RunI.callN rfl (isCall_func rfl ent_26) rfl rfl rfl (fun w hm => zsome c hn hpk q b o cap w (hS.mono (by decide) hm (by simp))) (fun b23 => (RunK.toA (.cons .here rfl (.cons .here rfl (.cons .here rfl .nil))) (.cons (.there .here) rfl (.cons (.there .here) rfl .nil)) rfl ?_))
      refine RunA.one (i := 4) (by kernel_rfl) (by kernel_rfl) ?_
      refine RunI.callP rfl (isCall_func rfl ent_31) rfl rfl rfl (fun w hm => zhurts_calls c hc hpk t ht (seenN c.p) (seenN_all c.p) (by omega) q b o cap _ b23.1 _ w (hS.mono (by decide) hm (by simp)) (some_sl (hm.at (.head _)))) (RunK.toA (.cons .here rfl (.cons .here rfl (.cons .here rfl .nil))) (.cons .here rfl (.cons .here rfl (.cons .here rfl .nil))) rfl ?_)
      refine RunA.val (i := 5) rfl (by kernel_rfl) (by kernel_rfl) (Val.pure rfl) rfl rfl rfl (fun _ _ _ h => h) (.cons .here rfl (.cons .here rfl (.cons .here rfl .nil))) rfl ?_
      refine RunA.val (i := 6) rfl (by kernel_rfl) (by kernel_rfl) (Val.pure rfl) rfl rfl rfl (fun _ _ _ h => h) (.cons .here rfl (.cons .here rfl (.cons .here rfl .nil))) rfl ?_
      refine RunA.val (i := 7) rfl (by kernel_rfl) (by kernel_rfl) (Val.pure rfl) rfl rfl rfl (fun _ _ _ h => h) (.cons .here rfl (.cons .here rfl (.cons .here rfl .nil))) rfl ?_
      refine RunA.val (i := 8) rfl (by kernel_rfl) (by kernel_rfl) (Val.pure rfl) rfl rfl rfl (fun _ _ _ h => h) (.cons .here rfl (.cons .here rfl (.cons .here rfl .nil))) rfl ?_
      refine RunA.val (i := 9) rfl (by kernel_rfl) (by kernel_rfl) (Val.pure rfl) rfl rfl rfl (fun _ _ _ h => h) (.cons .here rfl (.cons .here rfl (.cons .here rfl .nil))) rfl ?_
      refine RunA.val (i := 10) rfl (by kernel_rfl) (by kernel_rfl) (Val.pure rfl) rfl rfl rfl (fun _ _ _ h => h) (.cons .here rfl (.cons .here rfl (.cons .here rfl .nil))) rfl ?_
      refine RunA.toB (by kernel_rfl) ?_
      refine RunB.one (i := 11) (by kernel_rfl) ?_
      refine RunI.val rfl (Val.pure rfl) rfl rfl rfl (RunK.toB ?_)
      refine RunB.done (by kernel_rfl) ?_
      refine RunE.next ?_
      refine RunC.seq ?_
      refine RunC.seq ?_
      refine RunC.region ?_
      refine RunL.val (Val.pure rfl) rfl rfl rfl ?_
      refine RunL.nil ?_
      refine RunE.next ?_
      refine RunC.cond rfl ?_ ?_
      · intro c1
        have c1' := c1; clear c1
        try simp only [decide_eq_true_eq, decide_eq_false_iff_not, Bool.not_eq_true', Bool.not_eq_false', Bool.and_eq_true, Bool.or_eq_true, Bool.and_eq_false_iff, Bool.or_eq_false_iff, Int.not_le, Int.not_lt] at c1'
        obtain ⟨z, hz⟩ := Option.isSome_iff_exists.1 c1'
        refine RunC.seq ?_
        refine RunC.region ?_
        iterate 5 refine RunL.val (Val.pure rfl) rfl rfl rfl ?_
        refine RunL.nil ?_
        refine RunE.next ?_
        refine RunC.ret ?_
        refine RunE.pass_ret ?_
        exact RunE.retP (.r3 rfl (.tmp rfl) (.tmp rfl) (.tmp rfl)) (by simp [hurtsR, h0, hz])
      · intro c1
        have c1' := c1; clear c1
        try simp only [decide_eq_true_eq, decide_eq_false_iff_not, Bool.not_eq_true', Bool.not_eq_false', Bool.and_eq_true, Bool.or_eq_true, Bool.and_eq_false_iff, Bool.or_eq_false_iff, Int.not_le, Int.not_lt] at c1'
        have hz : hurtRF c t (seenN c.p) = none := by simpa using c1'
        refine RunC.skip ?_
        refine RunE.next ?_
        refine RunC.seq ?_
        refine RunC.region ?_
        iterate 3 refine RunL.val (Val.pure rfl) rfl rfl rfl ?_
        refine RunL.nil ?_
        refine RunE.next ?_
        refine RunC.ret ?_
        exact RunE.retP (.r3 rfl (.tmp rfl) (.tmp rfl) (.tmp rfl)) (by simp [hurtsR, h0, hz])
  · refine calls_start Tryz.func9 rfl rfl ?_
    refine RunC.seq ?_
    refine RunC.region ?_
    refine RunL.new (New.box rfl) rfl rfl rfl (fun b2 => ?_)
    refine RunL.new (New.box rfl) rfl rfl rfl (fun b3 => ?_)
    iterate 3 refine RunL.val (Val.pure rfl) rfl rfl rfl ?_
    refine RunL.nil ?_
    refine RunE.next ?_
    refine RunC.seq ?_
    refine RunC.draw 4 fol_ (.cons .here rfl (.cons .here rfl .nil)) ?_
    refine RunA.val (i := 0) rfl (by kernel_rfl) (by kernel_rfl) (Val.load_agg rfl (.tail _ (.head _)) ty_28 rfl) rfl rfl rfl (fun _ _ _ h => h) (.cons .here rfl (.cons .here rfl .nil)) rfl ?_
    refine RunA.val (i := 1) rfl (by kernel_rfl) (by kernel_rfl) (Val.load_agg rfl (.tail _ (.head _)) ty_28 rfl) rfl rfl rfl (fun _ _ _ h => h) (.cons .here rfl (.cons .here rfl .nil)) rfl ?_
    refine RunA.val (i := 2) rfl (by kernel_rfl) (by kernel_rfl) (Val.load_agg rfl (.head _) ty_30 rfl) rfl rfl rfl (fun _ _ _ h => h) (.cons .here rfl (.cons .here rfl .nil)) rfl ?_
    refine RunA.one (i := 3) (by kernel_rfl) (by kernel_rfl) ?_
    refine RunI.callP rfl (isCall_func rfl ent_30) rfl rfl rfl (fun w hm => zTrim_calls c t q cap w) (RunK.toA (.cons .here rfl (.cons .here rfl .nil)) (.cons .here rfl (.cons .here rfl .nil)) rfl ?_)
    refine RunA.toB (by kernel_rfl) ?_
    refine RunB.one (i := 4) (by kernel_rfl) ?_
    refine RunI.callP rfl (isCall_func rfl ent_25) rfl rfl rfl (fun w hm => (by have h9 := zcheck_calls c (trW c t) q b o cap w (hS.mono (by decide) hm (by simp)) hl; rw [check_W] at h9; exact h9)) (RunK.toB ?_)
    refine RunB.one (i := 5) (by kernel_rfl) ?_
    refine RunI.val rfl (Val.pure rfl) rfl rfl rfl (RunK.toB ?_)
    refine RunB.done (by kernel_rfl) ?_
    refine RunE.next ?_
    refine RunC.seq ?_
    refine RunC.seq ?_
    refine RunC.region ?_
    refine RunL.val (Val.pure rfl) rfl rfl rfl ?_
    refine RunL.val (Val.pure rfl) rfl rfl rfl ?_
    refine RunL.nil ?_
    refine RunE.next ?_
    refine RunC.cond rfl ?_ (fun h => absurd h (by simp [h0]))
    intro c0
    clear c0
    refine RunC.seq ?_
    refine RunC.region ?_
    iterate 4 refine RunL.val (Val.pure rfl) rfl rfl rfl ?_
    refine RunL.nil ?_
    refine RunE.next ?_
    refine RunC.ret ?_
    refine RunE.pass_ret ?_
    exact RunE.retP (.r3 rfl (.tmp rfl) (.tmp rfl) (.tmp rfl)) (by simp [hurtsR, h0])
end Go.Proofs.YthoheicppmbepaaGreat
