/- Walks of the reference of layer 1: Stands, Why, Distance. -/
import Derived.Test.YthoheicppmbepaaGreatRb
set_option linter.unusedSimpArgs false
set_option linter.unusedVariables false
namespace Go.Proofs.YthoheicppmbepaaGreat
open Go Go.Eng Go.Pw1

theorem rWhy_calls (p : Pr) (n : Int) (q : Option Addr) (b o cap : Nat) (W : World) (hS : Sl W q b o 9 (p.things.map Th.cells)) (hl : p.things.length ≤ 100000000000) :
    Calls Tryz.prog 61 #[p.v q cap, .int .i64 n] W (Pure (.tuple #[.int .i64 (whyR p n).1, .int .i64 (whyR p n).2]) W) := by
  obtain ⟨s, hs⟩ : ∃ s, openR p (thingR p n) = s := ⟨_, rfl⟩
  refine calls_start Tryz.func61 rfl rfl ?_
  refine RunC.seq ?_
  refine RunC.region ?_
  refine RunL.new (New.box rfl) rfl rfl rfl (fun b2 => ?_)
  refine RunL.val (Val.pure rfl) rfl rfl rfl ?_
  refine RunL.val (Val.pure rfl) rfl rfl rfl ?_
  refine RunL.nil ?_
  refine RunE.next ?_
  refine RunC.seq ?_
  apply RunC.drawJ (J := J1 _ _ _ _ _ _) 10 fol_ (.cons .here rfl .nil)
  · refine RunA.val (i := 0) rfl (by kernel_rfl) (by kernel_rfl) (Val.load_agg rfl (.head _) ty_26 rfl) rfl rfl rfl (fun _ _ _ h => h) (.cons .here rfl .nil) rfl ?_
    refine RunA.val (i := 1) rfl (by kernel_rfl) (by kernel_rfl) (Val.load_agg rfl (.head _) ty_26 rfl) rfl rfl rfl (fun _ _ _ h => h) (.cons .here rfl .nil) rfl ?_
    refine RunA.val (i := 2) rfl (by kernel_rfl) (by kernel_rfl) (Val.pure rfl) rfl rfl rfl (fun _ _ _ h => h) (.cons .here rfl .nil) rfl ?_
    refine RunA.all (rs := [3, 8]) (by kernel_rfl) (by simp) (by kernel_rfl) (fun m hm => ?_)
    simp only [List.mem_cons, List.not_mem_nil, or_false] at hm
    rcases hm with rfl | rfl
    · refine RunI.callP rfl (isCall_func rfl ent_91) rfl rfl rfl (fun w hm => rthing_calls p _ q cap hl w) (RunK.toA (.cons .here rfl .nil) (.cons .here rfl .nil) rfl ?_)
      refine RunA.all (rs := [4, 8]) (by kernel_rfl) (by simp) (by kernel_rfl) (fun m hm => ?_)
      simp only [List.mem_cons, List.not_mem_nil, or_false] at hm
      rcases hm with rfl | rfl
      · refine RunI.callP rfl (isCall_func rfl ent_72) rfl rfl rfl (fun w hm => ropen_calls p _ q b o cap w (hS.mono (by decide) hm (by simp)) hl) (RunK.toA (.cons .here rfl .nil) (.cons .here rfl .nil) rfl ?_)
        refine RunA.val (i := 5) rfl (by kernel_rfl) (by kernel_rfl) (Val.pure rfl) rfl rfl rfl (fun _ _ _ h => h) (.cons .here rfl .nil) rfl ?_
        refine RunA.val (i := 6) rfl (by kernel_rfl) (by kernel_rfl) (Val.pure rfl) rfl rfl rfl (fun _ _ _ h => h) (.cons .here rfl .nil) rfl ?_
        refine RunA.val (i := 7) rfl (by kernel_rfl) (by kernel_rfl) (Val.pure rfl) rfl rfl rfl (fun _ _ _ h => h) (.cons .here rfl .nil) rfl ?_
        refine RunA.one (i := 8) (by kernel_rfl) (by kernel_rfl) ?_
        refine RunI.new rfl (New.alloc zero_23) rfl rfl rfl (fun b6 => (RunK.toA (.cons (.there .here) rfl .nil) (.cons .here rfl .nil) rfl ?_))
        refine RunA.one (i := 9) (by kernel_rfl) (by kernel_rfl) ?_
        refine RunI.sto rfl (Sto.store rfl rfl .here ty_23 rfl rfl) rfl rfl (RunK.toA (.cons (.there .here) rfl .nil) (.cons .here rfl .nil) rfl ?_)
        refine RunA.toB (by kernel_rfl) ?_
        refine RunB.one (i := 10) (by kernel_rfl) ?_
        refine RunI.val rfl (Val.pure rfl) rfl rfl rfl (RunK.toB ?_)
        refine RunB.done (by kernel_rfl) ?_
        exact RunE.join1 b6 (Sub.refl _) (Pick.refl _)
      · refine RunI.new rfl (New.alloc zero_23) rfl rfl rfl (fun b6 => (RunK.toA (.cons (.there .here) rfl .nil) (.cons .here rfl .nil) rfl ?_))
        refine RunA.one (i := 4) (by kernel_rfl) (by kernel_rfl) ?_
        refine RunI.callP rfl (isCall_func rfl ent_72) rfl rfl rfl (fun w hm => ropen_calls p _ q b o cap w (hS.mono (by decide) hm (by simp)) hl) (RunK.toA (.cons (.there .here) rfl .nil) (.cons .here rfl .nil) rfl ?_)
        refine RunA.val (i := 5) rfl (by kernel_rfl) (by kernel_rfl) (Val.pure rfl) rfl rfl rfl (fun _ _ _ h => h) (.cons (.there .here) rfl .nil) rfl ?_
        refine RunA.val (i := 6) rfl (by kernel_rfl) (by kernel_rfl) (Val.pure rfl) rfl rfl rfl (fun _ _ _ h => h) (.cons (.there .here) rfl .nil) rfl ?_
        refine RunA.val (i := 7) rfl (by kernel_rfl) (by kernel_rfl) (Val.pure rfl) rfl rfl rfl (fun _ _ _ h => h) (.cons (.there .here) rfl .nil) rfl ?_
        refine RunA.one (i := 9) (by kernel_rfl) (by kernel_rfl) ?_
        refine RunI.sto rfl (Sto.store rfl rfl .here ty_23 rfl rfl) rfl rfl (RunK.toA (.cons (.there .here) rfl .nil) (.cons .here rfl .nil) rfl ?_)
        refine RunA.toB (by kernel_rfl) ?_
        refine RunB.one (i := 10) (by kernel_rfl) ?_
        refine RunI.val rfl (Val.pure rfl) rfl rfl rfl (RunK.toB ?_)
        refine RunB.done (by kernel_rfl) ?_
        exact RunE.join1 b6 (Sub.cons (t := 7) rfl (Sub.cons (t := 6) rfl (Sub.cons (t := 17) rfl (Sub.cons (t := 16) rfl (Sub.cons (t := 10) rfl (Sub.cons (t := 15) rfl (Sub.cons (t := 14) rfl (Sub.cons (t := 13) rfl (Sub.cons (t := 12) rfl (Sub.cons (t := 11) rfl (Sub.skip rfl (Sub.skip rfl (Sub.skip rfl (Sub.skip rfl (Sub.skip rfl (Sub.skip rfl (Sub.skip rfl (Sub.skip rfl (Sub.skip rfl (Sub.skip rfl (Sub.refl _))))))))))))))))))))) (.cons .here rfl (.cons .here rfl .nil))
    · refine RunI.new rfl (New.alloc zero_23) rfl rfl rfl (fun b6 => (RunK.toA (.cons (.there .here) rfl .nil) (.cons .here rfl .nil) rfl ?_))
      refine RunA.one (i := 3) (by kernel_rfl) (by kernel_rfl) ?_
      refine RunI.callP rfl (isCall_func rfl ent_91) rfl rfl rfl (fun w hm => rthing_calls p _ q cap hl w) (RunK.toA (.cons (.there .here) rfl .nil) (.cons .here rfl .nil) rfl ?_)
      refine RunA.one (i := 4) (by kernel_rfl) (by kernel_rfl) ?_
      refine RunI.callP rfl (isCall_func rfl ent_72) rfl rfl rfl (fun w hm => ropen_calls p _ q b o cap w (hS.mono (by decide) hm (by simp)) hl) (RunK.toA (.cons (.there .here) rfl .nil) (.cons .here rfl .nil) rfl ?_)
      refine RunA.val (i := 5) rfl (by kernel_rfl) (by kernel_rfl) (Val.pure rfl) rfl rfl rfl (fun _ _ _ h => h) (.cons (.there .here) rfl .nil) rfl ?_
      refine RunA.val (i := 6) rfl (by kernel_rfl) (by kernel_rfl) (Val.pure rfl) rfl rfl rfl (fun _ _ _ h => h) (.cons (.there .here) rfl .nil) rfl ?_
      refine RunA.val (i := 7) rfl (by kernel_rfl) (by kernel_rfl) (Val.pure rfl) rfl rfl rfl (fun _ _ _ h => h) (.cons (.there .here) rfl .nil) rfl ?_
      refine RunA.one (i := 9) (by kernel_rfl) (by kernel_rfl) ?_
      refine RunI.sto rfl (Sto.store rfl rfl .here ty_23 rfl rfl) rfl rfl (RunK.toA (.cons (.there .here) rfl .nil) (.cons .here rfl .nil) rfl ?_)
      refine RunA.toB (by kernel_rfl) ?_
      refine RunB.one (i := 10) (by kernel_rfl) ?_
      refine RunI.val rfl (Val.pure rfl) rfl rfl rfl (RunK.toB ?_)
      refine RunB.done (by kernel_rfl) ?_
      exact RunE.join1 b6 (Sub.cons (t := 7) rfl (Sub.cons (t := 6) rfl (Sub.cons (t := 17) rfl (Sub.cons (t := 16) rfl (Sub.cons (t := 10) rfl (Sub.cons (t := 15) rfl (Sub.cons (t := 14) rfl (Sub.cons (t := 13) rfl (Sub.cons (t := 12) rfl (Sub.cons (t := 11) rfl (Sub.skip rfl (Sub.skip rfl (Sub.skip rfl (Sub.skip rfl (Sub.skip rfl (Sub.skip rfl (Sub.skip rfl (Sub.skip rfl (Sub.skip rfl (Sub.skip rfl (Sub.refl _))))))))))))))))))))) (.cons .here rfl (.cons .here rfl .nil))
  refine J1.out (fun b6 => ?_)
  refine RunE.next ?_
  refine RunC.seq ?_
  refine RunC.seq ?_
  refine RunC.region ?_
  refine RunL.val (Val.pure rfl) rfl rfl rfl ?_
  refine RunL.val (Val.pure rfl) rfl rfl rfl ?_
  refine RunL.nil ?_
  refine RunE.next ?_
  refine RunC.cond rfl ?_ ?_
  · intro c0
    have c0' := c0; clear c0
    try simp only [decide_eq_true_eq, decide_eq_false_iff_not, Bool.not_eq_true', Bool.not_eq_false', Bool.and_eq_true, Bool.or_eq_true, Bool.and_eq_false_iff, Bool.or_eq_false_iff, Int.not_le, Int.not_lt] at c0'
    refine RunC.seq ?_
    refine RunC.region ?_
    iterate 3 refine RunL.val (Val.pure rfl) rfl rfl rfl ?_
    refine RunL.nil ?_
    refine RunE.next ?_
    refine RunC.ret ?_
    refine RunE.pass_ret ?_
    exact RunE.retP (.r2 rfl (.tmp rfl) (.tmp rfl)) (by rw [hs] at c0' ⊢; simp [whyR, hs, c0'])
  · intro c0
    have c0' := c0; clear c0
    try simp only [decide_eq_true_eq, decide_eq_false_iff_not, Bool.not_eq_true', Bool.not_eq_false', Bool.and_eq_true, Bool.or_eq_true, Bool.and_eq_false_iff, Bool.or_eq_false_iff, Int.not_le, Int.not_lt] at c0'
    rw [hs] at c0'
    obtain ⟨hip, hv, hse, hb1, hb2, hb3⟩ := openR_bd hs c0'
    have hp := isPair_ok hip
    have n1 := hp.n1
    rw [hs]
    obtain ⟨k, rfl, hk⟩ := thingR_in hv
    obtain ⟨t, ht⟩ : ∃ t, p.things[k] = t := ⟨_, rfl⟩
    have hth := hp.ths _ (List.getElem_mem hk)
    rw [ht] at hth
    have htk := thingAt_eq hk ht
    have bd := hth.1
    obtain ⟨hsl, hsu⟩ := shift_bd bd
    have n2 := hp.n2
    have n3 := hp.n3
    have mm := mul_bd2 hsl (show 0 ≤ p.near by omega) (show p.near ≤ 1073741824 by omega)
    have hlv := levelR_eq hp bd
    refine RunC.skip ?_
    refine RunE.next ?_
    refine RunC.seq ?_
    refine RunC.region ?_
    refine RunL.val (Val.fieldAddr rfl fld_26_5) rfl rfl rfl ?_
    refine RunL.val (Val.load_one rfl (.tail _ (.head _)) ty_24 rfl) rfl rfl rfl ?_
    refine RunL.val (Val.pure rfl) rfl rfl rfl ?_
    refine RunL.val (Val.indexAddr_slp rfl rfl sl_24 (by omega) (by omega) (hS.ptrM hk)) rfl rfl rfl ?_
    refine RunL.val (Val.load_gen rfl (fun w hm => hS.loadX (by decide) hm (by simp) ty_76 hk ht)) rfl rfl rfl ?_
    refine RunL.new (New.alloc zero_76) rfl rfl rfl (fun b8 => ?_)
    refine RunL.sto (Sto.store rfl rfl .here ty_76 rfl rfl) rfl rfl ?_
    refine RunL.nil ?_
    refine RunE.next ?_
    refine RunC.seq ?_
    refine RunC.seq ?_
    refine RunC.draw 4 fol_ (.cons .here rfl (.cons .here rfl (.cons .here rfl .nil))) ?_
    refine RunA.val (i := 0) rfl (by kernel_rfl) (by kernel_rfl) (Val.load_agg rfl (.tail _ (.head _)) ty_23 rfl) rfl rfl rfl (fun _ _ _ h => h) (.cons .here rfl (.cons .here rfl (.cons .here rfl .nil))) rfl ?_
    refine RunA.val (i := 1) rfl (by kernel_rfl) (by kernel_rfl) (Val.load_agg rfl (.tail _ (.tail _ (.head _))) ty_26 rfl) rfl rfl rfl (fun _ _ _ h => h) (.cons .here rfl (.cons .here rfl (.cons .here rfl .nil))) rfl ?_
    refine RunA.val (i := 2) rfl (by kernel_rfl) (by kernel_rfl) (Val.load_agg rfl (.head _) ty_76 rfl) rfl rfl rfl (fun _ _ _ h => h) (.cons .here rfl (.cons .here rfl (.cons .here rfl .nil))) rfl ?_
    refine RunA.one (i := 3) (by kernel_rfl) (by kernel_rfl) ?_
    refine RunI.callP rfl (isCall_func rfl ent_94) rfl rfl rfl (fun w hm => rPowers_calls p hp q cap t hth.1 hth.2 w) (RunK.toA (.cons .here rfl (.cons .here rfl (.cons .here rfl .nil))) (.cons .here rfl (.cons .here rfl (.cons .here rfl .nil))) rfl ?_)
    refine RunA.toB (by kernel_rfl) ?_
    refine RunB.one (i := 4) (by kernel_rfl) ?_
    refine RunI.callP rfl (isCall_func rfl ent_93) rfl rfl rfl (fun w hm => rcommon_calls (_, _) (_, _) w) (RunK.toB ?_)
    refine RunB.one (i := 5) (by kernel_rfl) ?_
    refine RunI.callP rfl (isCall_func rfl ent_92) rfl rfl rfl (fun w hm => rEmpty_calls (_, _) w) (RunK.toB ?_)
    refine RunB.one (i := 6) (by kernel_rfl) ?_
    refine RunI.val rfl (Val.pure rfl) rfl rfl rfl (RunK.toB ?_)
    refine RunB.done (by kernel_rfl) ?_
    refine RunE.next ?_
    refine RunC.cond rfl ?_ ?_
    · intro c1
      have c1' := c1; clear c1
      try simp only [decide_eq_true_eq, decide_eq_false_iff_not, Bool.not_eq_true', Bool.not_eq_false', Bool.and_eq_true, Bool.or_eq_true, Bool.and_eq_false_iff, Bool.or_eq_false_iff, Int.not_le, Int.not_lt] at c1'
      refine RunC.seq ?_
      refine RunC.region ?_
      refine RunL.val (Val.pure rfl) rfl rfl rfl ?_
      refine RunL.val (Val.pure rfl) rfl rfl rfl ?_
      refine RunL.nil ?_
      refine RunE.next ?_
      refine RunC.ret ?_
      refine RunE.pass_ret ?_
      exact RunE.retP (.r2 rfl (.tmp rfl) (.tmp rfl)) (by have c : isB (nar s.1 (powersR p t)) = true := c1'; simp [whyR, hs, c0', htk, c])
    · intro c1
      have c1' := c1; clear c1
      try simp only [decide_eq_true_eq, decide_eq_false_iff_not, Bool.not_eq_true', Bool.not_eq_false', Bool.and_eq_true, Bool.or_eq_true, Bool.and_eq_false_iff, Bool.or_eq_false_iff, Int.not_le, Int.not_lt] at c1'
      refine RunC.skip ?_
      refine RunE.next ?_
      refine RunC.seq ?_
      refine RunC.seq ?_
      refine RunC.region ?_
      refine RunL.val (Val.load_agg rfl (.head _) ty_76 rfl) rfl rfl rfl ?_
      refine RunL.val (Val.fieldAddr rfl fld_26_2) rfl rfl rfl ?_
      refine RunL.val (Val.load_one rfl (.tail _ (.tail _ (.head _))) ty_3 rfl) rfl rfl rfl ?_
      refine RunL.callP (isCall_func rfl ent_95) rfl rfl rfl (fun w hm => rlevel_calls t hth.1 p.tilt hp.t1 hp.t2 w) ?_
      refine RunL.val (Val.pure rfl) rfl rfl rfl ?_
      refine RunL.nil ?_
      refine RunE.next ?_
      refine RunC.cond rfl ?_ ?_
      · intro c2
        have c2' := c2; clear c2
        try simp only [decide_eq_true_eq, decide_eq_false_iff_not, Bool.not_eq_true', Bool.not_eq_false', Bool.and_eq_true, Bool.or_eq_true, Bool.and_eq_false_iff, Bool.or_eq_false_iff, Int.not_le, Int.not_lt] at c2'
        refine RunC.seq ?_
        refine RunC.region ?_
        refine RunL.val (Val.pure rfl) rfl rfl rfl ?_
        refine RunL.val (Val.pure rfl) rfl rfl rfl ?_
        refine RunL.nil ?_
        refine RunE.next ?_
        refine RunC.ret ?_
        refine RunE.pass_ret ?_
        exact RunE.retP (.r2 rfl (.tmp rfl) (.tmp rfl)) (by have c : isB (nar s.1 (powersR p t)) = false := c1'; rw [hlv] at c2'; simp [whyR, hs, c0', htk, c, c2'])
      · intro c2
        have c2' := c2; clear c2
        try simp only [decide_eq_true_eq, decide_eq_false_iff_not, Bool.not_eq_true', Bool.not_eq_false', Bool.and_eq_true, Bool.or_eq_true, Bool.and_eq_false_iff, Bool.or_eq_false_iff, Int.not_le, Int.not_lt] at c2'
        refine RunC.skip ?_
        refine RunE.next ?_
        refine RunC.seq ?_
        refine RunC.region ?_
        refine RunL.val (Val.load_agg rfl (.head _) ty_76 rfl) rfl rfl rfl ?_
        refine RunL.callP (isCall_func rfl ent_36) rfl rfl rfl (fun w hm => rOf_calls t hth.1 w) ?_
        refine RunL.new (New.alloc zero_23) rfl rfl rfl (fun b9 => ?_)
        refine RunL.sto (Sto.store rfl rfl .here ty_23 rfl rfl) rfl rfl ?_
        refine RunL.nil ?_
        refine RunE.next ?_
        refine RunC.seq ?_
        refine RunC.seq ?_
        refine RunC.region ?_
        refine RunL.val (Val.fieldAddr rfl fld_23_1) rfl rfl rfl ?_
        refine RunL.val (Val.load_one rfl (.head _) ty_3 rfl) rfl rfl rfl ?_
        refine RunL.val (Val.pure rfl) rfl rfl rfl ?_
        refine RunL.nil ?_
        refine RunE.next ?_
        refine RunC.cond rfl ?_ ?_
        · intro c3
          have c3' := c3; clear c3
          try simp only [decide_eq_true_eq, decide_eq_false_iff_not, Bool.not_eq_true', Bool.not_eq_false', Bool.and_eq_true, Bool.or_eq_true, Bool.and_eq_false_iff, Bool.or_eq_false_iff, Int.not_le, Int.not_lt] at c3'
          refine RunC.seq ?_
          refine RunC.region ?_
          refine RunL.val (Val.pure rfl) rfl rfl rfl ?_
          refine RunL.val (Val.pure rfl) rfl rfl rfl ?_
          refine RunL.nil ?_
          refine RunE.next ?_
          refine RunC.ret ?_
          refine RunE.pass_ret ?_
          exact RunE.retP (.r2 rfl (.tmp rfl) (.tmp rfl)) (by have c : isB (nar s.1 (powersR p t)) = false := c1'; rw [hlv] at c2'; simp [whyR, hs, c0', htk, c, c2', c3'])
        · intro c3
          have c3' := c3; clear c3
          try simp only [decide_eq_true_eq, decide_eq_false_iff_not, Bool.not_eq_true', Bool.not_eq_false', Bool.and_eq_true, Bool.or_eq_true, Bool.and_eq_false_iff, Bool.or_eq_false_iff, Int.not_le, Int.not_lt] at c3'
          refine RunC.skip ?_
          refine RunE.next ?_
          refine RunC.seq ?_
          refine RunC.seq ?_
          refine RunC.region ?_
          refine RunL.val (Val.fieldAddr rfl fld_23_0) rfl rfl rfl ?_
          refine RunL.val (Val.load_one rfl (.head _) ty_3 rfl) rfl rfl rfl ?_
          refine RunL.val (Val.pure rfl) rfl rfl rfl ?_
          refine RunL.val (Val.pure rfl) rfl rfl rfl ?_
          refine RunL.orPart (dj := 46) (dp := 55) 9 rfl (fun g46 => by
            have g46' := g46
            try simp only [decide_eq_true_eq, decide_eq_false_iff_not, Bool.not_eq_true', Bool.not_eq_false', Bool.and_eq_true, Bool.or_eq_true, Bool.and_eq_false_iff, Bool.or_eq_false_iff, Int.not_le, Int.not_lt] at g46'
            refine RunL.val (Val.fieldAddr rfl fld_23_0) rfl rfl rfl ?_
            refine RunL.val (Val.load_one rfl (.head _) ty_3 rfl) rfl rfl rfl ?_
            refine RunL.val (Val.fieldAddr rfl fld_26_3) rfl rfl rfl ?_
            refine RunL.val (Val.load_one rfl (.tail _ (.tail _ (.tail _ (.head _)))) ty_3 rfl) rfl rfl rfl ?_
            refine RunL.val (Val.mul rfl rfl (IntWalk.i64_in _ ⟨by omega, by omega⟩)) rfl rfl rfl ?_
            refine RunL.val (Val.fieldAddr rfl fld_23_1) rfl rfl rfl ?_
            refine RunL.val (Val.load_one rfl (.tail _ (.tail _ (.head _))) ty_3 rfl) rfl rfl rfl ?_
            refine RunL.val (Val.pure rfl) rfl rfl rfl ?_
            refine RunL.val (Val.pure rfl) rfl rfl rfl ?_
            exact RunL.segEnd (Sub.cons rfl (Sub.skip rfl (Sub.skip rfl (Sub.skip rfl (Sub.skip rfl (Sub.skip rfl (Sub.skip rfl (Sub.skip rfl (Sub.skip rfl (Sub.skip rfl (Sub.same rfl (by rw [g46]) (Sub.refl _)))))))))))) (List.Sublist.refl _)
          ) (fun g46 => by
            have g46' := g46
            try simp only [decide_eq_true_eq, decide_eq_false_iff_not, Bool.not_eq_true', Bool.not_eq_false', Bool.and_eq_true, Bool.or_eq_true, Bool.and_eq_false_iff, Bool.or_eq_false_iff, Int.not_le, Int.not_lt] at g46'
            iterate 8 refine RunL.no rfl rfl rfl ?_
            refine RunL.val (Val.pure rfl) rfl rfl rfl ?_
            exact RunL.segEnd (Sub.cons rfl (Sub.skip rfl (Sub.skip rfl (Sub.skip rfl (Sub.skip rfl (Sub.skip rfl (Sub.skip rfl (Sub.skip rfl (Sub.skip rfl (Sub.skip rfl (Sub.same rfl (by rw [g46]) (Sub.refl _)))))))))))) (List.Sublist.refl _)
          ) ?_
          refine RunL.nil ?_
          refine RunE.next ?_
          refine RunC.cond rfl ?_ ?_
          · intro c4
            have c4' := c4; clear c4
            try simp only [decide_eq_true_eq, decide_eq_false_iff_not, Bool.not_eq_true', Bool.not_eq_false', Bool.and_eq_true, Bool.or_eq_true, Bool.and_eq_false_iff, Bool.or_eq_false_iff, Int.not_le, Int.not_lt] at c4'
            refine RunC.seq ?_
            refine RunC.region ?_
            refine RunL.val (Val.pure rfl) rfl rfl rfl ?_
            refine RunL.val (Val.pure rfl) rfl rfl rfl ?_
            refine RunL.nil ?_
            refine RunE.next ?_
            refine RunC.ret ?_
            refine RunE.pass_ret ?_
            exact RunE.retP (.r2 rfl (.tmp rfl) (.tmp rfl)) (by have c : isB (nar s.1 (powersR p t)) = false := c1'; rw [hlv] at c2'; simp [whyR, hs, c0', htk, c, c2', Int.not_lt.2 c3', c4'])
          · intro c4
            have c4' := c4; clear c4
            try simp only [decide_eq_true_eq, decide_eq_false_iff_not, Bool.not_eq_true', Bool.not_eq_false', Bool.and_eq_true, Bool.or_eq_true, Bool.and_eq_false_iff, Bool.or_eq_false_iff, Int.not_le, Int.not_lt] at c4'
            refine RunC.skip ?_
            refine RunE.next ?_
            refine RunC.seq ?_
            refine RunC.region ?_
            refine RunL.val (Val.pure rfl) rfl rfl rfl ?_
            refine RunL.val (Val.pure rfl) rfl rfl rfl ?_
            refine RunL.nil ?_
            refine RunE.next ?_
            refine RunC.ret ?_
            exact RunE.retP (.r2 rfl (.tmp rfl) (.tmp rfl)) (by have c : isB (nar s.1 (powersR p t)) = false := c1'; rw [hlv] at c2'; simp [whyR, hs, c0', htk, c, c2', Int.not_lt.2 c3', Int.not_lt.2 c4'.1, Int.not_lt.2 c4'.2])
theorem rshown_calls (t : Th) (W : World) : Calls Tryz.prog 93 #[b2v (shift t), .agg #[.int .i64 0, .int .i64 2000]] W (Pure (b2v (shownS t)) W) := rcommon_calls (shift t) (0, 2000) W
theorem div_rng1 {a b : Int} (h0 : 0 ≤ a) (h1 : a ≤ 1000000000000) (hb : 0 < b) : -9223372036854775808 ≤ a / b + 1 ∧ a / b + 1 ≤ 9223372036854775807 := by
  have h2 := Int.ediv_nonneg h0 (Int.le_of_lt hb)
  have h3 := Int.ediv_le_self b h0
  omega
end Go.Proofs.YthoheicppmbepaaGreat
