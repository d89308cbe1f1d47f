/- Walks of package pair: the powers of a pair. -/
import Derived.Test.YthoheicppmbepaaGreatPc
set_option linter.unusedSimpArgs false
set_option linter.unusedVariables false
namespace Go.Proofs.YthoheicppmbepaaGreat
open Go Go.Eng Go.Pw1

theorem look_calls (p : Pr) (hp : p.Ok) (q : Option Addr) (b o cap : Nat) (pw0 : Int × Int) (bv : Nat) (W : World) (hV : W.heap[bv]? = some (.cells (vwCells p q cap pw0).toArray 113 (0, 0))) (hS : Sl W q b o 9 (p.things.map Th.cells)) (hne : p.things.map Th.cells ≠ [] → b ≠ bv) :
    Calls Tryz.prog 71 #[.pointer (some ⟨bv, 0, none⟩)] W (TryU misf (lookX p) (.tuple #[]) bv (fun w => .cells (vwCells p q cap w).toArray 113 (0, 0)) W) := by
  have f1 := hp.f1
  have f2 := hp.f2
  have f3 := hp.f3
  have b1 := hp.b1
  have b2 := hp.b2
  have b3 := hp.b3
  have m1 := mul_bd (a := p.focal.lo) (b := p.base.lo) (A := 50000) (B := 10000) (by omega) (by omega) (by omega) (by omega)
  have m2 := mul_bd (a := p.focal.hi) (b := p.base.hi) (A := 50000) (B := 10000) (by omega) (by omega) (by omega) (by omega)
  have hlen := hp.len
  obtain ⟨w0, hw0⟩ : ∃ w0 : Int × Int, w0 = (p.focal.lo * p.base.lo, p.focal.hi * p.base.hi) := ⟨_, rfl⟩
  have hl0 : lookS p = lookL p w0 p.things := by rw [hw0]; rfl
  have hbs : ∀ ob : Obj, ∀ ob' : Obj, p.things.map Th.cells ≠ [] → (b, ob) ∉ [(bv, ob')] := fun ob ob' h => by simp [hne h]
  refine calls_start_chg hV Tryz.func71 rfl rfl ?_
  refine RunC.scope ?_
  refine RunC.seq ?_
  refine RunC.draw 28 fol_ .nil ?_
  refine RunA.val (i := 0) rfl (by kernel_rfl) (by kernel_rfl) (Val.pure rfl) rfl rfl rfl (fun _ _ _ h => h) .nil rfl ?_
  refine RunA.val (i := 1) rfl (by kernel_rfl) (by kernel_rfl) (Val.pure rfl) rfl rfl rfl (fun _ _ _ h => h) .nil rfl ?_
  refine RunA.val (i := 2) rfl (by kernel_rfl) (by kernel_rfl) (Val.pure rfl) rfl rfl rfl (fun _ _ _ h => h) .nil rfl ?_
  refine RunA.val (i := 3) rfl (by kernel_rfl) (by kernel_rfl) (Val.fieldAddr rfl fld_113_0) rfl rfl rfl (fun _ _ _ h => h) .nil rfl ?_
  refine RunA.val (i := 4) rfl (by kernel_rfl) (by kernel_rfl) (Val.fieldAddr rfl fld_26_0) rfl rfl rfl (fun _ _ _ h => h) .nil rfl ?_
  refine RunA.val (i := 5) rfl (by kernel_rfl) (by kernel_rfl) (Val.fieldAddr rfl fld_23_0) rfl rfl rfl (fun _ _ _ h => h) .nil rfl ?_
  refine RunA.val (i := 6) rfl (by kernel_rfl) (by kernel_rfl) (Val.load_one rfl (.head _) ty_3 rfl) rfl rfl rfl (fun _ _ _ h => h) .nil rfl ?_
  refine RunA.val (i := 7) rfl (by kernel_rfl) (by kernel_rfl) (Val.pure rfl) rfl rfl rfl (fun _ _ _ h => h) .nil rfl ?_
  refine RunA.val (i := 8) rfl (by kernel_rfl) (by kernel_rfl) (Val.pure rfl) rfl rfl rfl (fun _ _ _ h => h) .nil rfl ?_
  refine RunA.val (i := 9) rfl (by kernel_rfl) (by kernel_rfl) (Val.fieldAddr rfl fld_113_0) rfl rfl rfl (fun _ _ _ h => h) .nil rfl ?_
  refine RunA.val (i := 10) rfl (by kernel_rfl) (by kernel_rfl) (Val.fieldAddr rfl fld_26_1) rfl rfl rfl (fun _ _ _ h => h) .nil rfl ?_
  refine RunA.val (i := 11) rfl (by kernel_rfl) (by kernel_rfl) (Val.fieldAddr rfl fld_23_0) rfl rfl rfl (fun _ _ _ h => h) .nil rfl ?_
  refine RunA.val (i := 12) rfl (by kernel_rfl) (by kernel_rfl) (Val.load_one rfl (.head _) ty_3 rfl) rfl rfl rfl (fun _ _ _ h => h) .nil rfl ?_
  refine RunA.val (i := 13) rfl (by kernel_rfl) (by kernel_rfl) (Val.mul rfl rfl (IntWalk.i64_in _ ⟨by omega, by omega⟩)) rfl rfl rfl (fun _ _ _ h => h) .nil rfl ?_
  refine RunA.val (i := 14) rfl (by kernel_rfl) (by kernel_rfl) (Val.pure rfl) rfl rfl rfl (fun _ _ _ h => h) .nil rfl ?_
  refine RunA.val (i := 15) rfl (by kernel_rfl) (by kernel_rfl) (Val.pure rfl) rfl rfl rfl (fun _ _ _ h => h) .nil rfl ?_
  refine RunA.val (i := 16) rfl (by kernel_rfl) (by kernel_rfl) (Val.fieldAddr rfl fld_113_0) rfl rfl rfl (fun _ _ _ h => h) .nil rfl ?_
  refine RunA.val (i := 17) rfl (by kernel_rfl) (by kernel_rfl) (Val.fieldAddr rfl fld_26_0) rfl rfl rfl (fun _ _ _ h => h) .nil rfl ?_
  refine RunA.val (i := 18) rfl (by kernel_rfl) (by kernel_rfl) (Val.fieldAddr rfl fld_23_1) rfl rfl rfl (fun _ _ _ h => h) .nil rfl ?_
  refine RunA.val (i := 19) rfl (by kernel_rfl) (by kernel_rfl) (Val.load_one rfl (.head _) ty_3 rfl) rfl rfl rfl (fun _ _ _ h => h) .nil rfl ?_
  refine RunA.val (i := 20) rfl (by kernel_rfl) (by kernel_rfl) (Val.pure rfl) rfl rfl rfl (fun _ _ _ h => h) .nil rfl ?_
  refine RunA.val (i := 21) rfl (by kernel_rfl) (by kernel_rfl) (Val.pure rfl) rfl rfl rfl (fun _ _ _ h => h) .nil rfl ?_
  refine RunA.val (i := 22) rfl (by kernel_rfl) (by kernel_rfl) (Val.fieldAddr rfl fld_113_0) rfl rfl rfl (fun _ _ _ h => h) .nil rfl ?_
  refine RunA.val (i := 23) rfl (by kernel_rfl) (by kernel_rfl) (Val.fieldAddr rfl fld_26_1) rfl rfl rfl (fun _ _ _ h => h) .nil rfl ?_
  refine RunA.val (i := 24) rfl (by kernel_rfl) (by kernel_rfl) (Val.fieldAddr rfl fld_23_1) rfl rfl rfl (fun _ _ _ h => h) .nil rfl ?_
  refine RunA.val (i := 25) rfl (by kernel_rfl) (by kernel_rfl) (Val.load_one rfl (.head _) ty_3 rfl) rfl rfl rfl (fun _ _ _ h => h) .nil rfl ?_
  refine RunA.val (i := 26) rfl (by kernel_rfl) (by kernel_rfl) (Val.mul rfl rfl (IntWalk.i64_in _ ⟨by omega, by omega⟩)) rfl rfl rfl (fun _ _ _ h => h) .nil rfl ?_
  refine RunA.val (i := 27) rfl (by kernel_rfl) (by kernel_rfl) (Val.build (parts := [(0, .tmp 19), (1, .tmp 32)]) rfl zero_111 places_111 rfl) rfl rfl rfl (fun _ _ _ h => h) .nil rfl ?_
  refine RunA.toB (by kernel_rfl) ?_
  refine RunB.one (i := 28) (by kernel_rfl) ?_
  refine RunI.val rfl (Val.pure rfl) rfl rfl rfl (RunK.toB ?_)
  refine RunB.one (i := 29) (by kernel_rfl) ?_
  refine RunI.val rfl (Val.fieldAddr rfl fld_113_1) rfl rfl rfl (RunK.toB ?_)
  refine RunB.one (i := 30) (by kernel_rfl) ?_
  refine RunI.sto rfl (Sto.store_chg rfl rfl .here ty_111 rfl rfl) rfl rfl (RunK.toB ?_)
  refine RunB.done (by kernel_rfl) ?_
  refine RunE.next ?_
  refine RunC.seq ?_
  refine RunC.label ?_
  refine RunE.next ?_
  refine RunC.seq ?_
  refine RunC.region ?_
  refine RunL.val (Val.pure rfl) rfl rfl rfl ?_
  refine RunL.val (Val.pure rfl) rfl rfl rfl ?_
  refine RunL.val (Val.fieldAddr rfl fld_113_0) rfl rfl rfl ?_
  refine RunL.val (Val.fieldAddr rfl fld_26_5) rfl rfl rfl ?_
  refine RunL.val (Val.load_one rfl (.head _) ty_24 rfl) rfl rfl rfl ?_
  refine RunL.val (Val.len_sl rfl sl_24) rfl rfl rfl ?_
  refine RunL.val (Val.pure rfl) rfl rfl rfl ?_
  refine RunL.nil ?_
  refine RunE.next ?_
  refine RunC.block ?_
  refine RunC.loopK (p.things.length) (fun k q => (42, .int .i64 (k : Int)) :: q) (fun k => [(bv, .cells (vwCells p q cap ((lookL p w0 (p.things.take k)).getD (0, 0))).toArray 113 (0, 0))]) (fun _ => []) (fun k => (lookL p w0 (p.things.take k)).isSome = true) (by simp [lookL]) (by simp only [List.take_zero, lookL, hw0]; rfl) (Sub.consE (t := 42) rfl rfl (Sub.cons (t := 0) rfl (Sub.cons (t := 40) rfl (Sub.cons (t := 41) rfl (Sub.nil _))))) .nil ?_
  intro k kN kI
  obtain ⟨wk, hwk⟩ := Option.isSome_iff_exists.1 kI
  simp only [hwk, Option.getD_some]
  refine RunC.seq ?_
  refine RunC.region ?_
  refine RunL.val (Val.pure rfl) rfl rfl rfl ?_
  refine RunL.nil ?_
  refine RunE.next ?_
  refine RunC.seq ?_
  refine RunC.cond rfl ?_ ?_
  · intro c0
    have c0' := c0; clear c0
    try simp only [decide_eq_true_eq, decide_eq_false_iff_not, Bool.not_eq_true', Bool.not_eq_false', Bool.and_eq_true, Bool.or_eq_true, Bool.and_eq_false_iff, Bool.or_eq_false_iff, Int.not_le, Int.not_lt] at c0'
    have hk : k < p.things.length := by omega
    have hx : p.things.map Th.cells ≠ [] := by intro h; simp [List.map_eq_nil_iff] at h; simp [h] at hk
    have hth := hp.ths _ (List.getElem_mem hk)
    obtain ⟨t, ht⟩ : ∃ t, p.things[k] = t := ⟨_, rfl⟩
    rw [ht] at hth
    refine RunC.skip ?_
    refine RunE.next ?_
    refine RunC.seq ?_
    refine RunC.block ?_
    refine RunC.seq ?_
    refine RunC.region ?_
    refine RunL.val (Val.indexAddr_slp rfl rfl sl_24 (by omega) (by omega) (hS.ptrM hk)) rfl rfl rfl ?_
    refine RunL.val (Val.load_gen rfl (fun w hm => hS.loadX (by decide) hm (fun ob => hbs ob _ hx) ty_76 hk ht)) rfl rfl rfl ?_
    refine RunL.new (New.alloc zero_76) rfl rfl rfl (fun b3 => ?_)
    refine RunL.sto (Sto.store rfl rfl .here ty_76 rfl rfl) rfl rfl ?_
    refine RunL.nil ?_
    refine RunE.next ?_
    refine RunC.seq ?_
    refine RunC.seq ?_
    refine RunC.region ?_
    refine RunL.val (Val.fieldAddr rfl fld_76_2) rfl rfl rfl ?_
    refine RunL.val (Val.load_one rfl (.tail _ (.head _)) ty_3 rfl) rfl rfl rfl ?_
    refine RunL.val (Val.pure rfl) rfl rfl rfl ?_
    refine RunL.nil ?_
    refine RunE.next ?_
    refine RunC.cond rfl ?_ ?_
    · intro c1
      have c1' := c1; clear c1
      try simp only [decide_eq_true_eq, decide_eq_false_iff_not, Bool.not_eq_true', Bool.not_eq_false', Bool.and_eq_true, Bool.or_eq_true, Bool.and_eq_false_iff, Bool.or_eq_false_iff, Int.not_le, Int.not_lt] at c1'
      refine RunC.exit ?_
      refine RunE.pass_exit ?_
      refine RunE.block_here ?_
      refine RunE.next ?_
      refine RunC.region ?_
      refine RunL.val (Val.add rfl rfl (IntWalk.i64_in _ ⟨by omega, by omega⟩)) rfl rfl rfl ?_
      refine RunL.val (Val.pure rfl) rfl rfl rfl ?_
      refine RunL.nil ?_
      exact RunE.round (by omega) (by first | (simp [look_step hk ht hwk, lookL, c1']; done) | simp [look_step hk ht hwk, lookL, c1', ok60]) (by first | (simp [look_step hk ht hwk, lookL, c1']; done) | (simp [look_step hk ht hwk, lookL, c1', ok60]; done) | (simp [look_step hk ht hwk, lookL, c1', ok60]; rfl)) (Sub.consE (t := 42) rfl rfl (Sub.cons (t := 0) rfl (Sub.cons (t := 40) rfl (Sub.cons (t := 41) rfl (Sub.nil _))))) .nil
    · intro c1
      have c1' := c1; clear c1
      try simp only [decide_eq_true_eq, decide_eq_false_iff_not, Bool.not_eq_true', Bool.not_eq_false', Bool.and_eq_true, Bool.or_eq_true, Bool.and_eq_false_iff, Bool.or_eq_false_iff, Int.not_le, Int.not_lt] at c1'
      refine RunC.skip ?_
      refine RunE.next ?_
      refine RunC.seq ?_
      apply RunC.drawJ (J := J1 _ _ _ _ _ _) 12 fol_ (.cons .here rfl .nil)
      · refine RunA.val (i := 0) rfl (by kernel_rfl) (by kernel_rfl) (Val.pure rfl) rfl rfl rfl (fun _ _ _ h => h) (.cons .here rfl .nil) rfl ?_
        refine RunA.val (i := 1) rfl (by kernel_rfl) (by kernel_rfl) (Val.load_agg rfl (.tail _ (.head _)) ty_76 rfl) rfl rfl rfl (fun _ _ _ h => h) (.cons .here rfl .nil) rfl ?_
        refine RunA.val (i := 2) rfl (by kernel_rfl) (by kernel_rfl) (Val.pure rfl) rfl rfl rfl (fun _ _ _ h => h) (.cons .here rfl .nil) rfl ?_
        refine RunA.val (i := 3) rfl (by kernel_rfl) (by kernel_rfl) (Val.pure rfl) rfl rfl rfl (fun _ _ _ h => h) (.cons .here rfl .nil) rfl ?_
        refine RunA.val (i := 4) rfl (by kernel_rfl) (by kernel_rfl) (Val.fieldAddr rfl fld_113_1) rfl rfl rfl (fun _ _ _ h => h) (.cons .here rfl .nil) rfl ?_
        refine RunA.val (i := 5) rfl (by kernel_rfl) (by kernel_rfl) (Val.load_agg rfl (.head _) ty_111 rfl) rfl rfl rfl (fun _ _ _ h => h) (.cons .here rfl .nil) rfl ?_
        refine RunA.all (rs := [6, 10]) (by kernel_rfl) (by simp) (by kernel_rfl) (fun m hm => ?_)
        simp only [List.mem_cons, List.not_mem_nil, or_false] at hm
        rcases hm with rfl | rfl
        · refine RunI.callP rfl (isCall_func rfl ent_83) rfl rfl rfl (fun w hm => still_calls p hp q cap wk t hth.1 hth.2 wk bv w (hm.at (.head _))) (RunK.toA (.cons .here rfl .nil) (.cons .here rfl .nil) rfl ?_)
          refine RunA.val (i := 7) rfl (by kernel_rfl) (by kernel_rfl) (Val.pure rfl) rfl rfl rfl (fun _ _ _ h => h) (.cons .here rfl .nil) rfl ?_
          refine RunA.val (i := 8) rfl (by kernel_rfl) (by kernel_rfl) (Val.pure rfl) rfl rfl rfl (fun _ _ _ h => h) (.cons .here rfl .nil) rfl ?_
          refine RunA.val (i := 9) rfl (by kernel_rfl) (by kernel_rfl) (Val.pure rfl) rfl rfl rfl (fun _ _ _ h => h) (.cons .here rfl .nil) rfl ?_
          refine RunA.one (i := 10) (by kernel_rfl) (by kernel_rfl) ?_
          refine RunI.new rfl (New.alloc zero_111) rfl rfl rfl (fun b4 => (RunK.toA (.cons (.there .here) rfl .nil) (.cons .here rfl .nil) rfl ?_))
          refine RunA.one (i := 11) (by kernel_rfl) (by kernel_rfl) ?_
          refine RunI.sto rfl (Sto.store rfl rfl .here ty_111 rfl rfl) rfl rfl (RunK.toA (.cons (.there .here) rfl .nil) (.cons .here rfl .nil) rfl ?_)
          refine RunA.toB (by kernel_rfl) ?_
          refine RunB.one (i := 12) (by kernel_rfl) ?_
          refine RunI.val rfl (Val.pure rfl) rfl rfl rfl (RunK.toB ?_)
          refine RunB.done (by kernel_rfl) ?_
          exact RunE.join1 b4 (Sub.refl _) (Pick.refl _)
        · refine RunI.new rfl (New.alloc zero_111) rfl rfl rfl (fun b4 => (RunK.toA (.cons (.there .here) rfl .nil) (.cons .here rfl .nil) rfl ?_))
          refine RunA.one (i := 6) (by kernel_rfl) (by kernel_rfl) ?_
          refine RunI.callP rfl (isCall_func rfl ent_83) rfl rfl rfl (fun w hm => still_calls p hp q cap wk t hth.1 hth.2 wk bv w (hm.at (.head _))) (RunK.toA (.cons (.there .here) rfl .nil) (.cons .here rfl .nil) rfl ?_)
          refine RunA.val (i := 7) rfl (by kernel_rfl) (by kernel_rfl) (Val.pure rfl) rfl rfl rfl (fun _ _ _ h => h) (.cons (.there .here) rfl .nil) rfl ?_
          refine RunA.val (i := 8) rfl (by kernel_rfl) (by kernel_rfl) (Val.pure rfl) rfl rfl rfl (fun _ _ _ h => h) (.cons (.there .here) rfl .nil) rfl ?_
          refine RunA.val (i := 9) rfl (by kernel_rfl) (by kernel_rfl) (Val.pure rfl) rfl rfl rfl (fun _ _ _ h => h) (.cons (.there .here) rfl .nil) rfl ?_
          refine RunA.one (i := 11) (by kernel_rfl) (by kernel_rfl) ?_
          refine RunI.sto rfl (Sto.store rfl rfl .here ty_111 rfl rfl) rfl rfl (RunK.toA (.cons (.there .here) rfl .nil) (.cons .here rfl .nil) rfl ?_)
          refine RunA.toB (by kernel_rfl) ?_
          refine RunB.one (i := 12) (by kernel_rfl) ?_
          refine RunI.val rfl (Val.pure rfl) rfl rfl rfl (RunK.toB ?_)
          refine RunB.done (by kernel_rfl) ?_
          exact RunE.join1 b4 (Sub.cons (t := 5) rfl (Sub.cons (t := 4) rfl (Sub.cons (t := 58) rfl (Sub.cons (t := 57) rfl (Sub.cons (t := 49) rfl (Sub.cons (t := 56) rfl (Sub.cons (t := 55) rfl (Sub.cons (t := 54) rfl (Sub.cons (t := 53) rfl (Sub.cons (t := 52) rfl (Sub.cons (t := 51) rfl (Sub.cons (t := 50) rfl (Sub.skip rfl (Sub.skip rfl (Sub.skip rfl (Sub.skip rfl (Sub.skip rfl (Sub.skip rfl (Sub.skip rfl (Sub.skip rfl (Sub.skip rfl (Sub.skip rfl (Sub.skip rfl (Sub.skip rfl (Sub.refl _))))))))))))))))))))))))) (.cons .here rfl (.cons .here rfl .nil))
      refine J1.out (fun b4 => ?_)
      refine RunE.next ?_
      refine RunC.seq ?_
      refine RunC.region ?_
      refine RunL.val (Val.pure rfl) rfl rfl rfl ?_
      refine RunL.callT (isCall_func rfl ent_69) rfl rfl rfl (fun w hm => need_calls _ _ w) (fun e60 he60 => ?_) (fun v60 hv60 => ?_)
      · obtain ⟨er60, rfl⟩ := need_err he60
        refine RunE.pass_panic ?_
        refine RunE.block_panic ?_
        refine RunE.pass_panic ?_
        refine RunE.pass_panic ?_
        refine RunE.block_panic ?_
        refine RunE.scope_panic ?_
        exact RunE.panicTU (by rw [lookX, hl0, look_fail hk ht hwk (by simp [lookL, c1', er60])])
      obtain ⟨ok60, rfl⟩ := need_ok hv60
      refine RunL.nil ?_
      refine RunE.next ?_
      refine RunC.region ?_
      refine RunL.val (Val.pure rfl) rfl rfl rfl ?_
      refine RunL.val (Val.load_agg rfl (.tail _ (.head _)) ty_111 rfl) rfl rfl rfl ?_
      refine RunL.val (Val.pure rfl) rfl rfl rfl ?_
      refine RunL.val (Val.fieldAddr rfl fld_113_1) rfl rfl rfl ?_
      refine RunL.sto (Sto.store_chg rfl rfl .here ty_111 rfl rfl) rfl rfl ?_
      refine RunL.nil ?_
      refine RunE.block_normal ?_
      refine RunE.next ?_
      refine RunC.region ?_
      refine RunL.val (Val.add rfl rfl (IntWalk.i64_in _ ⟨by omega, by omega⟩)) rfl rfl rfl ?_
      refine RunL.val (Val.pure rfl) rfl rfl rfl ?_
      refine RunL.nil ?_
      exact RunE.round (by omega) (by first | (simp [look_step hk ht hwk, lookL, c1']; done) | simp [look_step hk ht hwk, lookL, c1', ok60]) (by first | (simp [look_step hk ht hwk, lookL, c1']; done) | (simp [look_step hk ht hwk, lookL, c1', ok60]; done) | (simp [look_step hk ht hwk, lookL, c1', ok60]; rfl)) (Sub.consE (t := 42) rfl rfl (Sub.cons (t := 0) rfl (Sub.cons (t := 40) rfl (Sub.cons (t := 41) rfl (Sub.nil _))))) .nil
  · intro c0
    have c0' := c0; clear c0
    try simp only [decide_eq_true_eq, decide_eq_false_iff_not, Bool.not_eq_true', Bool.not_eq_false', Bool.and_eq_true, Bool.or_eq_true, Bool.and_eq_false_iff, Bool.or_eq_false_iff, Int.not_le, Int.not_lt] at c0'
    obtain rfl : k = p.things.length := by omega
    rw [List.take_length] at hwk
    refine RunC.exit ?_
    refine RunE.pass_exit ?_
    refine RunE.pass_exit ?_
    refine RunE.block_here ?_
    refine RunE.scope_normal ?_
    exact RunE.finTU (.r0 rfl) (a := wk) (by rw [lookX, hl0, hwk]) rfl rfl
theorem truths_calls (p : Pr) (q : Option Addr) (b o cap : Nat) (l : List Int) (q2 : Option Addr) (bb oo cap2 : Nat) (W : World) (hS : Sl W q b o 9 (p.things.map Th.cells)) (hl : p.things.length ≤ 100000000000) (hL : Sl W q2 bb oo 1 (l.map fun n => [.int .i64 n])) (hl2 : l.length ≤ 100000) :
    Calls Tryz.prog 82 #[p.v q cap, .slice q2 l.length cap2] W (TryN misf (truthsX p l) (fun _ b => .pointer (some ⟨b, 0, none⟩)) (fun w b => [(b, .cells (vwCells p q cap w).toArray 113 (0, 0))]) W) := by
  refine calls_start Tryz.func82 rfl rfl ?_
  refine RunC.seq ?_
  refine RunC.region ?_
  refine RunL.new (New.box rfl) rfl rfl rfl (fun b2 => ?_)
  refine RunL.val (Val.pure rfl) rfl rfl rfl ?_
  refine RunL.nil ?_
  refine RunE.next ?_
  refine RunC.seq ?_
  refine RunC.region ?_
  refine RunL.val (Val.load_agg rfl (.head _) ty_26 rfl) rfl rfl rfl ?_
  refine RunL.val (Val.pure rfl) rfl rfl rfl ?_
  refine RunL.callTN (isCall_func rfl ent_68) rfl rfl rfl (fun w hm => open_calls p q b o cap l q2 bb oo cap2 w (hS.mono (by decide) hm (by simp)) hl (hL.mono (by decide) hm (by simp)) hl2) (fun e8 he8 => ?_) (fun a8 ha8 b8 => ?_)
  · refine RunE.pass_panic ?_
    exact RunE.panicTN (by simp [truthsX, he8])
  refine RunL.val (Val.pure rfl) rfl rfl rfl ?_
  refine RunL.nil ?_
  refine RunE.next ?_
  refine RunC.seq ?_
  refine RunC.region ?_
  refine RunL.val (Val.pure rfl) rfl rfl rfl ?_
  refine RunL.callTU (isCall_func rfl ent_71) rfl rfl rfl (fun _ => .here) (fun w hm => look_calls p (isPair_ok (openX_ok ha8).1) q b o cap (0, 0) _ w (hm.at (.head _)) (hS.mono (by decide) hm (by simp)) (hS.ne (by decide) hm (.head _))) (fun e10 he10 o10 => ?_) (fun a10 ha10 => ?_)
  · refine RunE.pass_panic ?_
    exact RunE.panicTN (by simp [truthsX, ha8, he10])
  refine RunL.nil ?_
  refine RunE.next ?_
  refine RunC.seq ?_
  refine RunC.region ?_
  refine RunL.val (Val.pure rfl) rfl rfl rfl ?_
  refine RunL.val (Val.pure rfl) rfl rfl rfl ?_
  refine RunL.nil ?_
  refine RunE.next ?_
  refine RunC.ret ?_
  exact RunE.retTN (a := a10) b8 (.r1 rfl (.tmp rfl)) (by simp [truthsX, ha8, ha10]) rfl (.cons .here rfl .nil)
end Go.Proofs.YthoheicppmbepaaGreat
