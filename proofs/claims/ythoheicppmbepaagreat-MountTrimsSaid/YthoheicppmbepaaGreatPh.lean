/- Walks of package pair: Why, Distance. -/
import Derived.Test.YthoheicppmbepaaGreatPg
import Derived.Test.YthoheicppmbepaaGreatSpec2
set_option linter.unusedSimpArgs false
set_option linter.unusedVariables false
namespace Go.Proofs.YthoheicppmbepaaGreat
open Go Go.Eng Go.Pw1

theorem reasons_calls (p : Pr) (hp : p.Ok) (q : Option Addr) (cap : Nat) (pw : Int × Int) (t : Th) (ht : t.Ok) (bv bs b6 b7 : Nat) (W : World) (hV : W.heap[bv]? = some (.cells (vwCells p q cap pw).toArray 113 (0, 0)))
    (hR : W.heap[bs]? = some (.cells [.func (.func 84) #[] #[], .func (.func 85) #[] #[], .func (.func 86) #[] #[], .func (.func 87) #[] #[]].toArray 131 (0, 0)))
    (h6 : W.heap[b6]? = some (.cells [.pointer (some ⟨bv, 0, none⟩)].toArray 108 (0, 0))) (h7 : W.heap[b7]? = some (.cells t.cells.toArray 76 (0, 0))) :
    Calls Tryz.prog 88 #[.slice (some ⟨bs, 0, none⟩) 4 4, .func (.func 89) #[] #[.pointer (some ⟨b6, 0, none⟩), .pointer (some ⟨b7, 0, none⟩)]] W
      (Pure (.int .i64 (idxF id [!levelS p t, decide ((shift t).2 < 0), decide (2000 < (shift t).1 ∨ pw.2 < (shift t).1 * p.near), true])) W) :=
  indexFuncR_calls [(.func (.func 84) #[] #[], !levelS p t), (.func (.func 85) #[] #[], decide ((shift t).2 < 0)), (.func (.func 86) #[] #[], decide (2000 < (shift t).1 ∨ pw.2 < (shift t).1 * p.near)), (.func (.func 87) #[] #[], true)]
    (some ⟨bs, 0, none⟩) bs 0 4 89 [.pointer (some ⟨b6, 0, none⟩), .pointer (some ⟨b7, 0, none⟩)] W (Sl.row1 hR) (by simp) ent_89 (fun e he w hm => by
      simp only [List.mem_cons, List.not_mem_nil, or_false] at he
      rcases he with rfl | rfl | rfl | rfl
      · exact why1_calls _ _ t _ b6 b7 w (hm.old_at h6 (by simp)) (hm.old_at h7 (by simp)) ent_84 (fun w2 hm2 => rows_calls p hp q cap pw t ht bv w2 (hm2.old_at (hm.old_at hV (by simp)) (by simp)))
      · exact why1_calls _ _ t _ b6 b7 w (hm.old_at h6 (by simp)) (hm.old_at h7 (by simp)) ent_85 (fun w2 hm2 => behind_calls t ht _ w2)
      · exact why1_calls _ _ t _ b6 b7 w (hm.old_at h6 (by simp)) (hm.old_at h7 (by simp)) ent_86 (fun w2 hm2 => close_calls p hp q cap pw t ht bv w2 (hm2.old_at (hm.old_at hV (by simp)) (by simp)))
      · exact why1_calls _ _ t _ b6 b7 w (hm.old_at h6 (by simp)) (hm.old_at h7 (by simp)) ent_87 (fun w2 hm2 => away_calls t _ w2))
theorem Why_calls (p : Pr) (n : Int) (q : Option Addr) (b o cap : Nat) (W : World) (hS : Sl W q b o 9 (p.things.map Th.cells)) (hl : p.things.length ≤ 100000000000) :
    Calls Tryz.prog 59 #[p.v q cap, .int .i64 n] W (Pure (.tuple #[.int .i64 (whyX p n).1, .int .i64 (whyX p n).2]) W) := by
  refine calls_start_defers Tryz.func59 rfl rfl ?_
  refine RunC.seq ?_
  refine RunC.region ?_
  refine RunL.new (New.box rfl) rfl rfl rfl (fun b2 => ?_)
  refine RunL.val (Val.pure rfl) rfl rfl rfl ?_
  refine RunL.new (New.alloc zero_32) rfl rfl rfl (fun b5 => ?_)
  refine RunL.nil ?_
  refine RunE.next ?_
  refine RunC.seq ?_
  refine RunC.region ?_
  refine RunL.defer rfl ?_
  refine RunL.nil ?_
  refine RunE.next ?_
  refine RunC.seq ?_
  refine RunC.region ?_
  refine RunL.val (Val.load_agg rfl (.tail _ (.head _)) ty_26 rfl) rfl rfl rfl ?_
  refine RunL.val (Val.pure rfl) rfl rfl rfl ?_
  refine RunL.new (New.buildSlice (parts := [(0, .tmp 12)]) rfl sl_55 zero_3 rfl rfl rfl rfl) rfl rfl rfl (fun b13 => ?_)
  refine RunL.callTN (isCall_func rfl ent_82) rfl rfl rfl (fun w hm => truths_calls p q b o cap [_] _ _ _ _ w (hS.mono (by decide) hm (by simp)) hl (Sl.row1 (hm.at (.head _))) (by simp)) (fun e14 he14 => ?_) (fun a14 ha14 b14 => ?_)
  · refine RunE.pass_panic ?_
    exact RunE.panD catches ent_67 (.there .here) (.r2 rfl (.tmp rfl) (.one rfl (.tail _ (.head _)) ty_32 rfl)) (by simp [whyX, he14])
  obtain ⟨hp, hop, wb1, wb2, wb3⟩ := truths_bd ha14
  obtain ⟨k, rfl, hk⟩ := openX_in hop (List.mem_singleton.2 rfl)
  obtain ⟨t, ht⟩ : ∃ t, p.things[k] = t := ⟨_, rfl⟩
  have hth := hp.ths _ (List.getElem_mem hk)
  rw [ht] at hth
  refine RunL.new (New.alloc zero_108) rfl rfl rfl (fun b6 => ?_)
  refine RunL.sto (Sto.store rfl rfl .here ty_108 rfl rfl) rfl rfl ?_
  refine RunL.nil ?_
  refine RunE.next ?_
  refine RunC.seq ?_
  refine RunC.region ?_
  refine RunL.val (Val.load_one rfl (.head _) ty_108 rfl) rfl rfl rfl ?_
  refine RunL.val (Val.pure rfl) rfl rfl rfl ?_
  refine RunL.val (Val.fieldAddr rfl fld_113_0) rfl rfl rfl ?_
  refine RunL.val (Val.fieldAddr rfl fld_26_5) rfl rfl rfl ?_
  refine RunL.val (Val.load_one rfl (.tail _ (.head _)) ty_24 rfl) rfl rfl rfl ?_
  refine RunL.val (Val.pure rfl) rfl rfl rfl ?_
  refine RunL.val (Val.indexAddr_slp rfl rfl sl_24 (by omega) (by omega) (hS.ptrM hk)) rfl rfl rfl ?_
  refine RunL.val (Val.load_gen rfl (fun w hm => hS.loadX (by decide) hm (by simp) ty_76 hk ht)) rfl rfl rfl ?_
  refine RunL.new (New.alloc zero_76) rfl rfl rfl (fun b7 => ?_)
  refine RunL.sto (Sto.store rfl rfl .here ty_76 rfl rfl) rfl rfl ?_
  refine RunL.nil ?_
  refine RunE.next ?_
  refine RunC.seq ?_
  refine RunC.seq ?_
  apply RunC.drawNJ (J := J1 _ _ _ _ _ _) 12 fol_ (.cons .here rfl (.cons .here rfl (.cons .here rfl (.cons .here rfl (.cons .here rfl (.cons .here rfl .nil))))))
  · refine RunA.val (i := 0) rfl (by kernel_rfl) (by kernel_rfl) (Val.load_one rfl (.tail _ (.head _)) ty_108 rfl) rfl rfl rfl (fun _ _ _ h => h) (.cons .here rfl (.cons .here rfl (.cons .here rfl (.cons .here rfl (.cons .here rfl (.cons .here rfl .nil)))))) rfl ?_
    refine RunA.val (i := 1) rfl (by kernel_rfl) (by kernel_rfl) (Val.load_agg rfl (.head _) ty_76 rfl) rfl rfl rfl (fun _ _ _ h => h) (.cons .here rfl (.cons .here rfl (.cons .here rfl (.cons .here rfl (.cons .here rfl (.cons .here rfl .nil)))))) rfl ?_
    refine RunA.val (i := 2) rfl (by kernel_rfl) (by kernel_rfl) (Val.load_one rfl (.tail _ (.head _)) ty_108 rfl) rfl rfl rfl (fun _ _ _ h => h) (.cons .here rfl (.cons .here rfl (.cons .here rfl (.cons .here rfl (.cons .here rfl (.cons .here rfl .nil)))))) rfl ?_
    refine RunA.val (i := 3) rfl (by kernel_rfl) (by kernel_rfl) (Val.pure rfl) rfl rfl rfl (fun _ _ _ h => h) (.cons .here rfl (.cons .here rfl (.cons .here rfl (.cons .here rfl (.cons .here rfl (.cons .here rfl .nil)))))) rfl ?_
    refine RunA.val (i := 4) rfl (by kernel_rfl) (by kernel_rfl) (Val.fieldAddr rfl fld_113_1) rfl rfl rfl (fun _ _ _ h => h) (.cons .here rfl (.cons .here rfl (.cons .here rfl (.cons .here rfl (.cons .here rfl (.cons .here rfl .nil)))))) rfl ?_
    refine RunA.val (i := 5) rfl (by kernel_rfl) (by kernel_rfl) (Val.load_agg rfl (.tail _ (.tail _ (.head _))) ty_111 rfl) rfl rfl rfl (fun _ _ _ h => h) (.cons .here rfl (.cons .here rfl (.cons .here rfl (.cons .here rfl (.cons .here rfl (.cons .here rfl .nil)))))) rfl ?_
    refine RunA.all (rs := [6, 10]) (by kernel_rfl) (by simp) (by kernel_rfl) (fun m hm => ?_)
    simp only [List.mem_cons, List.not_mem_nil, or_false] at hm
    rcases hm with rfl | rfl
    · refine RunI.callP rfl (isCall_func rfl ent_83) rfl rfl rfl (fun w hm => still_calls p hp q cap a14 t hth.1 hth.2 a14 _ w (hm.at (.tail _ (.tail _ (.head _))))) (RunK.toA (.cons .here rfl (.cons .here rfl (.cons .here rfl (.cons .here rfl (.cons .here rfl (.cons .here rfl .nil)))))) (.cons .here rfl (.cons .here rfl (.cons .here rfl (.cons .here rfl (.cons .here rfl (.cons .here rfl .nil)))))) rfl ?_)
      refine RunA.val (i := 7) rfl (by kernel_rfl) (by kernel_rfl) (Val.pure rfl) rfl rfl rfl (fun _ _ _ h => h) (.cons .here rfl (.cons .here rfl (.cons .here rfl (.cons .here rfl (.cons .here rfl (.cons .here rfl .nil)))))) rfl ?_
      refine RunA.val (i := 8) rfl (by kernel_rfl) (by kernel_rfl) (Val.pure rfl) rfl rfl rfl (fun _ _ _ h => h) (.cons .here rfl (.cons .here rfl (.cons .here rfl (.cons .here rfl (.cons .here rfl (.cons .here rfl .nil)))))) rfl ?_
      refine RunA.val (i := 9) rfl (by kernel_rfl) (by kernel_rfl) (Val.pure rfl) rfl rfl rfl (fun _ _ _ h => h) (.cons .here rfl (.cons .here rfl (.cons .here rfl (.cons .here rfl (.cons .here rfl (.cons .here rfl .nil)))))) rfl ?_
      refine RunA.one (i := 10) (by kernel_rfl) (by kernel_rfl) ?_
      refine RunI.new rfl (New.alloc zero_111) rfl rfl rfl (fun b8 => (RunK.toA (.cons (.there .here) rfl (.cons (.there .here) rfl (.cons (.there .here) rfl (.cons (.there .here) rfl (.cons (.there .here) rfl (.cons (.there .here) rfl .nil)))))) (.cons .here rfl (.cons .here rfl (.cons .here rfl (.cons .here rfl (.cons .here rfl (.cons .here rfl .nil)))))) rfl ?_))
      refine RunA.one (i := 11) (by kernel_rfl) (by kernel_rfl) ?_
      refine RunI.sto rfl (Sto.store rfl rfl .here ty_111 rfl rfl) rfl rfl (RunK.toA (.cons (.there .here) rfl (.cons (.there .here) rfl (.cons (.there .here) rfl (.cons (.there .here) rfl (.cons (.there .here) rfl (.cons (.there .here) rfl .nil)))))) (.cons .here rfl (.cons .here rfl (.cons .here rfl (.cons .here rfl (.cons .here rfl (.cons .here rfl .nil)))))) rfl ?_)
      refine RunA.toB (by kernel_rfl) ?_
      refine RunB.one (i := 12) (by kernel_rfl) ?_
      refine RunI.val rfl (Val.pure rfl) rfl rfl rfl (RunK.toB ?_)
      refine RunB.done (by kernel_rfl) ?_
      refine RunE.noPan ?_
      exact RunE.join1 b8 (Sub.refl _) (Pick.refl _)
    · refine RunI.new rfl (New.alloc zero_111) rfl rfl rfl (fun b8 => (RunK.toA (.cons (.there .here) rfl (.cons (.there .here) rfl (.cons (.there .here) rfl (.cons (.there .here) rfl (.cons (.there .here) rfl (.cons (.there .here) rfl .nil)))))) (.cons .here rfl (.cons .here rfl (.cons .here rfl (.cons .here rfl (.cons .here rfl (.cons .here rfl .nil)))))) rfl ?_))
      refine RunA.one (i := 6) (by kernel_rfl) (by kernel_rfl) ?_
      refine RunI.callP rfl (isCall_func rfl ent_83) rfl rfl rfl (fun w hm => still_calls p hp q cap a14 t hth.1 hth.2 a14 _ w (hm.at (.tail _ (.tail _ (.tail _ (.head _)))))) (RunK.toA (.cons (.there .here) rfl (.cons (.there .here) rfl (.cons (.there .here) rfl (.cons (.there .here) rfl (.cons (.there .here) rfl (.cons (.there .here) rfl .nil)))))) (.cons .here rfl (.cons .here rfl (.cons .here rfl (.cons .here rfl (.cons .here rfl (.cons .here rfl .nil)))))) rfl ?_)
      refine RunA.val (i := 7) rfl (by kernel_rfl) (by kernel_rfl) (Val.pure rfl) rfl rfl rfl (fun _ _ _ h => h) (.cons (.there .here) rfl (.cons (.there .here) rfl (.cons (.there .here) rfl (.cons (.there .here) rfl (.cons (.there .here) rfl (.cons (.there .here) rfl .nil)))))) rfl ?_
      refine RunA.val (i := 8) rfl (by kernel_rfl) (by kernel_rfl) (Val.pure rfl) rfl rfl rfl (fun _ _ _ h => h) (.cons (.there .here) rfl (.cons (.there .here) rfl (.cons (.there .here) rfl (.cons (.there .here) rfl (.cons (.there .here) rfl (.cons (.there .here) rfl .nil)))))) rfl ?_
      refine RunA.val (i := 9) rfl (by kernel_rfl) (by kernel_rfl) (Val.pure rfl) rfl rfl rfl (fun _ _ _ h => h) (.cons (.there .here) rfl (.cons (.there .here) rfl (.cons (.there .here) rfl (.cons (.there .here) rfl (.cons (.there .here) rfl (.cons (.there .here) rfl .nil)))))) rfl ?_
      refine RunA.one (i := 11) (by kernel_rfl) (by kernel_rfl) ?_
      refine RunI.sto rfl (Sto.store rfl rfl .here ty_111 rfl rfl) rfl rfl (RunK.toA (.cons (.there .here) rfl (.cons (.there .here) rfl (.cons (.there .here) rfl (.cons (.there .here) rfl (.cons (.there .here) rfl (.cons (.there .here) rfl .nil)))))) (.cons .here rfl (.cons .here rfl (.cons .here rfl (.cons .here rfl (.cons .here rfl (.cons .here rfl .nil)))))) rfl ?_)
      refine RunA.toB (by kernel_rfl) ?_
      refine RunB.one (i := 12) (by kernel_rfl) ?_
      refine RunI.val rfl (Val.pure rfl) rfl rfl rfl (RunK.toB ?_)
      refine RunB.done (by kernel_rfl) ?_
      refine RunE.noPan ?_
      exact RunE.join1 b8 (Sub.cons (t := 9) rfl (Sub.cons (t := 8) rfl (Sub.cons (t := 32) rfl (Sub.cons (t := 31) rfl (Sub.cons (t := 23) rfl (Sub.cons (t := 30) rfl (Sub.cons (t := 29) rfl (Sub.cons (t := 28) rfl (Sub.cons (t := 27) rfl (Sub.cons (t := 26) rfl (Sub.cons (t := 25) rfl (Sub.cons (t := 24) rfl (Sub.skip rfl (Sub.skip rfl (Sub.skip rfl (Sub.skip rfl (Sub.skip rfl (Sub.skip rfl (Sub.skip rfl (Sub.skip rfl (Sub.skip rfl (Sub.skip rfl (Sub.skip rfl (Sub.skip rfl (Sub.refl _))))))))))))))))))))))))) (.cons .here rfl (.cons .here rfl (.cons .here rfl (.cons .here rfl (.cons .here rfl (.cons .here rfl (.cons .here rfl .nil)))))))
  refine J1.out (fun b8 => ?_)
  refine RunE.next ?_
  refine RunC.seq ?_
  refine RunC.region ?_
  refine RunL.val (Val.pure rfl) rfl rfl rfl ?_
  refine RunL.nil ?_
  refine RunE.next ?_
  refine RunC.cond rfl ?_ ?_
  · intro c0
    have c0' := c0; clear c0
    try simp only [decide_eq_true_eq, decide_eq_false_iff_not, Bool.not_eq_true', Bool.not_eq_false', Bool.and_eq_true, Bool.or_eq_true, Bool.and_eq_false_iff, Bool.or_eq_false_iff, Int.not_le, Int.not_lt] at c0'
    refine RunC.seq ?_
    refine RunC.region ?_
    refine RunL.val (Val.pure rfl) rfl rfl rfl ?_
    refine RunL.sto (Sto.store rfl rfl (.there (.there (.there (.there (.there .here))))) ty_32 rfl rfl) rfl rfl ?_
    refine RunL.nil ?_
    refine RunE.next ?_
    refine RunC.ret ?_
    refine RunE.pass_ret ?_
    exact RunE.retD catches ent_67 (.r2 rfl (.tmp rfl) (.one rfl (.tail _ (.tail _ (.tail _ (.tail _ (.tail _ (.head _)))))) ty_32 rfl)) (by simp [whyX, ha14, thingAt_eq hk ht, whyS, c0'])
  · intro c0
    have c0' := c0; clear c0
    try simp only [decide_eq_true_eq, decide_eq_false_iff_not, Bool.not_eq_true', Bool.not_eq_false', Bool.and_eq_true, Bool.or_eq_true, Bool.and_eq_false_iff, Bool.or_eq_false_iff, Int.not_le, Int.not_lt] at c0'
    refine RunC.skip ?_
    refine RunE.next ?_
    refine RunC.seq ?_
    refine RunC.region ?_
    refine RunL.new (New.buildSlice (parts := [(0, .func 84), (1, .func 85), (2, .func 86), (3, .func 87)]) rfl sl_129 zero_131 rfl rfl rfl rfl) rfl rfl rfl (fun b34 => ?_)
    refine RunL.val (Val.pure rfl) rfl rfl rfl ?_
    refine RunL.nil ?_
    refine RunE.next ?_
    refine RunC.seq ?_
    refine RunC.region ?_
    refine RunL.val (Val.pure rfl) rfl rfl rfl ?_
    refine RunL.val (Val.pure rfl) rfl rfl rfl ?_
    refine RunL.callP (isCall_func rfl ent_88) rfl rfl rfl (fun w hm => reasons_calls p hp q cap a14 t hth.1 _ _ _ _ w (hm.at (.tail _ (.tail _ (.tail _ (.tail _ (.head _)))))) (hm.at (.head _)) (hm.at (.tail _ (.tail _ (.tail _ (.head _))))) (hm.at (.tail _ (.tail _ (.head _))))) ?_
    have ig := idxF_ge id [!levelS p t, decide ((shift t).2 < 0), decide (2000 < (shift t).1 ∨ a14.2 < (shift t).1 * p.near), true]
    have il := idxF_lt id [!levelS p t, decide ((shift t).2 < 0), decide (2000 < (shift t).1 ∨ a14.2 < (shift t).1 * p.near), true]
    simp only [List.length_cons, List.length_nil] at il
    refine RunL.val (Val.add rfl rfl (IntWalk.i64_in _ ⟨by omega, by omega⟩)) rfl rfl rfl ?_
    refine RunL.val (Val.pure rfl) rfl rfl rfl ?_
    refine RunL.sto (Sto.store rfl rfl (.there (.there (.there (.there (.there (.there .here)))))) ty_32 rfl rfl) rfl rfl ?_
    refine RunL.nil ?_
    refine RunE.next ?_
    refine RunC.ret ?_
    exact RunE.retD catches ent_67 (.r2 rfl (.tmp rfl) (.one rfl (.tail _ (.tail _ (.tail _ (.tail _ (.tail _ (.tail _ (.head _))))))) ty_32 rfl)) (by simp only [whyX, ha14, thingAt_eq hk ht, whyS, c0', Bool.false_eq_true, if_false])
end Go.Proofs.YthoheicppmbepaaGreat
