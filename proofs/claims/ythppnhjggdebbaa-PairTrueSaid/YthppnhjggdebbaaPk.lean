/- Walk of package pair: Fewest. -/
import Derived.Test.YthppnhjggdebbaaPj
set_option linter.unusedSimpArgs false
set_option linter.unusedVariables false
namespace Go.Proofs.Ythppnhjggdebbaa
open Go Go.Eng Go.Pw1

theorem Fewest_calls (p : Pr) (q : Option Addr) (b o cap : Nat) (W : World) (hS : Sl W q b o 9 (p.things.map Th.cells)) (hl : p.things.length ≤ 100000000000) :
    Calls Try.prog 25 #[p.v q cap] W (Pure (.tuple #[.int .i64 (fewestX p).1, b2v (fewestX p).2.1, .int .i64 (fewestX p).2.2]) W) := by
  refine calls_start_marks Try.func25 rfl rfl ?_
  refine RunC.seq ?_
  refine RunC.region ?_
  refine RunL.new (New.box rfl) rfl rfl rfl (fun b1 => ?_)
  refine RunL.val (Val.pure rfl) rfl rfl rfl ?_
  refine RunL.new (New.alloc zero_23) rfl rfl rfl (fun b3 => ?_)
  refine RunL.new (New.alloc zero_28) rfl rfl rfl (fun b4 => ?_)
  refine RunL.nil ?_
  refine RunE.next ?_
  refine RunC.seq ?_
  refine RunC.region ?_
  refine RunL.defer rfl ?_
  refine RunL.nil ?_
  refine RunE.next ?_
  refine RunC.seq ?_
  refine RunC.region ?_
  refine RunL.val (Val.load_agg rfl (.tail _ (.tail _ (.head _))) ty_26 rfl) rfl rfl rfl ?_
  refine RunL.callTN (isCall_func rfl ent_47) rfl rfl rfl (fun w hm => truths_calls p q b o cap [] _ 0 0 _ w (hS.mono (by decide) hm (by simp)) hl Sl.emp (by simp)) (fun e14 he14 => ?_) (fun a14 ha14 b14 => ?_)
  · refine RunE.pass_panic ?_
    exact RunE.panM catchesIn ent_41 .here (.r3 rfl (.tmp rfl) (.agg rfl (.tail _ (.head _)) ty_23 rfl) (.one rfl (.head _) ty_28 rfl)) (by simp [fewestX, he14, b2v])
  obtain ⟨hp, hop, wb1, wb2, wb3⟩ := truths_bd ha14
  have hlen := hp.len
  refine RunL.new (New.alloc zero_73) rfl rfl rfl (fun b5 => ?_)
  refine RunL.sto (Sto.store rfl rfl .here ty_73 rfl rfl) rfl rfl ?_
  refine RunL.nil ?_
  refine RunE.next ?_
  refine RunC.seq ?_
  apply RunC.drawNJ (J := J1 _ _ _ _ _ _) 9 fol_ (.cons .here rfl (.cons .here rfl (.cons .here rfl (.cons .here rfl (.cons .here rfl .nil)))))
  · refine RunA.val (i := 0) rfl (by kernel_rfl) (by kernel_rfl) (Val.load_one rfl (.head _) ty_73 rfl) rfl rfl rfl (fun _ _ _ h => h) (.cons .here rfl (.cons .here rfl (.cons .here rfl (.cons .here rfl (.cons .here rfl .nil))))) rfl ?_
    refine RunA.val (i := 1) rfl (by kernel_rfl) (by kernel_rfl) (Val.load_one rfl (.head _) ty_73 rfl) rfl rfl rfl (fun _ _ _ h => h) (.cons .here rfl (.cons .here rfl (.cons .here rfl (.cons .here rfl (.cons .here rfl .nil))))) rfl ?_
    refine RunA.val (i := 2) rfl (by kernel_rfl) (by kernel_rfl) (Val.pure rfl) rfl rfl rfl (fun _ _ _ h => h) (.cons .here rfl (.cons .here rfl (.cons .here rfl (.cons .here rfl (.cons .here rfl .nil))))) rfl ?_
    refine RunA.val (i := 3) rfl (by kernel_rfl) (by kernel_rfl) (Val.fieldAddr rfl fld_72_1) rfl rfl rfl (fun _ _ _ h => h) (.cons .here rfl (.cons .here rfl (.cons .here rfl (.cons .here rfl (.cons .here rfl .nil))))) rfl ?_
    refine RunA.val (i := 4) rfl (by kernel_rfl) (by kernel_rfl) (Val.indexAddr_arr rfl rfl arr_70 (by decide) (by decide)) rfl rfl rfl (fun _ _ _ h => h) (.cons .here rfl (.cons .here rfl (.cons .here rfl (.cons .here rfl (.cons .here rfl .nil))))) rfl ?_
    refine RunA.val (i := 5) rfl (by kernel_rfl) (by kernel_rfl) (Val.load_one rfl (.tail _ (.head _)) ty_3 rfl) rfl rfl rfl (fun _ _ _ h => h) (.cons .here rfl (.cons .here rfl (.cons .here rfl (.cons .here rfl (.cons .here rfl .nil))))) rfl ?_
    refine RunA.all (rs := [6, 8]) (by kernel_rfl) (by simp) (by kernel_rfl) (fun m hm => ?_)
    simp only [List.mem_cons, List.not_mem_nil, or_false] at hm
    rcases hm with rfl | rfl
    · refine RunI.callP rfl (isCall_func rfl ent_67) rfl rfl rfl (fun w hm => moved_calls p hp q b o cap a14 _ b14 w (hm.at (.tail _ (.head _))) (hS.mono (by decide) hm (by simp))) (RunK.toA (.cons .here rfl (.cons .here rfl (.cons .here rfl (.cons .here rfl (.cons .here rfl .nil))))) (.cons .here rfl (.cons .here rfl (.cons .here rfl (.cons .here rfl (.cons .here rfl .nil))))) rfl ?_)
      refine RunA.all (rs := [7, 8]) (by kernel_rfl) (by simp) (by kernel_rfl) (fun m hm => ?_)
      simp only [List.mem_cons, List.not_mem_nil, or_false] at hm
      rcases hm with rfl | rfl
      · refine RunI.callP rfl (isCall_func rfl ent_66) rfl rfl rfl (fun w hm => rankOf_calls (movedS p a14.1) (movedS_lt hp _) w) (RunK.toA (.cons .here rfl (.cons .here rfl (.cons .here rfl (.cons .here rfl (.cons .here rfl .nil))))) (.cons .here rfl (.cons .here rfl (.cons .here rfl (.cons .here rfl (.cons .here rfl .nil))))) rfl ?_)
        refine RunA.one (i := 8) (by kernel_rfl) (by kernel_rfl) ?_
        refine RunI.new rfl (New.alloc zero_96) rfl rfl rfl (fun b6 => (RunK.toA (.cons .here rfl (.cons .here rfl (.cons .here rfl (.cons .here rfl (.cons .here rfl (.cons .here rfl .nil)))))) (.cons (.there .here) rfl (.cons (.there .here) rfl (.cons (.there .here) rfl (.cons (.there .here) rfl (.cons (.there .here) rfl .nil))))) rfl ?_))
        refine RunA.toB (by kernel_rfl) ?_
        refine RunB.one (i := 9) (by kernel_rfl) ?_
        refine RunI.sto rfl (Sto.store rfl rfl .here ty_96 rfl rfl) rfl rfl (RunK.toB ?_)
        refine RunB.done (by kernel_rfl) ?_
        refine RunE.noPan ?_
        exact RunE.join1 b6 (Sub.refl _) (Pick.refl _)
      · refine RunI.new rfl (New.alloc zero_96) rfl rfl rfl (fun b6 => (RunK.toA (.cons .here rfl (.cons .here rfl (.cons .here rfl (.cons .here rfl (.cons .here rfl (.cons .here rfl .nil)))))) (.cons (.there .here) rfl (.cons (.there .here) rfl (.cons (.there .here) rfl (.cons (.there .here) rfl (.cons (.there .here) rfl .nil))))) rfl ?_))
        refine RunA.one (i := 7) (by kernel_rfl) (by kernel_rfl) ?_
        refine RunI.callP rfl (isCall_func rfl ent_66) rfl rfl rfl (fun w hm => rankOf_calls (movedS p a14.1) (movedS_lt hp _) w) (RunK.toA (.cons .here rfl (.cons .here rfl (.cons .here rfl (.cons .here rfl (.cons .here rfl (.cons .here rfl .nil)))))) (.cons .here rfl (.cons .here rfl (.cons .here rfl (.cons .here rfl (.cons .here rfl (.cons .here rfl .nil)))))) rfl ?_)
        refine RunA.toB (by kernel_rfl) ?_
        refine RunB.one (i := 9) (by kernel_rfl) ?_
        refine RunI.sto rfl (Sto.store rfl rfl .here ty_96 rfl rfl) rfl rfl (RunK.toB ?_)
        refine RunB.done (by kernel_rfl) ?_
        refine RunE.noPan ?_
        exact RunE.join1 b6 (Sub.cons (t := 6) rfl (Sub.cons (t := 22) rfl (Sub.cons (t := 21) rfl (Sub.cons (t := 20) rfl (Sub.cons (t := 19) rfl (Sub.cons (t := 18) rfl (Sub.cons (t := 17) rfl (Sub.cons (t := 16) rfl (Sub.cons (t := 15) rfl (Sub.skip rfl (Sub.skip rfl (Sub.skip rfl (Sub.skip rfl (Sub.skip rfl (Sub.skip rfl (Sub.skip rfl (Sub.skip rfl (Sub.skip rfl (Sub.refl _))))))))))))))))))) (.cons .here rfl (.cons .here rfl (.cons .here rfl (.cons .here rfl (.cons .here rfl (.cons .here rfl .nil))))))
    · refine RunI.new rfl (New.alloc zero_96) rfl rfl rfl (fun b6 => (RunK.toA (.cons .here rfl (.cons .here rfl (.cons .here rfl (.cons .here rfl (.cons .here rfl (.cons .here rfl .nil)))))) (.cons (.there .here) rfl (.cons (.there .here) rfl (.cons (.there .here) rfl (.cons (.there .here) rfl (.cons (.there .here) rfl .nil))))) rfl ?_))
      refine RunA.one (i := 6) (by kernel_rfl) (by kernel_rfl) ?_
      refine RunI.callP rfl (isCall_func rfl ent_67) rfl rfl rfl (fun w hm => moved_calls p hp q b o cap a14 _ b14 w (hm.at (.tail _ (.tail _ (.head _)))) (hS.mono (by decide) hm (by simp))) (RunK.toA (.cons .here rfl (.cons .here rfl (.cons .here rfl (.cons .here rfl (.cons .here rfl (.cons .here rfl .nil)))))) (.cons .here rfl (.cons .here rfl (.cons .here rfl (.cons .here rfl (.cons .here rfl (.cons .here rfl .nil)))))) rfl ?_)
      refine RunA.one (i := 7) (by kernel_rfl) (by kernel_rfl) ?_
      refine RunI.callP rfl (isCall_func rfl ent_66) rfl rfl rfl (fun w hm => rankOf_calls (movedS p a14.1) (movedS_lt hp _) w) (RunK.toA (.cons .here rfl (.cons .here rfl (.cons .here rfl (.cons .here rfl (.cons .here rfl (.cons .here rfl .nil)))))) (.cons .here rfl (.cons .here rfl (.cons .here rfl (.cons .here rfl (.cons .here rfl (.cons .here rfl .nil)))))) rfl ?_)
      refine RunA.toB (by kernel_rfl) ?_
      refine RunB.one (i := 9) (by kernel_rfl) ?_
      refine RunI.sto rfl (Sto.store rfl rfl .here ty_96 rfl rfl) rfl rfl (RunK.toB ?_)
      refine RunB.done (by kernel_rfl) ?_
      refine RunE.noPan ?_
      exact RunE.join1 b6 (Sub.cons (t := 6) rfl (Sub.cons (t := 22) rfl (Sub.cons (t := 21) rfl (Sub.cons (t := 20) rfl (Sub.cons (t := 19) rfl (Sub.cons (t := 18) rfl (Sub.cons (t := 17) rfl (Sub.cons (t := 16) rfl (Sub.cons (t := 15) rfl (Sub.skip rfl (Sub.skip rfl (Sub.skip rfl (Sub.skip rfl (Sub.skip rfl (Sub.skip rfl (Sub.skip rfl (Sub.skip rfl (Sub.skip rfl (Sub.refl _))))))))))))))))))) (.cons .here rfl (.cons .here rfl (.cons .here rfl (.cons .here rfl (.cons .here rfl (.cons .here rfl .nil))))))
  refine J1.out (fun b6 => ?_)
  refine RunE.next ?_
  refine RunC.seq ?_
  refine RunC.region ?_
  refine RunL.val (Val.load_agg rfl (.head _) ty_96 rfl) rfl rfl rfl ?_
  refine RunL.val (Val.pure rfl) rfl rfl rfl ?_
  refine RunL.new (New.alloc zero_99) rfl rfl rfl (fun b7 => ?_)
  refine RunL.sto (Sto.store rfl rfl .here ty_99 rfl rfl) rfl rfl ?_
  refine RunL.nil ?_
  refine RunE.next ?_
  refine RunC.seq ?_
  refine RunC.seq ?_
  refine RunC.region ?_
  refine RunL.val (Val.load_one rfl (.tail _ (.tail _ (.head _))) ty_73 rfl) rfl rfl rfl ?_
  refine RunL.callN (isCall_func rfl ent_69) rfl rfl rfl (fun w hm => tried_calls b14 w) (fun b26 => ?_)
  refine RunL.nil ?_
  refine RunE.next ?_
  refine RunC.block ?_
  refine RunC.rangeFunc (S := fun xs => xs = triedS p a14) (N := 100) (enc := (fun x : Int => .int .i64 x)) (fun pre => [(b6, .cells [.int .i64 (pc (bestL p (movedS p a14.1) pre) 12 : Int), .int .u64 ((bestL p (movedS p a14.1) pre) : Int)].toArray 96 (0, 0)), (b7, .cells [.func (.func 68) #[rankV (bestL p (movedS p a14.1) pre)] #[]].toArray 99 (0, 0))]) _ rfl ent_83 (.cons (.there (.there .here)) rfl (.cons (.there .here) rfl (.cons .here rfl (.cons .here rfl (.cons .here rfl (.cons .here rfl (.cons .here rfl (.cons .here rfl .nil)))))))) (fun _ => rfl) (fun pre b o hb => by simp at hb; rcases hb with ⟨_, rfl⟩ | ⟨_, rfl⟩ <;> rfl) (fun w hm => tried_stops p hp q b o cap a14 b14 b26 w _ ⟨hm.at (.tail _ (.tail _ (.tail _ (.tail _ (.head _))))), hm.at (.tail _ (.tail _ (.head _))), hS.mono (by decide) hm (by simp)⟩ ⟨hm.apart (.tail _ (.tail _ (.head _))), hm.apart (.head _), fun hx => hm.oldApart (hS.lt0 (by decide) hx)⟩) rfl rfl (fun _ => rfl) rfl rfl rfl ?_ ?_
  · intro l pre x W1 hpl hI
    have hV1 := hI.at (.tail _ (.tail _ (.tail _ (.tail _ (.head _)))))
    have hV5 := hI.at (.tail _ (.tail _ (.tail _ (.head _))))
    have hA14 := (hI.apart (.tail _ (.tail _ (.head _)))).2
    have hA5 := (hI.apart (.tail _ (.head _))).2
    simp only [List.map_cons, List.map_nil, List.mem_cons, List.not_mem_nil, or_false, not_or] at hA14 hA5
    have hS1 := hS.mono (by decide) hI (by simp)
    have hAS : p.things.map Th.cells ≠ [] → _ := fun hx => (hI.oldApart (hS.lt0 (by decide) hx)).2
    simp only [List.map_cons, List.map_nil, List.mem_cons, List.not_mem_nil, or_false, not_or] at hAS
    have hb4 := bestL_lt hp (movedS_lt hp a14.1) pre
    refine RunCR.block ?_
    refine RunCR.seq ?_
    refine RunCR.region ?_
    refine RunLR.val (Val.oload_one rfl hV5 (by simp [hA14, hA5]) ty_73 rfl) rfl rfl rfl ?_
    refine RunLR.val (Val.pure rfl) rfl rfl rfl ?_
    refine RunLR.callP (isCall_func rfl ent_67) rfl rfl rfl (fun w hm => moved_calls p hp q b o cap a14 x b14 w (hm.old_at hV1 (by simp [hA14])) (hS1.mono' (by decide) hm (fun hx ob => by simp [hAS hx]))) ?_
    refine RunLR.callP (isCall_func rfl ent_66) rfl rfl rfl (fun w hm => rankOf_calls (movedS p x) (movedS_lt hp _) w) ?_
    refine RunLR.new (New.alloc zero_96) rfl rfl rfl (fun b9 => ?_)
    refine RunLR.sto (Sto.store rfl rfl .here ty_96 rfl rfl) rfl rfl ?_
    refine RunLR.nil ?_
    refine RunER.next ?_
    refine RunCR.seq ?_
    refine RunCR.region ?_
    refine RunLR.val (Val.load_agg rfl (.tail _ (.tail _ (.head _))) ty_96 rfl) rfl rfl rfl ?_
    refine RunLR.val (Val.load_agg rfl (.head _) ty_96 rfl) rfl rfl rfl ?_
    refine RunLR.val (Val.neq_pair rfl rfl pair_96) rfl rfl rfl ?_
    refine RunLR.val (Val.pure rfl) rfl rfl rfl ?_
    refine RunLR.andPart (dj := 35) (dp := 40) 5 rfl (fun g35 => by
      have g35' := g35
      try simp only [decide_eq_true_eq, decide_eq_false_iff_not, Bool.not_eq_true', Bool.not_eq_false', Bool.and_eq_true, Bool.or_eq_true, Bool.and_eq_false_iff, Bool.or_eq_false_iff, Int.not_le, Int.not_lt] at g35'
      refine RunLR.val (Val.load_one rfl (.tail _ (.head _)) ty_99 rfl) rfl rfl rfl ?_
      refine RunLR.val (Val.load_agg rfl (.tail _ (.tail _ (.head _))) ty_96 rfl) rfl rfl rfl ?_
      refine RunLR.callP (isCall_value rfl rfl ent_68) rfl rfl rfl (fun w hm => before_calls (bestL p (movedS p a14.1) pre) (movedS p x) w) ?_
      refine RunLR.val (Val.pure rfl) rfl rfl rfl ?_
      refine RunLR.val (Val.pure rfl) rfl rfl rfl ?_
      exact RunLR.segEnd (Sub.cons rfl (Sub.skip rfl (Sub.skip rfl (Sub.skip rfl (Sub.skip rfl (Sub.skip rfl (Sub.same rfl (by rw [g35]) (Sub.refl _)))))))) (List.Sublist.refl _)
    ) (fun g35 => by
      have g35' := g35
      try simp only [decide_eq_true_eq, decide_eq_false_iff_not, Bool.not_eq_true', Bool.not_eq_false', Bool.and_eq_true, Bool.or_eq_true, Bool.and_eq_false_iff, Bool.or_eq_false_iff, Int.not_le, Int.not_lt] at g35'
      iterate 4 refine RunLR.no rfl rfl rfl ?_
      refine RunLR.val (Val.pure rfl) rfl rfl rfl ?_
      exact RunLR.segEnd (Sub.cons rfl (Sub.skip rfl (Sub.skip rfl (Sub.skip rfl (Sub.skip rfl (Sub.skip rfl (Sub.same rfl (by rw [g35]) (Sub.refl _)))))))) (List.Sublist.refl _)
    ) ?_
    refine RunLR.nil ?_
    refine RunER.next ?_
    refine RunCR.cond rfl ?_ ?_
    · intro c0
      have c0' := c0; clear c0
      try simp only [decide_eq_true_eq, decide_eq_false_iff_not, Bool.not_eq_true', Bool.not_eq_false', Bool.and_eq_true, Bool.or_eq_true, Bool.and_eq_false_iff, Bool.or_eq_false_iff, Int.not_le, Int.not_lt] at c0'
      refine RunCR.seq ?_
      refine RunCR.region ?_
      refine RunLR.val (Val.load_agg rfl (.tail _ (.tail _ (.head _))) ty_96 rfl) rfl rfl rfl ?_
      refine RunLR.sto (Sto.store_chg rfl rfl .here ty_96 rfl rfl) rfl rfl ?_
      refine RunLR.nil ?_
      refine RunER.next ?_
      refine RunCR.region ?_
      refine RunLR.val (Val.load_agg rfl (.head _) ty_96 rfl) rfl rfl rfl ?_
      refine RunLR.val (Val.pure rfl) rfl rfl rfl ?_
      refine RunLR.sto (Sto.store_chg rfl rfl (.there .here) ty_99 rfl rfl) rfl rfl ?_
      refine RunLR.nil ?_
      refine RunE.block_normal ?_
      exact RunE.bodyDone (by simp only [bestL_snoc]; first | (rw [better_yes c0']; rfl) | rw [better_no c0'])
    · intro c0
      have c0' := c0; clear c0
      try simp only [decide_eq_true_eq, decide_eq_false_iff_not, Bool.not_eq_true', Bool.not_eq_false', Bool.and_eq_true, Bool.or_eq_true, Bool.and_eq_false_iff, Bool.or_eq_false_iff, Int.not_le, Int.not_lt] at c0'
      refine RunCR.skip ?_
      refine RunE.block_normal ?_
      exact RunE.bodyDone (by simp only [bestL_snoc]; first | (rw [better_yes c0']; rfl) | rw [better_no c0'])
  intro xs bD hXS
  obtain rfl := hXS
  have hbs : bestS p a14 < 4096 := bestL_lt hp (movedS_lt hp a14.1) (triedS p a14)
  rw [show bestL p (movedS p a14.1) (triedS p a14) = bestS p a14 from rfl]
  refine RunE.block_normal ?_
  refine RunE.next ?_
  refine RunC.seq ?_
  refine RunC.region ?_
  refine RunL.val (Val.load_one rfl (.tail _ (.tail _ (.tail _ (.tail _ (.head _))))) ty_73 rfl) rfl rfl rfl ?_
  refine RunL.val (Val.pure rfl) rfl rfl rfl ?_
  refine RunL.val (Val.fieldAddr rfl fld_72_1) rfl rfl rfl ?_
  refine RunL.val (Val.load_agg rfl (.tail _ (.tail _ (.tail _ (.tail _ (.tail _ (.head _)))))) ty_70 rfl) rfl rfl rfl ?_
  refine RunL.new (New.alloc zero_70) rfl rfl rfl (fun b10 => ?_)
  refine RunL.sto (Sto.store rfl rfl .here ty_70 rfl rfl) rfl rfl ?_
  refine RunL.nil ?_
  refine RunE.next ?_
  refine RunC.seq ?_
  refine RunC.seq ?_
  refine RunC.region ?_
  refine RunL.val (Val.load_one rfl (.tail _ (.tail _ (.tail _ (.tail _ (.tail _ (.head _)))))) ty_73 rfl) rfl rfl rfl ?_
  refine RunL.val (Val.pure rfl) rfl rfl rfl ?_
  refine RunL.val (Val.fieldAddr rfl fld_72_0) rfl rfl rfl ?_
  refine RunL.val (Val.fieldAddr rfl fld_26_5) rfl rfl rfl ?_
  refine RunL.val (Val.load_one rfl (.tail _ (.tail _ (.tail _ (.tail _ (.tail _ (.tail _ (.head _))))))) ty_24 rfl) rfl rfl rfl ?_
  refine RunL.val (Val.len_sl rfl sl_24) rfl rfl rfl ?_
  refine RunL.val (Val.pure rfl) rfl rfl rfl ?_
  refine RunL.nil ?_
  refine RunE.next ?_
  refine RunC.block ?_
  refine RunC.loopK (p.things.length) (fun k q => (54, .int .i64 (k : Int)) :: q) (fun _ => _) (fun k => [(b10, .cells (b2c (nbK p (bestS p a14) a14 k)).toArray 70 (0, 0))]) (fun _ => True) trivial rfl (Sub.consE (t := 54) rfl rfl (Sub.cons (t := 3) rfl (Sub.cons (t := 4) rfl (Sub.cons (t := 5) rfl (Sub.cons (t := 6) rfl (Sub.cons (t := 10) rfl (Sub.cons (t := 52) rfl (Sub.cons (t := 53) rfl (Sub.nil _))))))))) (.cons .here rfl (.cons .here rfl (.cons .here rfl (.cons .here rfl (.cons .here rfl (.cons .here rfl (.cons .here rfl (.cons .here rfl (.cons .here rfl (.cons .here rfl .nil)))))))))) ?_
  intro k kN kI
  clear kI
  refine RunC.seq ?_
  refine RunC.region ?_
  refine RunL.val (Val.pure rfl) rfl rfl rfl ?_
  refine RunL.nil ?_
  refine RunE.next ?_
  refine RunC.seq ?_
  refine RunC.cond rfl ?_ ?_
  · intro c1
    have c1' := c1; clear c1
    try simp only [decide_eq_true_eq, decide_eq_false_iff_not, Bool.not_eq_true', Bool.not_eq_false', Bool.and_eq_true, Bool.or_eq_true, Bool.and_eq_false_iff, Bool.or_eq_false_iff, Int.not_le, Int.not_lt] at c1'
    have hk : k < p.things.length := by omega
    obtain ⟨t, ht⟩ : ∃ t, p.things[k] = t := ⟨_, rfl⟩
    have hth := hp.ths _ (List.getElem_mem hk)
    rw [ht] at hth
    refine RunC.skip ?_
    refine RunE.next ?_
    refine RunC.seq ?_
    refine RunC.block ?_
    refine RunC.seq ?_
    refine RunC.region ?_
    refine RunL.val (Val.pure rfl) rfl rfl rfl ?_
    refine RunL.val (Val.indexAddr_slp rfl rfl sl_24 (by omega) (by omega) (hS.ptrM hk)) rfl rfl rfl ?_
    refine RunL.val (Val.load_gen rfl (fun w hm => hS.loadX (by decide) hm (by simp) ty_47 hk ht)) rfl rfl rfl ?_
    refine RunL.new (New.alloc zero_47) rfl rfl rfl (fun b12 => ?_)
    refine RunL.val (Val.pure rfl) rfl rfl rfl ?_
    refine RunL.sto (Sto.store rfl rfl .here ty_47 rfl rfl) rfl rfl ?_
    refine RunL.nil ?_
    refine RunE.next ?_
    refine RunC.seq ?_
    refine RunC.region ?_
    refine RunL.val (Val.fieldAddr rfl fld_96_1) rfl rfl rfl ?_
    refine RunL.val (Val.load_one rfl (.tail _ (.tail _ (.tail _ (.head _)))) ty_94 rfl) rfl rfl rfl ?_
    refine RunL.val (Val.pure rfl) rfl rfl rfl ?_
    refine RunL.val (Val.shrN (a := bestS p a14) (b := k) rfl rfl (by show k ≤ 64; omega)) rfl rfl rfl ?_
    refine RunL.val (Val.and (a := bestS p a14 >>> k) (b := 1) rfl rfl (by have := Nat.shiftRight_le (bestS p a14) k; show _ < 18446744073709551616; omega) (by decide) (u64_in (by have := Nat.and_le_right (n := bestS p a14 >>> k) (m := 1); omega))) rfl rfl rfl ?_
    refine RunL.val (Val.pure rfl) rfl rfl rfl ?_
    refine RunL.nil ?_
    refine RunE.next ?_
    refine RunC.cond rfl ?_ ?_
    · intro c2
      have c2' := c2; clear c2
      try simp only [decide_eq_true_eq, decide_eq_false_iff_not, Bool.not_eq_true', Bool.not_eq_false', Bool.and_eq_true, Bool.or_eq_true, Bool.and_eq_false_iff, Bool.or_eq_false_iff, Int.not_le, Int.not_lt] at c2'
      refine RunC.region ?_
      refine RunL.val (Val.load_one rfl (.tail _ (.tail _ (.tail _ (.tail _ (.tail _ (.tail _ (.head _))))))) ty_73 rfl) rfl rfl rfl ?_
      refine RunL.val (Val.load_agg rfl (.head _) ty_47 rfl) rfl rfl rfl ?_
      refine RunL.val (Val.load_agg rfl (.tail _ (.head _)) ty_70 rfl) rfl rfl rfl ?_
      refine RunL.callP (isCall_func rfl ent_53) rfl rfl rfl (fun w hm => still_calls p hp q cap a14 t hth.1 hth.2 (nbK p (bestS p a14) a14 k) b14 w (hm.at (.tail _ (.tail _ (.tail _ (.tail _ (.tail _ (.tail _ (.tail _ (.head _)))))))))) ?_
      iterate 3 refine RunL.val (Val.pure rfl) rfl rfl rfl ?_
      refine RunL.sto (Sto.store rfl rfl (.there .here) ty_70 rfl rfl) rfl rfl ?_
      refine RunL.nil ?_
      refine RunE.block_normal ?_
      refine RunE.next ?_
      refine RunC.region ?_
      refine RunL.val (Val.add rfl rfl (IntWalk.i64_in _ ⟨by omega, by omega⟩)) rfl rfl rfl ?_
      refine RunL.val (Val.pure rfl) rfl rfl rfl ?_
      refine RunL.nil ?_
      exact RunE.round (by omega) trivial rfl (Sub.consE (t := 54) rfl rfl (Sub.cons (t := 3) rfl (Sub.cons (t := 4) rfl (Sub.cons (t := 5) rfl (Sub.cons (t := 6) rfl (Sub.cons (t := 10) rfl (Sub.cons (t := 52) rfl (Sub.cons (t := 53) rfl (Sub.nil _))))))))) (.cons (.there .here) (by first | (rw [nbK_in (thingAt_eq hk ht) c2'];rfl) | (rw [nbK_out c2'])) (.cons (.there .here) rfl (.cons (.there .here) rfl (.cons (.there .here) rfl (.cons (.there .here) rfl (.cons (.there .here) rfl (.cons (.there .here) rfl (.cons (.there .here) rfl (.cons (.there .here) rfl (.cons (.there .here) rfl .nil))))))))))
    · intro c2
      have c2' := c2; clear c2
      try simp only [decide_eq_true_eq, decide_eq_false_iff_not, Bool.not_eq_true', Bool.not_eq_false', Bool.and_eq_true, Bool.or_eq_true, Bool.and_eq_false_iff, Bool.or_eq_false_iff, Int.not_le, Int.not_lt] at c2'
      refine RunC.skip ?_
      refine RunE.block_normal ?_
      refine RunE.next ?_
      refine RunC.region ?_
      refine RunL.val (Val.add rfl rfl (IntWalk.i64_in _ ⟨by omega, by omega⟩)) rfl rfl rfl ?_
      refine RunL.val (Val.pure rfl) rfl rfl rfl ?_
      refine RunL.nil ?_
      exact RunE.round (by omega) trivial rfl (Sub.consE (t := 54) rfl rfl (Sub.cons (t := 3) rfl (Sub.cons (t := 4) rfl (Sub.cons (t := 5) rfl (Sub.cons (t := 6) rfl (Sub.cons (t := 10) rfl (Sub.cons (t := 52) rfl (Sub.cons (t := 53) rfl (Sub.nil _))))))))) (.cons (.there .here) (by first | (rw [nbK_in (thingAt_eq hk ht) c2'];rfl) | (rw [nbK_out c2'])) (.cons (.there .here) rfl (.cons (.there .here) rfl (.cons (.there .here) rfl (.cons (.there .here) rfl (.cons (.there .here) rfl (.cons (.there .here) rfl (.cons (.there .here) rfl (.cons (.there .here) rfl (.cons (.there .here) rfl .nil))))))))))
  · intro c1
    have c1' := c1; clear c1
    try simp only [decide_eq_true_eq, decide_eq_false_iff_not, Bool.not_eq_true', Bool.not_eq_false', Bool.and_eq_true, Bool.or_eq_true, Bool.and_eq_false_iff, Bool.or_eq_false_iff, Int.not_le, Int.not_lt] at c1'
    obtain rfl : k = p.things.length := by omega
    refine RunC.exit ?_
    refine RunE.pass_exit ?_
    refine RunE.pass_exit ?_
    refine RunE.block_here ?_
    refine RunE.next ?_
    refine RunC.seq ?_
    refine RunC.drawN 5 fol_ (.cons .here rfl (.cons .here rfl (.cons .here rfl (.cons .here rfl (.cons .here rfl (.cons .here rfl (.cons .here rfl (.cons .here rfl (.cons .here rfl (.cons .here rfl .nil)))))))))) ?_
    refine RunA.val (i := 0) rfl (by kernel_rfl) (by kernel_rfl) (Val.fieldAddr rfl fld_96_1) rfl rfl rfl (fun _ _ _ h => h) (.cons .here rfl (.cons .here rfl (.cons .here rfl (.cons .here rfl (.cons .here rfl (.cons .here rfl (.cons .here rfl (.cons .here rfl (.cons .here rfl (.cons .here rfl .nil)))))))))) rfl ?_
    refine RunA.val (i := 1) rfl (by kernel_rfl) (by kernel_rfl) (Val.load_one rfl (.tail _ (.tail _ (.head _))) ty_94 rfl) rfl rfl rfl (fun _ _ _ h => h) (.cons .here rfl (.cons .here rfl (.cons .here rfl (.cons .here rfl (.cons .here rfl (.cons .here rfl (.cons .here rfl (.cons .here rfl (.cons .here rfl (.cons .here rfl .nil)))))))))) rfl ?_
    refine RunA.val (i := 2) rfl (by kernel_rfl) (by kernel_rfl) (Val.convInt rfl und_94 und_3 (IntWalk.i64_in _ ⟨by omega, by omega⟩)) rfl rfl rfl (fun _ _ _ h => h) (.cons .here rfl (.cons .here rfl (.cons .here rfl (.cons .here rfl (.cons .here rfl (.cons .here rfl (.cons .here rfl (.cons .here rfl (.cons .here rfl (.cons .here rfl .nil)))))))))) rfl ?_
    refine RunA.val (i := 3) rfl (by kernel_rfl) (by kernel_rfl) (Val.load_agg rfl (.head _) ty_70 rfl) rfl rfl rfl (fun _ _ _ h => h) (.cons .here rfl (.cons .here rfl (.cons .here rfl (.cons .here rfl (.cons .here rfl (.cons .here rfl (.cons .here rfl (.cons .here rfl (.cons .here rfl (.cons .here rfl .nil)))))))))) rfl ?_
    refine RunA.one (i := 4) (by kernel_rfl) (by kernel_rfl) ?_
    refine RunI.callP rfl (isCall_func rfl ent_46) rfl rfl rfl (fun w hm => spanOf_calls (_, _) w) (RunK.toA (.cons .here rfl (.cons .here rfl (.cons .here rfl (.cons .here rfl (.cons .here rfl (.cons .here rfl (.cons .here rfl (.cons .here rfl (.cons .here rfl (.cons .here rfl .nil)))))))))) (.cons .here rfl (.cons .here rfl (.cons .here rfl (.cons .here rfl (.cons .here rfl (.cons .here rfl (.cons .here rfl (.cons .here rfl (.cons .here rfl (.cons .here rfl .nil)))))))))) rfl ?_)
    refine RunA.toB (by kernel_rfl) ?_
    refine RunB.one (i := 5) (by kernel_rfl) ?_
    refine RunI.val rfl (Val.pure rfl) rfl rfl rfl (RunK.toB ?_)
    refine RunB.one (i := 6) (by kernel_rfl) ?_
    refine RunI.sto rfl (Sto.store rfl rfl (.there (.there (.there (.there (.there (.there (.there (.there .here)))))))) ty_23 rfl rfl) rfl rfl (RunK.toB ?_)
    refine RunB.one (i := 7) (by kernel_rfl) ?_
    refine RunI.sto rfl (Sto.store rfl rfl (.there (.there (.there (.there (.there (.there (.there .here))))))) ty_28 rfl rfl) rfl rfl (RunK.toB ?_)
    refine RunB.done (by kernel_rfl) ?_
    refine RunE.noPan ?_
    refine RunE.next ?_
    refine RunC.ret ?_
    exact RunE.retM catchesIn ent_41 (.there .here) (.r3 rfl (.tmp rfl) (.agg rfl (.tail _ (.tail _ (.tail _ (.tail _ (.tail _ (.tail _ (.tail _ (.head _)))))))) ty_23 rfl) (.one rfl (.tail _ (.tail _ (.tail _ (.tail _ (.tail _ (.tail _ (.head _))))))) ty_28 rfl)) (by simp only [fewestX, ha14]; rfl)
end Go.Proofs.Ythppnhjggdebbaa
