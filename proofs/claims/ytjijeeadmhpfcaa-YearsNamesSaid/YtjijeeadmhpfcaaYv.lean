/- Walks of the reference of layer 5: whether a glacier is one, and what is open. -/
import Derived.Test.YtjijeeadmhpfcaaYu
import Derived.Test.YtjijeeadmhpfcaaRc
import Derived.Test.YtjijeeadmhpfcaaSame
set_option linter.unusedSimpArgs false
set_option linter.unusedVariables false
namespace Go.Proofs.Ytjijeeadmhpfcaa
open Go Go.Eng Go.Pw1

def glacierR (g : Gl) : Bool := isPair g.f && isPair g.s && decide ((g.f.things.length : Int) = (g.s.things.length : Int)) && within g.d1 0 65536 && within g.d2 (g.d1 + 1) 65536
theorem rGlacier_calls (g : Gl) (a : Ga) (W : World) (hG : GIn W g a) : Calls Try.prog 23 #[g.v a] W (Pure (.bool (glacierR g)) W) := by
  refine calls_start Try.func23 rfl rfl ?_
  refine RunC.seq ?_
  refine RunC.region ?_
  refine RunL.new (New.box rfl) rfl rfl rfl (fun b1 => ?_)
  refine RunL.val (Val.pure rfl) rfl rfl rfl ?_
  refine RunL.nil ?_
  refine RunE.next ?_
  refine RunC.seq ?_
  refine RunC.region ?_
  refine RunL.val (Val.fieldAddr rfl fld_28_0) rfl rfl rfl ?_
  refine RunL.val (Val.load_agg rfl (.head _) ty_26 rfl) rfl rfl rfl ?_
  refine RunL.callP (isCall_func rfl ent_60) rfl rfl rfl (fun w hm => rPair_calls g.f a.q1 a.b1 a.o1 a.c1 w (hG.mono hm).s1 hG.l1) ?_
  refine RunL.val (Val.pure rfl) rfl rfl rfl ?_
  refine RunL.andPart (dj := 6) (dp := 10) 4 rfl (fun g6 => by
    have g6' := g6
    try simp only [decide_eq_true_eq, decide_eq_false_iff_not, Bool.not_eq_true', Bool.not_eq_false', Bool.and_eq_true, Bool.or_eq_true, Bool.and_eq_false_iff, Bool.or_eq_false_iff, Int.not_le, Int.not_lt] at g6'
    refine RunL.val (Val.fieldAddr rfl fld_28_1) rfl rfl rfl ?_
    refine RunL.val (Val.load_agg rfl (.head _) ty_26 rfl) rfl rfl rfl ?_
    refine RunL.callP (isCall_func rfl ent_60) rfl rfl rfl (fun w hm => rPair_calls g.s a.q2 a.b2 a.o2 a.c2 w (hG.mono hm).s2 hG.l2) ?_
    refine RunL.val (Val.pure rfl) rfl rfl rfl ?_
    exact RunL.segEnd (Sub.cons rfl (Sub.skip rfl (Sub.skip rfl (Sub.skip rfl (Sub.skip rfl (Sub.same rfl (by rw [g6]) (Sub.refl _))))))) (List.Sublist.refl _)
  ) (fun g6 => by
    have g6' := g6
    try simp only [decide_eq_true_eq, decide_eq_false_iff_not, Bool.not_eq_true', Bool.not_eq_false', Bool.and_eq_true, Bool.or_eq_true, Bool.and_eq_false_iff, Bool.or_eq_false_iff, Int.not_le, Int.not_lt] at g6'
    iterate 3 refine RunL.no rfl rfl rfl ?_
    refine RunL.val (Val.pure rfl) rfl rfl rfl ?_
    exact RunL.segEnd (Sub.cons rfl (Sub.skip rfl (Sub.skip rfl (Sub.skip rfl (Sub.skip rfl (Sub.same rfl (by rw [g6]) (Sub.refl _))))))) (List.Sublist.refl _)
  ) ?_
  refine RunL.val (Val.pure rfl) rfl rfl rfl ?_
  refine RunL.andPart (dj := 11) (dp := 21) 10 rfl (fun g11 => by
    have g11' := g11
    try simp only [decide_eq_true_eq, decide_eq_false_iff_not, Bool.not_eq_true', Bool.not_eq_false', Bool.and_eq_true, Bool.or_eq_true, Bool.and_eq_false_iff, Bool.or_eq_false_iff, Int.not_le, Int.not_lt] at g11'
    refine RunL.val (Val.fieldAddr rfl fld_28_0) rfl rfl rfl ?_
    refine RunL.val (Val.fieldAddr rfl fld_26_5) rfl rfl rfl ?_
    refine RunL.val (Val.load_one rfl (.head _) ty_24 rfl) rfl rfl rfl ?_
    refine RunL.val (Val.len_sl rfl sl_24) rfl rfl rfl ?_
    refine RunL.val (Val.fieldAddr rfl fld_28_1) rfl rfl rfl ?_
    refine RunL.val (Val.fieldAddr rfl fld_26_5) rfl rfl rfl ?_
    refine RunL.val (Val.load_one rfl (.head _) ty_24 rfl) rfl rfl rfl ?_
    refine RunL.val (Val.len_sl rfl sl_24) rfl rfl rfl ?_
    refine RunL.val (Val.pure rfl) rfl rfl rfl ?_
    refine RunL.val (Val.pure rfl) rfl rfl rfl ?_
    exact RunL.segEnd (Sub.cons rfl (Sub.skip rfl (Sub.skip rfl (Sub.skip rfl (Sub.skip rfl (Sub.skip rfl (Sub.skip rfl (Sub.skip rfl (Sub.skip rfl (Sub.skip rfl (Sub.skip rfl (Sub.same rfl (by rw [g11]) (Sub.refl _))))))))))))) (List.Sublist.refl _)
  ) (fun g11 => by
    have g11' := g11
    try simp only [decide_eq_true_eq, decide_eq_false_iff_not, Bool.not_eq_true', Bool.not_eq_false', Bool.and_eq_true, Bool.or_eq_true, Bool.and_eq_false_iff, Bool.or_eq_false_iff, Int.not_le, Int.not_lt] at g11'
    iterate 9 refine RunL.no rfl rfl rfl ?_
    refine RunL.val (Val.pure rfl) rfl rfl rfl ?_
    exact RunL.segEnd (Sub.cons rfl (Sub.skip rfl (Sub.skip rfl (Sub.skip rfl (Sub.skip rfl (Sub.skip rfl (Sub.skip rfl (Sub.skip rfl (Sub.skip rfl (Sub.skip rfl (Sub.skip rfl (Sub.same rfl (by rw [g11]) (Sub.refl _))))))))))))) (List.Sublist.refl _)
  ) ?_
  refine RunL.val (Val.pure rfl) rfl rfl rfl ?_
  refine RunL.andPart (dj := 22) (dp := 26) 4 rfl (fun g22 => by
    have g22' := g22
    try simp only [decide_eq_true_eq, decide_eq_false_iff_not, Bool.not_eq_true', Bool.not_eq_false', Bool.and_eq_true, Bool.or_eq_true, Bool.and_eq_false_iff, Bool.or_eq_false_iff, Int.not_le, Int.not_lt] at g22'
    refine RunL.val (Val.fieldAddr rfl fld_28_2) rfl rfl rfl ?_
    refine RunL.val (Val.load_one rfl (.head _) ty_3 rfl) rfl rfl rfl ?_
    refine RunL.callP (isCall_func rfl ent_61) rfl rfl rfl (fun w hm => rin5_calls _ _ _ w) ?_
    refine RunL.val (Val.pure rfl) rfl rfl rfl ?_
    exact RunL.segEnd (Sub.cons rfl (Sub.skip rfl (Sub.skip rfl (Sub.skip rfl (Sub.skip rfl (Sub.same rfl (by rw [g22]) (Sub.refl _))))))) (List.Sublist.refl _)
  ) (fun g22 => by
    have g22' := g22
    try simp only [decide_eq_true_eq, decide_eq_false_iff_not, Bool.not_eq_true', Bool.not_eq_false', Bool.and_eq_true, Bool.or_eq_true, Bool.and_eq_false_iff, Bool.or_eq_false_iff, Int.not_le, Int.not_lt] at g22'
    iterate 3 refine RunL.no rfl rfl rfl ?_
    refine RunL.val (Val.pure rfl) rfl rfl rfl ?_
    exact RunL.segEnd (Sub.cons rfl (Sub.skip rfl (Sub.skip rfl (Sub.skip rfl (Sub.skip rfl (Sub.same rfl (by rw [g22]) (Sub.refl _))))))) (List.Sublist.refl _)
  ) ?_
  refine RunL.val (Val.pure rfl) rfl rfl rfl ?_
  refine RunL.andPart (dj := 27) (dp := 34) 7 rfl (fun g27 => by
    have g27' := g27
    try simp only [decide_eq_true_eq, decide_eq_false_iff_not, Bool.not_eq_true', Bool.not_eq_false', Bool.and_eq_true, Bool.or_eq_true, Bool.and_eq_false_iff, Bool.or_eq_false_iff, Int.not_le, Int.not_lt] at g27'
    refine RunL.val (Val.fieldAddr rfl fld_28_3) rfl rfl rfl ?_
    refine RunL.val (Val.load_one rfl (.head _) ty_3 rfl) rfl rfl rfl ?_
    refine RunL.val (Val.fieldAddr rfl fld_28_2) rfl rfl rfl ?_
    refine RunL.val (Val.load_one rfl (.head _) ty_3 rfl) rfl rfl rfl ?_
    simp only [within, Bool.and_eq_true, decide_eq_true_eq] at g27'
    refine RunL.val (Val.add rfl rfl (IntWalk.i64_in _ ⟨by omega, by omega⟩)) rfl rfl rfl ?_
    refine RunL.callP (isCall_func rfl ent_61) rfl rfl rfl (fun w hm => rin5_calls _ _ _ w) ?_
    refine RunL.val (Val.pure rfl) rfl rfl rfl ?_
    exact RunL.segEnd (Sub.cons rfl (Sub.skip rfl (Sub.skip rfl (Sub.skip rfl (Sub.skip rfl (Sub.skip rfl (Sub.skip rfl (Sub.skip rfl (Sub.same rfl (by rw [g27]) (Sub.refl _)))))))))) (List.Sublist.refl _)
  ) (fun g27 => by
    have g27' := g27
    try simp only [decide_eq_true_eq, decide_eq_false_iff_not, Bool.not_eq_true', Bool.not_eq_false', Bool.and_eq_true, Bool.or_eq_true, Bool.and_eq_false_iff, Bool.or_eq_false_iff, Int.not_le, Int.not_lt] at g27'
    iterate 6 refine RunL.no rfl rfl rfl ?_
    refine RunL.val (Val.pure rfl) rfl rfl rfl ?_
    exact RunL.segEnd (Sub.cons rfl (Sub.skip rfl (Sub.skip rfl (Sub.skip rfl (Sub.skip rfl (Sub.skip rfl (Sub.skip rfl (Sub.skip rfl (Sub.same rfl (by rw [g27]) (Sub.refl _)))))))))) (List.Sublist.refl _)
  ) ?_
  refine RunL.val (Val.pure rfl) rfl rfl rfl ?_
  refine RunL.nil ?_
  refine RunE.next ?_
  refine RunC.ret ?_
  exact RunE.retP (.r1 rfl (.tmp rfl)) (by first | rfl | simp)
def openR5 (g : Gl) (valid : Bool) : Int := if glacierR g then (if valid then (if (powerR g.f).2 = 0 then (powerR g.s).2 else (powerR g.f).2) else 2) else 1
theorem ropen5_calls (g : Gl) (a : Ga) (valid : Bool) (W : World) (hG : GIn W g a) : Calls Try.prog 75 #[g.v a, .bool valid] W (Pure (.int .i64 (openR5 g valid)) W) := by
  refine calls_start Try.func75 rfl rfl ?_
  refine RunC.seq ?_
  refine RunC.region ?_
  refine RunL.new (New.box rfl) rfl rfl rfl (fun b2 => ?_)
  refine RunL.val (Val.pure rfl) rfl rfl rfl ?_
  refine RunL.nil ?_
  refine RunE.next ?_
  refine RunC.seq ?_
  refine RunC.seq ?_
  refine RunC.region ?_
  refine RunL.val (Val.load_agg rfl (.head _) ty_28 rfl) rfl rfl rfl ?_
  refine RunL.callP (isCall_func rfl ent_23) rfl rfl rfl (fun w hm => rGlacier_calls g a w (hG.mono hm)) ?_
  refine RunL.val (Val.pure rfl) rfl rfl rfl ?_
  refine RunL.nil ?_
  refine RunE.next ?_
  refine RunC.cond rfl ?_ ?_
  · intro c0
    have c0' := c0; clear c0
    try simp only [decide_eq_true_eq, decide_eq_false_iff_not, Bool.not_eq_true', Bool.not_eq_false', Bool.and_eq_true, Bool.or_eq_true, Bool.and_eq_false_iff, Bool.or_eq_false_iff, Int.not_le, Int.not_lt] at c0'
    refine RunC.seq ?_
    refine RunC.region ?_
    refine RunL.val (Val.pure rfl) rfl rfl rfl ?_
    refine RunL.nil ?_
    refine RunE.next ?_
    refine RunC.ret ?_
    refine RunE.pass_ret ?_
    exact RunE.retP (.r1 rfl (.tmp rfl)) (by simp_all [openR5])
  · intro c0
    have c0' := c0; clear c0
    try simp only [decide_eq_true_eq, decide_eq_false_iff_not, Bool.not_eq_true', Bool.not_eq_false', Bool.and_eq_true, Bool.or_eq_true, Bool.and_eq_false_iff, Bool.or_eq_false_iff, Int.not_le, Int.not_lt] at c0'
    refine RunC.skip ?_
    refine RunE.next ?_
    refine RunC.seq ?_
    refine RunC.seq ?_
    refine RunC.region ?_
    refine RunL.val (Val.pure rfl) rfl rfl rfl ?_
    refine RunL.val (Val.pure rfl) rfl rfl rfl ?_
    refine RunL.nil ?_
    refine RunE.next ?_
    refine RunC.cond rfl ?_ ?_
    · intro c1
      have c1' := c1; clear c1
      try simp only [decide_eq_true_eq, decide_eq_false_iff_not, Bool.not_eq_true', Bool.not_eq_false', Bool.and_eq_true, Bool.or_eq_true, Bool.and_eq_false_iff, Bool.or_eq_false_iff, Int.not_le, Int.not_lt] at c1'
      refine RunC.seq ?_
      refine RunC.region ?_
      refine RunL.val (Val.pure rfl) rfl rfl rfl ?_
      refine RunL.nil ?_
      refine RunE.next ?_
      refine RunC.ret ?_
      refine RunE.pass_ret ?_
      exact RunE.retP (.r1 rfl (.tmp rfl)) (by simp_all [openR5])
    · intro c1
      have c1' := c1; clear c1
      try simp only [decide_eq_true_eq, decide_eq_false_iff_not, Bool.not_eq_true', Bool.not_eq_false', Bool.and_eq_true, Bool.or_eq_true, Bool.and_eq_false_iff, Bool.or_eq_false_iff, Int.not_le, Int.not_lt] at c1'
      refine RunC.skip ?_
      refine RunE.next ?_
      refine RunC.seq ?_
      refine RunC.region ?_
      refine RunL.val (Val.fieldAddr rfl fld_28_0) rfl rfl rfl ?_
      refine RunL.val (Val.load_agg rfl (.head _) ty_26 rfl) rfl rfl rfl ?_
      refine RunL.callP (isCall_func rfl ent_92) rfl rfl rfl (fun w hm => rPower_calls g.f a.q1 a.b1 a.o1 a.c1 w (hG.mono hm).s1 hG.l1) ?_
      iterate 3 refine RunL.val (Val.pure rfl) rfl rfl rfl ?_
      refine RunL.new (New.alloc zero_23) rfl rfl rfl (fun b5 => ?_)
      refine RunL.sto (Sto.store rfl rfl .here ty_23 rfl rfl) rfl rfl ?_
      refine RunL.val (Val.pure rfl) rfl rfl rfl ?_
      refine RunL.nil ?_
      refine RunE.next ?_
      refine RunC.seq ?_
      refine RunC.seq ?_
      refine RunC.region ?_
      refine RunL.val (Val.pure rfl) rfl rfl rfl ?_
      refine RunL.val (Val.pure rfl) rfl rfl rfl ?_
      refine RunL.nil ?_
      refine RunE.next ?_
      refine RunC.cond rfl ?_ ?_
      · intro c2
        have c2' := c2; clear c2
        try simp only [decide_eq_true_eq, decide_eq_false_iff_not, Bool.not_eq_true', Bool.not_eq_false', Bool.and_eq_true, Bool.or_eq_true, Bool.and_eq_false_iff, Bool.or_eq_false_iff, Int.not_le, Int.not_lt] at c2'
        refine RunC.seq ?_
        refine RunC.region ?_
        refine RunL.val (Val.pure rfl) rfl rfl rfl ?_
        refine RunL.val (Val.pure rfl) rfl rfl rfl ?_
        refine RunL.nil ?_
        refine RunE.next ?_
        refine RunC.ret ?_
        refine RunE.pass_ret ?_
        exact RunE.retP (.r1 rfl (.tmp rfl)) (by simp_all [openR5])
      · intro c2
        have c2' := c2; clear c2
        try simp only [decide_eq_true_eq, decide_eq_false_iff_not, Bool.not_eq_true', Bool.not_eq_false', Bool.and_eq_true, Bool.or_eq_true, Bool.and_eq_false_iff, Bool.or_eq_false_iff, Int.not_le, Int.not_lt] at c2'
        refine RunC.skip ?_
        refine RunE.next ?_
        refine RunC.seq ?_
        refine RunC.region ?_
        refine RunL.val (Val.fieldAddr rfl fld_28_1) rfl rfl rfl ?_
        refine RunL.val (Val.load_agg rfl (.tail _ (.head _)) ty_26 rfl) rfl rfl rfl ?_
        refine RunL.callP (isCall_func rfl ent_92) rfl rfl rfl (fun w hm => rPower_calls g.s a.q2 a.b2 a.o2 a.c2 w (hG.mono hm).s2 hG.l2) ?_
        iterate 4 refine RunL.val (Val.pure rfl) rfl rfl rfl ?_
        refine RunL.nil ?_
        refine RunE.next ?_
        refine RunC.seq ?_
        refine RunC.region ?_
        refine RunL.val (Val.pure rfl) rfl rfl rfl ?_
        refine RunL.val (Val.pure rfl) rfl rfl rfl ?_
        refine RunL.nil ?_
        refine RunE.next ?_
        refine RunC.ret ?_
        exact RunE.retP (.r1 rfl (.tmp rfl)) (by simp_all [openR5])
def seenR5 (g : Gl) (n : Int) : Bool := decide ((distR g.f n).2 = 0) && decide ((distR g.s n).2 = 0)
theorem rSeen5_calls (g : Gl) (a : Ga) (n : Int) (W : World) (hG : GIn W g a) : Calls Try.prog 76 #[g.v a, .int .i64 n] W (Pure (.tuple #[b2v (distR g.f n).1, b2v (distR g.s n).1, .bool (seenR5 g n)]) W) := by
  refine calls_start Try.func76 rfl rfl ?_
  refine RunC.seq ?_
  refine RunC.region ?_
  refine RunL.new (New.box rfl) rfl rfl rfl (fun b2 => ?_)
  refine RunL.new (New.alloc zero_23) rfl rfl rfl (fun b4 => ?_)
  refine RunL.new (New.alloc zero_23) rfl rfl rfl (fun b5 => ?_)
  refine RunL.val (Val.pure rfl) rfl rfl rfl ?_
  refine RunL.nil ?_
  refine RunE.next ?_
  refine RunC.seq ?_
  refine RunC.region ?_
  refine RunL.val (Val.fieldAddr rfl fld_28_0) rfl rfl rfl ?_
  refine RunL.val (Val.load_agg rfl (.tail _ (.tail _ (.head _))) ty_26 rfl) rfl rfl rfl ?_
  refine RunL.val (Val.pure rfl) rfl rfl rfl ?_
  refine RunL.callP (isCall_func rfl ent_93) rfl rfl rfl (fun w hm => rDist_calls g.f n a.q1 a.b1 a.o1 a.c1 w (hG.mono hm).s1 hG.l1) ?_
  iterate 3 refine RunL.val (Val.pure rfl) rfl rfl rfl ?_
  refine RunL.new (New.alloc zero_23) rfl rfl rfl (fun b7 => ?_)
  refine RunL.sto (Sto.store rfl rfl .here ty_23 rfl rfl) rfl rfl ?_
  refine RunL.val (Val.pure rfl) rfl rfl rfl ?_
  refine RunL.nil ?_
  refine RunE.next ?_
  refine RunC.seq ?_
  refine RunC.region ?_
  refine RunL.val (Val.fieldAddr rfl fld_28_1) rfl rfl rfl ?_
  refine RunL.val (Val.load_agg rfl (.tail _ (.tail _ (.tail _ (.head _)))) ty_26 rfl) rfl rfl rfl ?_
  refine RunL.val (Val.pure rfl) rfl rfl rfl ?_
  refine RunL.callP (isCall_func rfl ent_93) rfl rfl rfl (fun w hm => rDist_calls g.s n a.q2 a.b2 a.o2 a.c2 w (hG.mono hm).s2 hG.l2) ?_
  iterate 3 refine RunL.val (Val.pure rfl) rfl rfl rfl ?_
  refine RunL.new (New.alloc zero_23) rfl rfl rfl (fun b9 => ?_)
  refine RunL.sto (Sto.store rfl rfl .here ty_23 rfl rfl) rfl rfl ?_
  refine RunL.val (Val.pure rfl) rfl rfl rfl ?_
  refine RunL.nil ?_
  refine RunE.next ?_
  refine RunC.seq ?_
  refine RunC.draw 10 fol_ (.cons .here rfl (.cons .here rfl (.cons (.there (.there .here)) rfl .nil))) ?_
  refine RunA.val (i := 0) rfl (by kernel_rfl) (by kernel_rfl) (Val.load_agg rfl (.tail _ (.head _)) ty_23 rfl) rfl rfl rfl (fun _ _ _ h => h) (.cons .here rfl (.cons .here rfl (.cons (.there (.there .here)) rfl .nil))) rfl ?_
  refine RunA.val (i := 1) rfl (by kernel_rfl) (by kernel_rfl) (Val.load_agg rfl (.head _) ty_23 rfl) rfl rfl rfl (fun _ _ _ h => h) (.cons .here rfl (.cons .here rfl (.cons (.there (.there .here)) rfl .nil))) rfl ?_
  refine RunA.val (i := 2) rfl (by kernel_rfl) (by kernel_rfl) (Val.pure rfl) rfl rfl rfl (fun _ _ _ h => h) (.cons .here rfl (.cons .here rfl (.cons (.there (.there .here)) rfl .nil))) rfl ?_
  refine RunA.val (i := 3) rfl (by kernel_rfl) (by kernel_rfl) (Val.pure rfl) rfl rfl rfl (fun _ _ _ h => h) (.cons .here rfl (.cons .here rfl (.cons (.there (.there .here)) rfl .nil))) rfl ?_
  refine RunA.val (i := 4) rfl (by kernel_rfl) (by kernel_rfl) (Val.pure rfl) rfl rfl rfl (fun _ _ _ h => h) (.cons .here rfl (.cons .here rfl (.cons (.there (.there .here)) rfl .nil))) rfl ?_
  refine RunA.ways (dj := 29) rfl ?_ ?_
  · intro g29
    have g29' := g29; clear g29
    try simp only [decide_eq_true_eq, decide_eq_false_iff_not, Bool.not_eq_true', Bool.not_eq_false', Bool.and_eq_true, Bool.or_eq_true, Bool.and_eq_false_iff, Bool.or_eq_false_iff, Int.not_le, Int.not_lt] at g29'
    refine RunA.val (i := 5) rfl (by kernel_rfl) (by kernel_rfl) (Val.pure rfl) rfl rfl rfl (fun _ _ _ h => h) (.cons .here rfl (.cons .here rfl (.cons (.there (.there .here)) rfl .nil))) rfl ?_
    refine RunA.val (i := 6) rfl (by kernel_rfl) (by kernel_rfl) (Val.pure rfl) rfl rfl rfl (fun _ _ _ h => h) (.cons .here rfl (.cons .here rfl (.cons (.there (.there .here)) rfl .nil))) rfl ?_
    refine RunA.val (i := 7) rfl (by kernel_rfl) (by kernel_rfl) (Val.pure rfl) rfl rfl rfl (fun _ _ _ h => h) (.cons .here rfl (.cons .here rfl (.cons (.there (.there .here)) rfl .nil))) rfl ?_
    refine RunA.one (i := 8) (by kernel_rfl) (by kernel_rfl) ?_
    refine RunI.sto rfl (Sto.store rfl rfl (.there (.there (.there .here))) ty_23 rfl rfl) rfl rfl (RunK.toA (.cons .here rfl (.cons .here rfl (.cons (.there (.there .here)) rfl .nil))) (.cons .here rfl (.cons .here rfl (.cons .here rfl .nil))) rfl ?_)
    refine RunA.one (i := 9) (by kernel_rfl) (by kernel_rfl) ?_
    refine RunI.sto rfl (Sto.store rfl rfl (.there (.there .here)) ty_23 rfl rfl) rfl rfl (RunK.toA (.cons .here rfl (.cons .here rfl (.cons (.there (.there .here)) rfl .nil))) (.cons .here rfl (.cons .here rfl (.cons .here rfl .nil))) rfl ?_)
    refine RunA.toB (by kernel_rfl) ?_
    refine RunB.one (i := 10) (by kernel_rfl) ?_
    refine RunI.val rfl (Val.pure rfl) rfl rfl rfl (RunK.toB ?_)
    refine RunB.done (by kernel_rfl) ?_
    refine RunE.next ?_
    refine RunC.ret ?_
    exact RunE.retP (.r3 rfl (.agg rfl (.tail _ (.tail _ (.tail _ (.head _)))) ty_23 rfl) (.agg rfl (.tail _ (.tail _ (.head _))) ty_23 rfl) (.tmp rfl)) (by first | rfl | simp_all [seenR5, b2v])
  · intro g29
    have g29' := g29; clear g29
    try simp only [decide_eq_true_eq, decide_eq_false_iff_not, Bool.not_eq_true', Bool.not_eq_false', Bool.and_eq_true, Bool.or_eq_true, Bool.and_eq_false_iff, Bool.or_eq_false_iff, Int.not_le, Int.not_lt] at g29'
    refine RunA.no (i := 5) rfl (by kernel_rfl) (by kernel_rfl) rfl rfl rfl (fun _ _ _ h => h) (.cons .here rfl (.cons .here rfl (.cons (.there (.there .here)) rfl .nil))) rfl ?_
    refine RunA.no (i := 6) rfl (by kernel_rfl) (by kernel_rfl) rfl rfl rfl (fun _ _ _ h => h) (.cons .here rfl (.cons .here rfl (.cons (.there (.there .here)) rfl .nil))) rfl ?_
    refine RunA.val (i := 7) rfl (by kernel_rfl) (by kernel_rfl) (Val.pure rfl) rfl rfl rfl (fun _ _ _ h => h) (.cons .here rfl (.cons .here rfl (.cons (.there (.there .here)) rfl .nil))) rfl ?_
    refine RunA.one (i := 8) (by kernel_rfl) (by kernel_rfl) ?_
    refine RunI.sto rfl (Sto.store rfl rfl (.there (.there (.there .here))) ty_23 rfl rfl) rfl rfl (RunK.toA (.cons .here rfl (.cons .here rfl (.cons (.there (.there .here)) rfl .nil))) (.cons .here rfl (.cons .here rfl (.cons .here rfl .nil))) rfl ?_)
    refine RunA.one (i := 9) (by kernel_rfl) (by kernel_rfl) ?_
    refine RunI.sto rfl (Sto.store rfl rfl (.there (.there .here)) ty_23 rfl rfl) rfl rfl (RunK.toA (.cons .here rfl (.cons .here rfl (.cons (.there (.there .here)) rfl .nil))) (.cons .here rfl (.cons .here rfl (.cons .here rfl .nil))) rfl ?_)
    refine RunA.toB (by kernel_rfl) ?_
    refine RunB.one (i := 10) (by kernel_rfl) ?_
    refine RunI.val rfl (Val.pure rfl) rfl rfl rfl (RunK.toB ?_)
    refine RunB.done (by kernel_rfl) ?_
    refine RunE.next ?_
    refine RunC.ret ?_
    exact RunE.retP (.r3 rfl (.agg rfl (.tail _ (.tail _ (.tail _ (.head _)))) ty_23 rfl) (.agg rfl (.tail _ (.tail _ (.head _))) ty_23 rfl) (.tmp rfl)) (by first | rfl | simp_all [seenR5, b2v])
end Go.Proofs.Ytjijeeadmhpfcaa
