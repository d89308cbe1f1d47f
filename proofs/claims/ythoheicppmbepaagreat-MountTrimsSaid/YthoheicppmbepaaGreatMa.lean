/- Walks of package mount: what each small function returns; cards are opened. -/
import Derived.Test.YthoheicppmbepaaGreatMy1
import Derived.Test.YthoheicppmbepaaGreatMx
import Derived.Test.YthoheicppmbepaaGreatPh
set_option linter.unusedSimpArgs false
set_option linter.unusedVariables false
namespace Go.Proofs.YthoheicppmbepaaGreat
open Go Go.Eng Go.Pw1

theorem mwithin_calls (n lo hi : Int) (W : World) : Calls Tryz.prog 57 #[.int .i64 n, .int .i64 lo, .int .i64 hi] W (Pure (.bool (within n lo hi)) W) := by
  refine calls_start Tryz.func57 rfl rfl ?_
  refine RunC.seq ?_
  refine RunC.region ?_
  refine RunL.val (Val.pure rfl) rfl rfl rfl ?_
  refine RunL.nil ?_
  refine RunE.next ?_
  refine RunC.seq ?_
  refine RunC.region ?_
  iterate 4 refine RunL.val (Val.pure rfl) rfl rfl rfl ?_
  refine RunL.andPart (dj := 10) (dp := 14) 4 rfl (fun g10 => by
    have g10' := g10
    try simp only [decide_eq_true_eq, decide_eq_false_iff_not, Bool.not_eq_true', Bool.not_eq_false', Bool.and_eq_true, Bool.or_eq_true, Bool.and_eq_false_iff, Bool.or_eq_false_iff, Int.not_le, Int.not_lt] at g10'
    iterate 4 refine RunL.val (Val.pure rfl) rfl rfl rfl ?_
    exact RunL.segEnd (Sub.cons rfl (Sub.skip rfl (Sub.skip rfl (Sub.skip rfl (Sub.skip rfl (Sub.same rfl (by rw [g10]) (Sub.refl _))))))) (List.Sublist.refl _)
  ) (fun g10 => by
    have g10' := g10
    try simp only [decide_eq_true_eq, decide_eq_false_iff_not, Bool.not_eq_true', Bool.not_eq_false', Bool.and_eq_true, Bool.or_eq_true, Bool.and_eq_false_iff, Bool.or_eq_false_iff, Int.not_le, Int.not_lt] at g10'
    iterate 3 refine RunL.no rfl rfl rfl ?_
    refine RunL.val (Val.pure rfl) rfl rfl rfl ?_
    exact RunL.segEnd (Sub.cons rfl (Sub.skip rfl (Sub.skip rfl (Sub.skip rfl (Sub.skip rfl (Sub.same rfl (by rw [g10]) (Sub.refl _))))))) (List.Sublist.refl _)
  ) ?_
  refine RunL.val (Val.pure rfl) rfl rfl rfl ?_
  refine RunL.nil ?_
  refine RunE.next ?_
  refine RunC.ret ?_
  exact RunE.retP (.r1 rfl (.tmp rfl)) (by first | rfl | simp)
theorem edgesOf_calls (x1 x2 x3 x4 : Int) (W : World) : Calls Tryz.prog 28 #[.agg #[.int .i64 x1, .int .i64 x2, .int .i64 x3, .int .i64 x4]] W (Pure (.agg #[.int .i64 x1, .int .i64 x2, .int .i64 x3, .int .i64 x4]) W) := by
  refine calls_start Tryz.func28 rfl rfl ?_
  refine RunC.seq ?_
  refine RunC.region ?_
  refine RunL.new (New.box rfl) rfl rfl rfl (fun b1 => ?_)
  refine RunL.new (New.alloc zero_60) rfl rfl rfl (fun b2 => ?_)
  refine RunL.nil ?_
  refine RunE.next ?_
  refine RunC.seq ?_
  refine RunC.region ?_
  refine RunL.val (Val.fieldAddr rfl fld_30_0) rfl rfl rfl ?_
  refine RunL.val (Val.load_one rfl (.tail _ (.head _)) ty_3 rfl) rfl rfl rfl ?_
  refine RunL.val (Val.fieldAddr rfl fld_30_1) rfl rfl rfl ?_
  refine RunL.val (Val.load_one rfl (.tail _ (.head _)) ty_3 rfl) rfl rfl rfl ?_
  refine RunL.val (Val.fieldAddr rfl fld_30_2) rfl rfl rfl ?_
  refine RunL.val (Val.load_one rfl (.tail _ (.head _)) ty_3 rfl) rfl rfl rfl ?_
  refine RunL.val (Val.fieldAddr rfl fld_30_3) rfl rfl rfl ?_
  refine RunL.val (Val.load_one rfl (.tail _ (.head _)) ty_3 rfl) rfl rfl rfl ?_
  refine RunL.val (Val.build (parts := [(0, .tmp 4), (1, .tmp 6), (2, .tmp 8), (3, .tmp 10)]) rfl zero_60 places_60 rfl) rfl rfl rfl ?_
  refine RunL.sto (Sto.store rfl rfl .here ty_60 rfl rfl) rfl rfl ?_
  refine RunL.nil ?_
  refine RunE.next ?_
  refine RunC.ret ?_
  exact RunE.retP (.r1 rfl (.agg rfl (.head _) ty_60 rfl)) (by first | rfl | simp)
theorem ecuts_calls (x1 x2 x3 x4 : Int) (W : World) : Calls Tryz.prog 50 #[.agg #[.int .i64 x1, .int .i64 x2, .int .i64 x3, .int .i64 x4]] W (Pure (.agg #[.int .i64 x1, .int .i64 x2, .int .i64 x3, .int .i64 x4]) W) := by
  refine calls_start Tryz.func50 rfl rfl ?_
  refine RunC.seq ?_
  refine RunC.region ?_
  refine RunL.new (New.box rfl) rfl rfl rfl (fun b1 => ?_)
  refine RunL.new (New.alloc zero_30) rfl rfl rfl (fun b2 => ?_)
  refine RunL.nil ?_
  refine RunE.next ?_
  refine RunC.seq ?_
  refine RunC.region ?_
  refine RunL.val (Val.indexAddr_arr rfl rfl arr_60 (by decide) (by decide)) rfl rfl rfl ?_
  refine RunL.val (Val.load_one rfl (.tail _ (.head _)) ty_3 rfl) rfl rfl rfl ?_
  refine RunL.val (Val.indexAddr_arr rfl rfl arr_60 (by decide) (by decide)) rfl rfl rfl ?_
  refine RunL.val (Val.load_one rfl (.tail _ (.head _)) ty_3 rfl) rfl rfl rfl ?_
  refine RunL.val (Val.indexAddr_arr rfl rfl arr_60 (by decide) (by decide)) rfl rfl rfl ?_
  refine RunL.val (Val.load_one rfl (.tail _ (.head _)) ty_3 rfl) rfl rfl rfl ?_
  refine RunL.val (Val.indexAddr_arr rfl rfl arr_60 (by decide) (by decide)) rfl rfl rfl ?_
  refine RunL.val (Val.load_one rfl (.tail _ (.head _)) ty_3 rfl) rfl rfl rfl ?_
  refine RunL.val (Val.build (parts := [(0, .tmp 4), (1, .tmp 6), (2, .tmp 8), (3, .tmp 10)]) rfl zero_30 places_30 rfl) rfl rfl rfl ?_
  refine RunL.sto (Sto.store rfl rfl .here ty_30 rfl rfl) rfl rfl ?_
  refine RunL.nil ?_
  refine RunE.next ?_
  refine RunC.ret ?_
  exact RunE.retP (.r1 rfl (.agg rfl (.head _) ty_30 rfl)) (by first | rfl | simp)
theorem mempty_calls (b : Int × Int) (W : World) : Calls Tryz.prog 34 #[.agg #[.int .i64 b.1, .int .i64 b.2]] W (Pure (.bool (decide (b.2 < b.1))) W) := by
  refine calls_start Tryz.func34 rfl rfl ?_
  refine RunC.seq ?_
  refine RunC.region ?_
  refine RunL.new (New.box rfl) rfl rfl rfl (fun b1 => ?_)
  refine RunL.val (Val.pure rfl) rfl rfl rfl ?_
  refine RunL.nil ?_
  refine RunE.next ?_
  refine RunC.seq ?_
  refine RunC.region ?_
  refine RunL.val (Val.fieldAddr rfl fld_68_0) rfl rfl rfl ?_
  refine RunL.val (Val.load_one rfl (.head _) ty_3 rfl) rfl rfl rfl ?_
  refine RunL.val (Val.fieldAddr rfl fld_68_1) rfl rfl rfl ?_
  refine RunL.val (Val.load_one rfl (.head _) ty_3 rfl) rfl rfl rfl ?_
  refine RunL.val (Val.pure rfl) rfl rfl rfl ?_
  refine RunL.val (Val.pure rfl) rfl rfl rfl ?_
  refine RunL.nil ?_
  refine RunE.next ?_
  refine RunC.ret ?_
  exact RunE.retP (.r1 rfl (.tmp rfl)) (by first | rfl | simp)
theorem mspan_calls (b : Int × Int) (W : World) : Calls Tryz.prog 35 #[.agg #[.int .i64 b.1, .int .i64 b.2]] W (Pure (.agg #[.int .i64 b.1, .int .i64 b.2]) W) := by
  refine calls_start Tryz.func35 rfl rfl ?_
  refine RunC.seq ?_
  refine RunC.region ?_
  refine RunL.new (New.box rfl) rfl rfl rfl (fun b1 => ?_)
  refine RunL.new (New.alloc zero_23) rfl rfl rfl (fun b2 => ?_)
  refine RunL.nil ?_
  refine RunE.next ?_
  refine RunC.seq ?_
  refine RunC.region ?_
  refine RunL.val (Val.fieldAddr rfl fld_68_0) rfl rfl rfl ?_
  refine RunL.val (Val.load_one rfl (.tail _ (.head _)) ty_3 rfl) rfl rfl rfl ?_
  refine RunL.val (Val.fieldAddr rfl fld_68_1) rfl rfl rfl ?_
  refine RunL.val (Val.load_one rfl (.tail _ (.head _)) ty_3 rfl) rfl rfl rfl ?_
  refine RunL.val (Val.build (parts := [(0, .tmp 4), (1, .tmp 6)]) rfl zero_23 places_23 rfl) rfl rfl rfl ?_
  refine RunL.sto (Sto.store rfl rfl .here ty_23 rfl rfl) rfl rfl ?_
  refine RunL.nil ?_
  refine RunE.next ?_
  refine RunC.ret ?_
  exact RunE.retP (.r1 rfl (.agg rfl (.head _) ty_23 rfl)) (by first | rfl | simp)
theorem isBad_calls (n : Int) (W : World) : Calls Tryz.prog 80 #[.int .i64 n] W (Pure (.bool (badM n)) W) := by
  refine calls_start Tryz.func80 rfl rfl ?_
  refine RunC.seq ?_
  refine RunC.region ?_
  refine RunL.val (Val.pure rfl) rfl rfl rfl ?_
  refine RunL.nil ?_
  refine RunE.next ?_
  refine RunC.seq ?_
  refine RunC.region ?_
  refine RunL.val (Val.pure rfl) rfl rfl rfl ?_
  refine RunL.callP (isCall_func rfl ent_57) rfl rfl rfl (fun w hm => mwithin_calls _ _ _ w) ?_
  refine RunL.val (Val.pure rfl) rfl rfl rfl ?_
  refine RunL.val (Val.pure rfl) rfl rfl rfl ?_
  refine RunL.nil ?_
  refine RunE.next ?_
  refine RunC.ret ?_
  exact RunE.retP (.r1 rfl (.tmp rfl)) (by first | rfl | simp)
theorem openBad_calls (c : Cd) (q : Option Addr) (cap : Nat) (n : Int) (b : Nat) (W : World) (hb : W.heap[b]? = some (.cells (c.cells q cap).toArray 28 (0, 0))) : Calls Tryz.prog 56 #[.int .i64 n, .pointer (some ⟨b, 0, none⟩)] W (Pure (.bool (badT c n)) W) := by
  refine calls_start Tryz.func56 rfl rfl ?_
  refine RunC.seq ?_
  refine RunC.region ?_
  refine RunL.val (Val.pure rfl) rfl rfl rfl ?_
  refine RunL.nil ?_
  refine RunE.next ?_
  refine RunC.seq ?_
  refine RunC.region ?_
  refine RunL.val (Val.pure rfl) rfl rfl rfl ?_
  refine RunL.val (Val.fieldAddr rfl fld_28_3) rfl rfl rfl ?_
  refine RunL.val (Val.oload_one rfl hb (by simp) ty_3 rfl) rfl rfl rfl ?_
  refine RunL.callP (isCall_func rfl ent_57) rfl rfl rfl (fun w hm => mwithin_calls _ _ _ w) ?_
  refine RunL.val (Val.pure rfl) rfl rfl rfl ?_
  refine RunL.val (Val.pure rfl) rfl rfl rfl ?_
  refine RunL.nil ?_
  refine RunE.next ?_
  refine RunC.ret ?_
  exact RunE.retP (.r1 rfl (.tmp rfl)) (by first | rfl | simp)
theorem indexFuncI_calls (f : Int → Bool) (l : List Int) (q : Option Addr) (b o cap : Nat) (fn : FuncId) (cp : List Value) (W : World) (hS : Sl W q b o 1 (l.map fun n => [.int .i64 n])) (hl : l.length ≤ 100000000000) (he : Enters Tryz.prog fn)
    (hf : ∀ t ∈ l, ∀ w, Mem W [] [] w → Calls Tryz.prog fn ([Value.int .i64 t] ++ cp).toArray w (Pure (.bool (f t)) w)) :
    Calls Tryz.prog 81 #[.slice q l.length cap, .func (.func fn) #[] cp.toArray] W (Pure (.int .i64 (idxF f l)) W) := by
  refine calls_start Tryz.func81 rfl rfl ?_
  refine RunC.seq ?_
  refine RunC.region ?_
  refine RunL.val (Val.pure rfl) rfl rfl rfl ?_
  refine RunL.nil ?_
  refine RunE.next ?_
  refine RunC.seq ?_
  refine RunC.seq ?_
  refine RunC.region ?_
  refine RunL.val (Val.pure rfl) rfl rfl rfl ?_
  refine RunL.val (Val.len_sl rfl sl_55) rfl rfl rfl ?_
  refine RunL.val (Val.pure rfl) rfl rfl rfl ?_
  refine RunL.nil ?_
  refine RunE.next ?_
  refine RunC.block ?_
  refine RunC.loopK (l.length) (fun k q => (8, .int .i64 (k : Int)) :: q) (fun _ => _) (fun _ => []) (fun k => (l.take k).any f = false) (by simp) rfl (Sub.consE (t := 8) rfl rfl (Sub.cons (t := 0) rfl (Sub.cons (t := 1) rfl (Sub.cons (t := 7) rfl (Sub.nil _))))) .nil ?_
  intro k kN kI
  refine RunC.seq ?_
  refine RunC.region ?_
  refine RunL.val (Val.pure rfl) rfl rfl rfl ?_
  refine RunL.nil ?_
  refine RunE.next ?_
  refine RunC.seq ?_
  refine RunC.cond rfl ?_ ?_
  · intro c0
    have c0' := c0; clear c0
    try simp only [decide_eq_true_eq, decide_eq_false_iff_not, Bool.not_eq_true', Bool.not_eq_false', Bool.and_eq_true, Bool.or_eq_true, Bool.and_eq_false_iff, Bool.or_eq_false_iff, Int.not_le, Int.not_lt] at c0'
    have hk : k < l.length := by omega
    refine RunC.skip ?_
    refine RunE.next ?_
    refine RunC.seq ?_
    refine RunC.block ?_
    refine RunC.seq ?_
    refine RunC.region ?_
    refine RunL.val (Val.pure rfl) rfl rfl rfl ?_
    refine RunL.val (Val.pure rfl) rfl rfl rfl ?_
    refine RunL.nil ?_
    refine RunE.next ?_
    refine RunC.seq ?_
    refine RunC.region ?_
    iterate 3 refine RunL.val (Val.pure rfl) rfl rfl rfl ?_
    refine RunL.val (Val.indexAddr_slp rfl rfl sl_55 (by omega) (by omega) (hS.ptrM hk)) rfl rfl rfl ?_
    refine RunL.val (Val.load_gen rfl (fun w hm => hS.loadM1 (by decide) hm (by simp) ty_3 hk (v := .int .i64 l[k]) rfl)) rfl rfl rfl ?_
    refine RunL.callP (isCall_value rfl rfl he) rfl rfl rfl (fun w hm => hf _ (List.getElem_mem hk) w hm.drop) ?_
    refine RunL.nil ?_
    refine RunE.next ?_
    refine RunC.cond rfl ?_ ?_
    · intro c1
      have c1' := c1; clear c1
      try simp only [decide_eq_true_eq, decide_eq_false_iff_not, Bool.not_eq_true', Bool.not_eq_false', Bool.and_eq_true, Bool.or_eq_true, Bool.and_eq_false_iff, Bool.or_eq_false_iff, Int.not_le, Int.not_lt] at c1'
      refine RunC.seq ?_
      refine RunC.region ?_
      refine RunL.val (Val.pure rfl) rfl rfl rfl ?_
      refine RunL.val (Val.pure rfl) rfl rfl rfl ?_
      refine RunL.nil ?_
      refine RunE.next ?_
      refine RunC.ret ?_
      refine RunE.block_ret ?_
      refine RunE.pass_ret ?_
      refine RunE.pass_ret ?_
      refine RunE.block_ret ?_
      refine RunE.pass_ret ?_
      exact RunE.retP (.r1 rfl (.tmp rfl)) (by rw [idxF_hit f l k hk kI c1'])
    · intro c1
      have c1' := c1; clear c1
      try simp only [decide_eq_true_eq, decide_eq_false_iff_not, Bool.not_eq_true', Bool.not_eq_false', Bool.and_eq_true, Bool.or_eq_true, Bool.and_eq_false_iff, Bool.or_eq_false_iff, Int.not_le, Int.not_lt] at c1'
      refine RunC.skip ?_
      refine RunE.block_normal ?_
      refine RunE.next ?_
      refine RunC.region ?_
      refine RunL.val (Val.add rfl rfl (IntWalk.i64_in _ ⟨by omega, by omega⟩)) rfl rfl rfl ?_
      refine RunL.val (Val.pure rfl) rfl rfl rfl ?_
      refine RunL.nil ?_
      exact RunE.round (by omega) (any_snoc hk kI c1') rfl (Sub.consE (t := 8) rfl rfl (Sub.cons (t := 0) rfl (Sub.cons (t := 1) rfl (Sub.cons (t := 7) rfl (Sub.nil _))))) .nil
  · intro c0
    have c0' := c0; clear c0
    try simp only [decide_eq_true_eq, decide_eq_false_iff_not, Bool.not_eq_true', Bool.not_eq_false', Bool.and_eq_true, Bool.or_eq_true, Bool.and_eq_false_iff, Bool.or_eq_false_iff, Int.not_le, Int.not_lt] at c0'
    obtain rfl : k = l.length := by omega
    rw [List.take_length] at kI
    refine RunC.exit ?_
    refine RunE.pass_exit ?_
    refine RunE.pass_exit ?_
    refine RunE.block_here ?_
    refine RunE.next ?_
    refine RunC.seq ?_
    refine RunC.region ?_
    refine RunL.val (Val.pure rfl) rfl rfl rfl ?_
    refine RunL.nil ?_
    refine RunE.next ?_
    refine RunC.ret ?_
    exact RunE.retP (.r1 rfl (.tmp rfl)) (by rw [idxF_none f l kI])
theorem containsFuncI_calls (f : Int → Bool) (l : List Int) (q : Option Addr) (b o cap : Nat) (fn : FuncId) (cp : List Value) (W : World) (hS : Sl W q b o 1 (l.map fun n => [.int .i64 n])) (hl : l.length ≤ 100000000000) (he : Enters Tryz.prog fn)
    (hf : ∀ t ∈ l, ∀ w, Mem W [] [] w → Calls Tryz.prog fn ([Value.int .i64 t] ++ cp).toArray w (Pure (.bool (f t)) w)) :
    Calls Tryz.prog 58 #[.slice q l.length cap, .func (.func fn) #[] cp.toArray] W (Pure (.bool (l.any f)) W) := by
  refine calls_start Tryz.func58 rfl rfl ?_
  refine RunC.seq ?_
  refine RunC.region ?_
  refine RunL.val (Val.pure rfl) rfl rfl rfl ?_
  refine RunL.nil ?_
  refine RunE.next ?_
  refine RunC.seq ?_
  refine RunC.region ?_
  refine RunL.val (Val.pure rfl) rfl rfl rfl ?_
  refine RunL.val (Val.pure rfl) rfl rfl rfl ?_
  refine RunL.callP (isCall_func rfl ent_81) rfl rfl rfl (fun w hm => indexFuncI_calls f l q b o cap fn cp w (hS.mono (by decide) hm (by simp)) hl he (fun t ht w2 hm2 => hf t ht w2 ((hm.drop).pass hm2))) ?_
  refine RunL.val (Val.pure rfl) rfl rfl rfl ?_
  refine RunL.val (Val.pure rfl) rfl rfl rfl ?_
  refine RunL.nil ?_
  refine RunE.next ?_
  refine RunC.ret ?_
  exact RunE.retP (.r1 rfl (.tmp rfl)) (by rw [← idxF_any])
theorem isCard_calls (c : Cd) (q : Option Addr) (b o cap : Nat) (W : World) (hS : Sl W q b o 9 (c.p.things.map Th.cells)) (hl : c.p.things.length ≤ 100000000000) :
    Calls Tryz.prog 55 #[c.v q cap] W (Pure (.tuple #[.bool (cardIs c), .int .i64 (powerX c.p).2]) W) := by
  refine calls_start Tryz.func55 rfl rfl ?_
  refine RunC.seq ?_
  refine RunC.region ?_
  refine RunL.new (New.box rfl) rfl rfl rfl (fun b1 => ?_)
  refine RunL.val (Val.pure rfl) rfl rfl rfl ?_
  refine RunL.val (Val.pure rfl) rfl rfl rfl ?_
  refine RunL.nil ?_
  refine RunE.next ?_
  refine RunC.seq ?_
  refine RunC.region ?_
  refine RunL.val (Val.fieldAddr rfl fld_28_0) rfl rfl rfl ?_
  refine RunL.val (Val.load_agg rfl (.head _) ty_26 rfl) rfl rfl rfl ?_
  refine RunL.callP (isCall_func rfl ent_79) rfl rfl rfl (fun w hm => Power_calls c.p q b o cap w (hS.mono (by decide) hm (by simp)) hl) ?_
  iterate 3 refine RunL.val (Val.pure rfl) rfl rfl rfl ?_
  refine RunL.new (New.alloc zero_23) rfl rfl rfl (fun b4 => ?_)
  refine RunL.sto (Sto.store rfl rfl .here ty_23 rfl rfl) rfl rfl ?_
  refine RunL.val (Val.pure rfl) rfl rfl rfl ?_
  refine RunL.nil ?_
  refine RunE.next ?_
  refine RunC.seq ?_
  refine RunC.region ?_
  refine RunL.val (Val.fieldAddr rfl fld_28_1) rfl rfl rfl ?_
  refine RunL.val (Val.load_one rfl (.tail _ (.head _)) ty_3 rfl) rfl rfl rfl ?_
  refine RunL.callP (isCall_func rfl ent_57) rfl rfl rfl (fun w hm => mwithin_calls _ _ _ w) ?_
  refine RunL.val (Val.pure rfl) rfl rfl rfl ?_
  refine RunL.andPart (dj := 18) (dp := 22) 4 rfl (fun g18 => by
    have g18' := g18
    try simp only [decide_eq_true_eq, decide_eq_false_iff_not, Bool.not_eq_true', Bool.not_eq_false', Bool.and_eq_true, Bool.or_eq_true, Bool.and_eq_false_iff, Bool.or_eq_false_iff, Int.not_le, Int.not_lt] at g18'
    refine RunL.val (Val.fieldAddr rfl fld_28_2) rfl rfl rfl ?_
    refine RunL.val (Val.load_one rfl (.tail _ (.head _)) ty_3 rfl) rfl rfl rfl ?_
    refine RunL.callP (isCall_func rfl ent_57) rfl rfl rfl (fun w hm => mwithin_calls _ _ _ w) ?_
    refine RunL.val (Val.pure rfl) rfl rfl rfl ?_
    exact RunL.segEnd (Sub.cons rfl (Sub.skip rfl (Sub.skip rfl (Sub.skip rfl (Sub.skip rfl (Sub.same rfl (by rw [g18]) (Sub.refl _))))))) (List.Sublist.refl _)
  ) (fun g18 => by
    have g18' := g18
    try simp only [decide_eq_true_eq, decide_eq_false_iff_not, Bool.not_eq_true', Bool.not_eq_false', Bool.and_eq_true, Bool.or_eq_true, Bool.and_eq_false_iff, Bool.or_eq_false_iff, Int.not_le, Int.not_lt] at g18'
    iterate 3 refine RunL.no rfl rfl rfl ?_
    refine RunL.val (Val.pure rfl) rfl rfl rfl ?_
    exact RunL.segEnd (Sub.cons rfl (Sub.skip rfl (Sub.skip rfl (Sub.skip rfl (Sub.skip rfl (Sub.same rfl (by rw [g18]) (Sub.refl _))))))) (List.Sublist.refl _)
  ) ?_
  refine RunL.val (Val.pure rfl) rfl rfl rfl ?_
  refine RunL.andPart (dj := 23) (dp := 27) 4 rfl (fun g23 => by
    have g23' := g23
    try simp only [decide_eq_true_eq, decide_eq_false_iff_not, Bool.not_eq_true', Bool.not_eq_false', Bool.and_eq_true, Bool.or_eq_true, Bool.and_eq_false_iff, Bool.or_eq_false_iff, Int.not_le, Int.not_lt] at g23'
    refine RunL.val (Val.fieldAddr rfl fld_28_3) rfl rfl rfl ?_
    refine RunL.val (Val.load_one rfl (.tail _ (.head _)) ty_3 rfl) rfl rfl rfl ?_
    refine RunL.callP (isCall_func rfl ent_57) rfl rfl rfl (fun w hm => mwithin_calls _ _ _ w) ?_
    refine RunL.val (Val.pure rfl) rfl rfl rfl ?_
    exact RunL.segEnd (Sub.cons rfl (Sub.skip rfl (Sub.skip rfl (Sub.skip rfl (Sub.skip rfl (Sub.same rfl (by rw [g23]) (Sub.refl _))))))) (List.Sublist.refl _)
  ) (fun g23 => by
    have g23' := g23
    try simp only [decide_eq_true_eq, decide_eq_false_iff_not, Bool.not_eq_true', Bool.not_eq_false', Bool.and_eq_true, Bool.or_eq_true, Bool.and_eq_false_iff, Bool.or_eq_false_iff, Int.not_le, Int.not_lt] at g23'
    iterate 3 refine RunL.no rfl rfl rfl ?_
    refine RunL.val (Val.pure rfl) rfl rfl rfl ?_
    exact RunL.segEnd (Sub.cons rfl (Sub.skip rfl (Sub.skip rfl (Sub.skip rfl (Sub.skip rfl (Sub.same rfl (by rw [g23]) (Sub.refl _))))))) (List.Sublist.refl _)
  ) ?_
  refine RunL.val (Val.pure rfl) rfl rfl rfl ?_
  refine RunL.nil ?_
  refine RunE.next ?_
  refine RunC.seq ?_
  refine RunC.region ?_
  refine RunL.val (Val.fieldAddr rfl fld_28_4) rfl rfl rfl ?_
  refine RunL.val (Val.fieldAddr rfl fld_23_0) rfl rfl rfl ?_
  refine RunL.val (Val.load_one rfl (.tail _ (.head _)) ty_3 rfl) rfl rfl rfl ?_
  refine RunL.val (Val.pure rfl) rfl rfl rfl ?_
  refine RunL.val (Val.pure rfl) rfl rfl rfl ?_
  refine RunL.andPart (dj := 32) (dp := 40) 8 rfl (fun g32 => by
    have g32' := g32
    try simp only [decide_eq_true_eq, decide_eq_false_iff_not, Bool.not_eq_true', Bool.not_eq_false', Bool.and_eq_true, Bool.or_eq_true, Bool.and_eq_false_iff, Bool.or_eq_false_iff, Int.not_le, Int.not_lt] at g32'
    refine RunL.val (Val.fieldAddr rfl fld_28_4) rfl rfl rfl ?_
    refine RunL.val (Val.fieldAddr rfl fld_23_0) rfl rfl rfl ?_
    refine RunL.val (Val.load_one rfl (.tail _ (.head _)) ty_3 rfl) rfl rfl rfl ?_
    refine RunL.val (Val.fieldAddr rfl fld_28_4) rfl rfl rfl ?_
    refine RunL.val (Val.fieldAddr rfl fld_23_1) rfl rfl rfl ?_
    refine RunL.val (Val.load_one rfl (.tail _ (.head _)) ty_3 rfl) rfl rfl rfl ?_
    refine RunL.val (Val.pure rfl) rfl rfl rfl ?_
    refine RunL.val (Val.pure rfl) rfl rfl rfl ?_
    exact RunL.segEnd (Sub.cons rfl (Sub.skip rfl (Sub.skip rfl (Sub.skip rfl (Sub.skip rfl (Sub.skip rfl (Sub.skip rfl (Sub.skip rfl (Sub.skip rfl (Sub.same rfl (by rw [g32]) (Sub.refl _))))))))))) (List.Sublist.refl _)
  ) (fun g32 => by
    have g32' := g32
    try simp only [decide_eq_true_eq, decide_eq_false_iff_not, Bool.not_eq_true', Bool.not_eq_false', Bool.and_eq_true, Bool.or_eq_true, Bool.and_eq_false_iff, Bool.or_eq_false_iff, Int.not_le, Int.not_lt] at g32'
    iterate 7 refine RunL.no rfl rfl rfl ?_
    refine RunL.val (Val.pure rfl) rfl rfl rfl ?_
    exact RunL.segEnd (Sub.cons rfl (Sub.skip rfl (Sub.skip rfl (Sub.skip rfl (Sub.skip rfl (Sub.skip rfl (Sub.skip rfl (Sub.skip rfl (Sub.skip rfl (Sub.same rfl (by rw [g32]) (Sub.refl _))))))))))) (List.Sublist.refl _)
  ) ?_
  refine RunL.val (Val.pure rfl) rfl rfl rfl ?_
  refine RunL.andPart (dj := 41) (dp := 46) 5 rfl (fun g41 => by
    have g41' := g41
    try simp only [decide_eq_true_eq, decide_eq_false_iff_not, Bool.not_eq_true', Bool.not_eq_false', Bool.and_eq_true, Bool.or_eq_true, Bool.and_eq_false_iff, Bool.or_eq_false_iff, Int.not_le, Int.not_lt] at g41'
    refine RunL.val (Val.fieldAddr rfl fld_28_4) rfl rfl rfl ?_
    refine RunL.val (Val.fieldAddr rfl fld_23_1) rfl rfl rfl ?_
    refine RunL.val (Val.load_one rfl (.tail _ (.head _)) ty_3 rfl) rfl rfl rfl ?_
    refine RunL.val (Val.pure rfl) rfl rfl rfl ?_
    refine RunL.val (Val.pure rfl) rfl rfl rfl ?_
    exact RunL.segEnd (Sub.cons rfl (Sub.skip rfl (Sub.skip rfl (Sub.skip rfl (Sub.skip rfl (Sub.skip rfl (Sub.same rfl (by rw [g41]) (Sub.refl _)))))))) (List.Sublist.refl _)
  ) (fun g41 => by
    have g41' := g41
    try simp only [decide_eq_true_eq, decide_eq_false_iff_not, Bool.not_eq_true', Bool.not_eq_false', Bool.and_eq_true, Bool.or_eq_true, Bool.and_eq_false_iff, Bool.or_eq_false_iff, Int.not_le, Int.not_lt] at g41'
    iterate 4 refine RunL.no rfl rfl rfl ?_
    refine RunL.val (Val.pure rfl) rfl rfl rfl ?_
    exact RunL.segEnd (Sub.cons rfl (Sub.skip rfl (Sub.skip rfl (Sub.skip rfl (Sub.skip rfl (Sub.skip rfl (Sub.same rfl (by rw [g41]) (Sub.refl _)))))))) (List.Sublist.refl _)
  ) ?_
  refine RunL.val (Val.pure rfl) rfl rfl rfl ?_
  refine RunL.nil ?_
  refine RunE.next ?_
  refine RunC.seq ?_
  refine RunC.region ?_
  refine RunL.val (Val.pure rfl) rfl rfl rfl ?_
  refine RunL.nil ?_
  refine RunE.next ?_
  refine RunC.seq ?_
  refine RunC.region ?_
  iterate 3 refine RunL.val (Val.pure rfl) rfl rfl rfl ?_
  refine RunL.andPart (dj := 49) (dp := 51) 2 rfl (fun g49 => by
    have g49' := g49
    try simp only [decide_eq_true_eq, decide_eq_false_iff_not, Bool.not_eq_true', Bool.not_eq_false', Bool.and_eq_true, Bool.or_eq_true, Bool.and_eq_false_iff, Bool.or_eq_false_iff, Int.not_le, Int.not_lt] at g49'
    refine RunL.val (Val.pure rfl) rfl rfl rfl ?_
    refine RunL.val (Val.pure rfl) rfl rfl rfl ?_
    exact RunL.segEnd (Sub.cons rfl (Sub.skip rfl (Sub.skip rfl (Sub.same rfl (by rw [g49]) (Sub.refl _))))) (List.Sublist.refl _)
  ) (fun g49 => by
    have g49' := g49
    try simp only [decide_eq_true_eq, decide_eq_false_iff_not, Bool.not_eq_true', Bool.not_eq_false', Bool.and_eq_true, Bool.or_eq_true, Bool.and_eq_false_iff, Bool.or_eq_false_iff, Int.not_le, Int.not_lt] at g49'
    refine RunL.no rfl rfl rfl ?_
    refine RunL.val (Val.pure rfl) rfl rfl rfl ?_
    exact RunL.segEnd (Sub.cons rfl (Sub.skip rfl (Sub.skip rfl (Sub.same rfl (by rw [g49]) (Sub.refl _))))) (List.Sublist.refl _)
  ) ?_
  refine RunL.val (Val.pure rfl) rfl rfl rfl ?_
  refine RunL.andPart (dj := 52) (dp := 54) 2 rfl (fun g52 => by
    have g52' := g52
    try simp only [decide_eq_true_eq, decide_eq_false_iff_not, Bool.not_eq_true', Bool.not_eq_false', Bool.and_eq_true, Bool.or_eq_true, Bool.and_eq_false_iff, Bool.or_eq_false_iff, Int.not_le, Int.not_lt] at g52'
    refine RunL.val (Val.pure rfl) rfl rfl rfl ?_
    refine RunL.val (Val.pure rfl) rfl rfl rfl ?_
    exact RunL.segEnd (Sub.cons rfl (Sub.skip rfl (Sub.skip rfl (Sub.same rfl (by rw [g52]) (Sub.refl _))))) (List.Sublist.refl _)
  ) (fun g52 => by
    have g52' := g52
    try simp only [decide_eq_true_eq, decide_eq_false_iff_not, Bool.not_eq_true', Bool.not_eq_false', Bool.and_eq_true, Bool.or_eq_true, Bool.and_eq_false_iff, Bool.or_eq_false_iff, Int.not_le, Int.not_lt] at g52'
    refine RunL.no rfl rfl rfl ?_
    refine RunL.val (Val.pure rfl) rfl rfl rfl ?_
    exact RunL.segEnd (Sub.cons rfl (Sub.skip rfl (Sub.skip rfl (Sub.same rfl (by rw [g52]) (Sub.refl _))))) (List.Sublist.refl _)
  ) ?_
  refine RunL.val (Val.pure rfl) rfl rfl rfl ?_
  refine RunL.andPart (dj := 55) (dp := 68) 13 rfl (fun g55 => by
    have g55' := g55
    try simp only [decide_eq_true_eq, decide_eq_false_iff_not, Bool.not_eq_true', Bool.not_eq_false', Bool.and_eq_true, Bool.or_eq_true, Bool.and_eq_false_iff, Bool.or_eq_false_iff, Int.not_le, Int.not_lt] at g55'
    refine RunL.val (Val.fieldAddr rfl fld_28_5) rfl rfl rfl ?_
    refine RunL.val (Val.load_one rfl (.tail _ (.head _)) ty_3 rfl) rfl rfl rfl ?_
    refine RunL.val (Val.fieldAddr rfl fld_28_6) rfl rfl rfl ?_
    refine RunL.val (Val.load_one rfl (.tail _ (.head _)) ty_3 rfl) rfl rfl rfl ?_
    refine RunL.val (Val.fieldAddr rfl fld_28_7) rfl rfl rfl ?_
    refine RunL.val (Val.load_one rfl (.tail _ (.head _)) ty_3 rfl) rfl rfl rfl ?_
    refine RunL.val (Val.fieldAddr rfl fld_28_8) rfl rfl rfl ?_
    refine RunL.val (Val.load_one rfl (.tail _ (.head _)) ty_3 rfl) rfl rfl rfl ?_
    refine RunL.new (New.buildSlice (parts := [(0, .tmp 57), (1, .tmp 59), (2, .tmp 61), (3, .tmp 63)]) rfl sl_55 zero_3 rfl rfl rfl rfl) rfl rfl rfl (fun b64 => ?_)
    refine RunL.val (Val.pure rfl) rfl rfl rfl ?_
    refine RunL.callP (isCall_func rfl ent_58) rfl rfl rfl (fun w hm => containsFuncI_calls badM [c.prism, c.squeeze, c.front, c.deep] (some ⟨b64, 0, none⟩) b64 0 4 80 [] w (Sl.row1 (hm.at (.head _))) (by simp) ent_80 (fun n _ w2 _ => isBad_calls n w2)) ?_
    refine RunL.val (Val.pure rfl) rfl rfl rfl ?_
    refine RunL.val (Val.pure rfl) rfl rfl rfl ?_
    exact RunL.segEnd (Sub.cons rfl (Sub.skip rfl (Sub.skip rfl (Sub.skip rfl (Sub.skip rfl (Sub.skip rfl (Sub.skip rfl (Sub.skip rfl (Sub.skip rfl (Sub.skip rfl (Sub.skip rfl (Sub.skip rfl (Sub.skip rfl (Sub.skip rfl (Sub.same rfl (by rw [g55]) (Sub.refl _)))))))))))))))) (.cons _ (List.Sublist.refl _))
  ) (fun g55 => by
    have g55' := g55
    try simp only [decide_eq_true_eq, decide_eq_false_iff_not, Bool.not_eq_true', Bool.not_eq_false', Bool.and_eq_true, Bool.or_eq_true, Bool.and_eq_false_iff, Bool.or_eq_false_iff, Int.not_le, Int.not_lt] at g55'
    iterate 12 refine RunL.no rfl rfl rfl ?_
    refine RunL.val (Val.pure rfl) rfl rfl rfl ?_
    exact RunL.segEnd (Sub.cons rfl (Sub.skip rfl (Sub.skip rfl (Sub.skip rfl (Sub.skip rfl (Sub.skip rfl (Sub.skip rfl (Sub.skip rfl (Sub.skip rfl (Sub.skip rfl (Sub.skip rfl (Sub.skip rfl (Sub.skip rfl (Sub.skip rfl (Sub.same rfl (by rw [g55]) (Sub.refl _)))))))))))))))) (List.Sublist.refl _)
  ) ?_
  iterate 3 refine RunL.val (Val.pure rfl) rfl rfl rfl ?_
  refine RunL.nil ?_
  refine RunE.next ?_
  refine RunC.ret ?_
  exact RunE.retP (.r2 rfl (.tmp rfl) (.tmp rfl)) (by simp [cardIs, sizesM, eyesM, Bool.and_assoc])
theorem seen_new (p : Pr) (k : Nat) : mIdx (entsV (seenK p k)) (k : Int) = none := mIdx_none fun e he => by
  obtain ⟨x, hx, rfl⟩ := List.mem_map.1 he
  obtain ⟨j, rfl, hj, _⟩ := seenK_lt p k x hx
  simp only
  omega
theorem open_err_calls (c : Cd) (l : List Tr) (k : Int) (hop : openM c l = k) (hk : k ≠ 0) (q : Option Addr) (b o cap : Nat) (q2 : Option Addr) (b2 o2 cap2 : Nat) (W : World) (hS : Sl W q b o 9 (c.p.things.map Th.cells)) (hl : c.p.things.length ≤ 100000000000)
    (hL : Sl W q2 b2 o2 4 (l.map Tr.cells)) (hl2 : l.length ≤ 100000) : Calls Tryz.prog 24 #[c.v q cap, .slice q2 l.length cap2] W (Pure (.tuple #[.pointer none, .int .i64 k]) W) := by
  refine calls_start Tryz.func24 rfl rfl ?_
  refine RunC.seq ?_
  refine RunC.region ?_
  refine RunL.new (New.box rfl) rfl rfl rfl (fun b2 => ?_)
  refine RunL.val (Val.pure rfl) rfl rfl rfl ?_
  refine RunL.val (Val.pure rfl) rfl rfl rfl ?_
  refine RunL.nil ?_
  refine RunE.next ?_
  refine RunC.seq ?_
  refine RunC.region ?_
  refine RunL.val (Val.load_agg rfl (.head _) ty_28 rfl) rfl rfl rfl ?_
  refine RunL.callP (isCall_func rfl ent_55) rfl rfl rfl (fun w hm => isCard_calls c q b o cap w (hS.mono (by decide) hm (by simp)) hl) ?_
  iterate 5 refine RunL.val (Val.pure rfl) rfl rfl rfl ?_
  refine RunL.nil ?_
  refine RunE.next ?_
  refine RunC.seq ?_
  refine RunC.seq ?_
  refine RunC.region ?_
  refine RunL.val (Val.pure rfl) rfl rfl rfl ?_
  refine RunL.val (Val.pure rfl) rfl rfl rfl ?_
  refine RunL.nil ?_
  refine RunE.next ?_
  refine RunC.cond rfl ?_ ?_
  · intro c0
    have c0' := c0; clear c0
    try simp only [decide_eq_true_eq, decide_eq_false_iff_not, Bool.not_eq_true', Bool.not_eq_false', Bool.and_eq_true, Bool.or_eq_true, Bool.and_eq_false_iff, Bool.or_eq_false_iff, Int.not_le, Int.not_lt] at c0'
    refine RunC.seq ?_
    refine RunC.region ?_
    refine RunL.val (Val.pure rfl) rfl rfl rfl ?_
    refine RunL.val (Val.pure rfl) rfl rfl rfl ?_
    refine RunL.nil ?_
    refine RunE.next ?_
    refine RunC.ret ?_
    refine RunE.pass_ret ?_
    exact RunE.retP (.r2 rfl (.tmp rfl) (.tmp rfl)) (by rw [← hop]; simp [openM, c0'])
  · intro c0
    have c0' := c0; clear c0
    try simp only [decide_eq_true_eq, decide_eq_false_iff_not, Bool.not_eq_true', Bool.not_eq_false', Bool.and_eq_true, Bool.or_eq_true, Bool.and_eq_false_iff, Bool.or_eq_false_iff, Int.not_le, Int.not_lt] at c0'
    have hci := cardIs_ok c0'
    have k2 := hci.1.c2
    refine RunC.skip ?_
    refine RunE.next ?_
    refine RunC.seq ?_
    refine RunC.seq ?_
    refine RunC.region ?_
    refine RunL.val (Val.pure rfl) rfl rfl rfl ?_
    refine RunL.val (Val.len_sl rfl sl_96) rfl rfl rfl ?_
    refine RunL.val (Val.pure rfl) rfl rfl rfl ?_
    refine RunL.nil ?_
    refine RunE.next ?_
    refine RunC.block ?_
    refine RunC.loopK (l.length) (fun k_ q => (27, .int .i64 (k_ : Int)) :: q) (fun _ => _) (fun _ => []) (fun k_ => (l.take k_).all (trIs c) = true) (by simp) rfl (Sub.consE (t := 27) rfl rfl (Sub.cons (t := 2) rfl (Sub.cons (t := 4) rfl (Sub.cons (t := 5) rfl (Sub.cons (t := 7) rfl (Sub.cons (t := 25) rfl (Sub.cons (t := 26) rfl (Sub.nil _)))))))) (.cons .here rfl .nil) ?_
    intro k_ k_N k_I
    refine RunC.seq ?_
    refine RunC.region ?_
    refine RunL.val (Val.pure rfl) rfl rfl rfl ?_
    refine RunL.nil ?_
    refine RunE.next ?_
    refine RunC.seq ?_
    refine RunC.cond rfl ?_ ?_
    · intro c1
      have c1' := c1; clear c1
      try simp only [decide_eq_true_eq, decide_eq_false_iff_not, Bool.not_eq_true', Bool.not_eq_false', Bool.and_eq_true, Bool.or_eq_true, Bool.and_eq_false_iff, Bool.or_eq_false_iff, Int.not_le, Int.not_lt] at c1'
      have hkl : k_ < l.length := by omega
      obtain ⟨t, ht⟩ : ∃ t, l[k_] = t := ⟨_, rfl⟩
      refine RunC.skip ?_
      refine RunE.next ?_
      refine RunC.seq ?_
      refine RunC.block ?_
      refine RunC.seq ?_
      refine RunC.region ?_
      refine RunL.val (Val.indexAddr_slp rfl rfl sl_96 (by omega) (by omega) (hL.ptrM hkl)) rfl rfl rfl ?_
      refine RunL.val (Val.load_gen rfl (fun w hm => hL.loadX (by decide) hm (by simp) ty_30 hkl ht)) rfl rfl rfl ?_
      refine RunL.new (New.alloc zero_30) rfl rfl rfl (fun b9 => ?_)
      refine RunL.sto (Sto.store rfl rfl .here ty_30 rfl rfl) rfl rfl ?_
      refine RunL.nil ?_
      refine RunE.next ?_
      refine RunC.seq ?_
      refine RunC.region ?_
      refine RunL.val (Val.load_agg rfl (.head _) ty_30 rfl) rfl rfl rfl ?_
      refine RunL.callP (isCall_func rfl ent_28) rfl rfl rfl (fun w hm => edgesOf_calls _ _ _ _ w) ?_
      refine RunL.new (New.alloc zero_60) rfl rfl rfl (fun b10 => ?_)
      refine RunL.sto (Sto.store rfl rfl .here ty_60 rfl rfl) rfl rfl ?_
      refine RunL.nil ?_
      refine RunE.next ?_
      refine RunC.seq ?_
      refine RunC.region ?_
      refine RunL.val (Val.pure rfl) rfl rfl rfl ?_
      refine RunL.val (Val.pure rfl) rfl rfl rfl ?_
      refine RunL.nil ?_
      refine RunE.next ?_
      refine RunC.seq ?_
      refine RunC.region ?_
      refine RunL.val (Val.sliceArr rfl arr_60) rfl rfl rfl ?_
      refine RunL.val (Val.pure rfl) rfl rfl rfl ?_
      refine RunL.callP (isCall_func rfl ent_58) rfl rfl rfl (fun w hm => containsFuncI_calls (badT c) [t.ll, t.lr, t.rl, t.rr] (some ⟨b10, 0, none⟩) b10 0 4 56 [_] w (Sl.row1 (hm.at (.head _))) (by simp) ent_56 (fun n _ w2 hm2 => openBad_calls c q cap n _ w2 (hm2.old_at (hm.at (.tail _ (.tail _ (.head _)))) (by simp)))) ?_
      refine RunL.val (Val.pure rfl) rfl rfl rfl ?_
      refine RunL.orPart (dj := 37) (dp := 49) 12 rfl (fun g37 => by
        have g37' := g37
        try simp only [decide_eq_true_eq, decide_eq_false_iff_not, Bool.not_eq_true', Bool.not_eq_false', Bool.and_eq_true, Bool.or_eq_true, Bool.and_eq_false_iff, Bool.or_eq_false_iff, Int.not_le, Int.not_lt] at g37'
        obtain ⟨t1, t2, t3, t4, t5, t6, t7, t8⟩ := badT_ok g37'
        refine RunL.val (Val.indexAddr_arr rfl rfl arr_60 (by decide) (by decide)) rfl rfl rfl ?_
        refine RunL.val (Val.load_one rfl (.head _) ty_3 rfl) rfl rfl rfl ?_
        refine RunL.val (Val.indexAddr_arr rfl rfl arr_60 (by decide) (by decide)) rfl rfl rfl ?_
        refine RunL.val (Val.load_one rfl (.head _) ty_3 rfl) rfl rfl rfl ?_
        refine RunL.val (Val.add rfl rfl (IntWalk.i64_in _ ⟨by omega, by omega⟩)) rfl rfl rfl ?_
        refine RunL.val (Val.indexAddr_arr rfl rfl arr_60 (by decide) (by decide)) rfl rfl rfl ?_
        refine RunL.val (Val.load_one rfl (.head _) ty_3 rfl) rfl rfl rfl ?_
        refine RunL.val (Val.indexAddr_arr rfl rfl arr_60 (by decide) (by decide)) rfl rfl rfl ?_
        refine RunL.val (Val.load_one rfl (.head _) ty_3 rfl) rfl rfl rfl ?_
        refine RunL.val (Val.add rfl rfl (IntWalk.i64_in _ ⟨by omega, by omega⟩)) rfl rfl rfl ?_
        refine RunL.val (Val.pure rfl) rfl rfl rfl ?_
        refine RunL.val (Val.pure rfl) rfl rfl rfl ?_
        exact RunL.segEnd (Sub.cons rfl (Sub.skip rfl (Sub.skip rfl (Sub.skip rfl (Sub.skip rfl (Sub.skip rfl (Sub.skip rfl (Sub.skip rfl (Sub.skip rfl (Sub.skip rfl (Sub.skip rfl (Sub.skip rfl (Sub.skip rfl (Sub.same rfl (by rw [g37]) (Sub.refl _))))))))))))))) (List.Sublist.refl _)
      ) (fun g37 => by
        have g37' := g37
        try simp only [decide_eq_true_eq, decide_eq_false_iff_not, Bool.not_eq_true', Bool.not_eq_false', Bool.and_eq_true, Bool.or_eq_true, Bool.and_eq_false_iff, Bool.or_eq_false_iff, Int.not_le, Int.not_lt] at g37'
        iterate 11 refine RunL.no rfl rfl rfl ?_
        refine RunL.val (Val.pure rfl) rfl rfl rfl ?_
        exact RunL.segEnd (Sub.cons rfl (Sub.skip rfl (Sub.skip rfl (Sub.skip rfl (Sub.skip rfl (Sub.skip rfl (Sub.skip rfl (Sub.skip rfl (Sub.skip rfl (Sub.skip rfl (Sub.skip rfl (Sub.skip rfl (Sub.skip rfl (Sub.same rfl (by rw [g37]) (Sub.refl _))))))))))))))) (List.Sublist.refl _)
      ) ?_
      refine RunL.nil ?_
      refine RunE.next ?_
      refine RunC.cond rfl ?_ ?_
      · intro c2
        have c2' := c2; clear c2
        try simp only [decide_eq_true_eq, decide_eq_false_iff_not, Bool.not_eq_true', Bool.not_eq_false', Bool.and_eq_true, Bool.or_eq_true, Bool.and_eq_false_iff, Bool.or_eq_false_iff, Int.not_le, Int.not_lt] at c2'
        have htr : trIs c t = false := by (first | (simp [trIs] at c2' ⊢; grind) | simp_all [trIs])
        refine RunC.seq ?_
        refine RunC.region ?_
        refine RunL.val (Val.pure rfl) rfl rfl rfl ?_
        refine RunL.val (Val.pure rfl) rfl rfl rfl ?_
        refine RunL.nil ?_
        refine RunE.next ?_
        refine RunC.ret ?_
        refine RunE.block_ret ?_
        refine RunE.pass_ret ?_
        refine RunE.pass_ret ?_
        refine RunE.block_ret ?_
        refine RunE.pass_ret ?_
        exact RunE.retP (.r2 rfl (.tmp rfl) (.tmp rfl)) (by rw [← hop]; simp [openM, c0', all_hit (f := trIs c) hkl (by rw [ht]; exact htr)])
      · intro c2
        have c2' := c2; clear c2
        try simp only [decide_eq_true_eq, decide_eq_false_iff_not, Bool.not_eq_true', Bool.not_eq_false', Bool.and_eq_true, Bool.or_eq_true, Bool.and_eq_false_iff, Bool.or_eq_false_iff, Int.not_le, Int.not_lt] at c2'
        have htr : trIs c t = true := by simp_all [trIs]
        refine RunC.skip ?_
        refine RunE.block_normal ?_
        refine RunE.next ?_
        refine RunC.region ?_
        refine RunL.val (Val.add rfl rfl (IntWalk.i64_in _ ⟨by omega, by omega⟩)) rfl rfl rfl ?_
        refine RunL.val (Val.pure rfl) rfl rfl rfl ?_
        refine RunL.nil ?_
        exact RunE.round (by omega) (all_snoc hkl k_I (by rw [ht]; exact htr)) rfl (Sub.consE (t := 27) rfl rfl (Sub.cons (t := 2) rfl (Sub.cons (t := 4) rfl (Sub.cons (t := 5) rfl (Sub.cons (t := 7) rfl (Sub.cons (t := 25) rfl (Sub.cons (t := 26) rfl (Sub.nil _)))))))) (.cons (.there (.there .here)) rfl .nil)
    · intro c1
      have c1' := c1; clear c1
      try simp only [decide_eq_true_eq, decide_eq_false_iff_not, Bool.not_eq_true', Bool.not_eq_false', Bool.and_eq_true, Bool.or_eq_true, Bool.and_eq_false_iff, Bool.or_eq_false_iff, Int.not_le, Int.not_lt] at c1'
      obtain rfl : k_ = l.length := by omega
      rw [List.take_length] at k_I
      refine RunC.exit ?_
      refine RunE.pass_exit ?_
      refine RunE.pass_exit ?_
      refine RunE.block_here ?_
      refine RunE.next ?_
      refine RunC.seq ?_
      refine RunC.seq ?_
      refine RunC.region ?_
      refine RunL.val (Val.pure rfl) rfl rfl rfl ?_
      refine RunL.val (Val.pure rfl) rfl rfl rfl ?_
      refine RunL.nil ?_
      refine RunE.next ?_
      have h2k : (powerX c.p).2 = k := by rw [← hop]; simp [openM, c0', k_I]
      refine RunC.cond rfl ?_ (fun h => absurd h (by simp [h2k, hk]))
      intro c3
      clear c3
      refine RunC.seq ?_
      refine RunC.region ?_
      iterate 3 refine RunL.val (Val.pure rfl) rfl rfl rfl ?_
      refine RunL.nil ?_
      refine RunE.next ?_
      refine RunC.ret ?_
      refine RunE.pass_ret ?_
      exact RunE.retP (.r2 rfl (.tmp rfl) (.tmp rfl)) (by rw [← hop]; simp [openM, c0', k_I])
abbrev cdO (c : Cd) (q : Option Addr) (cap m : Nat) : Obj := .cells (cdCells c q cap m).toArray 53 (0, 0)
theorem open_calls3 (c : Cd) (l : List Tr) (h : openM c l = 0) (q : Option Addr) (b o cap : Nat) (q2 : Option Addr) (b2 o2 cap2 : Nat) (W : World) (hS : Sl W q b o 9 (c.p.things.map Th.cells)) (hl : c.p.things.length ≤ 100000000000)
    (hL : Sl W q2 b2 o2 4 (l.map Tr.cells)) (hl2 : l.length ≤ 100000) : Calls Tryz.prog 24 #[c.v q cap, .slice q2 l.length cap2] W
    (News (fun b : Nat × Nat => .tuple #[.pointer (some ⟨b.1, 0, none⟩), .int .i64 0]) (fun b => [(b.1, cdO c q cap b.2), (b.2, mapO (mEnts c.p))]) W) := by
  obtain ⟨h1, h2, h3⟩ := openM_ok h
  have hci := cardIs_ok h1
  have k2 := hci.1.c2
  refine calls_start Tryz.func24 rfl rfl ?_
  refine RunC.seq ?_
  refine RunC.region ?_
  refine RunL.new (New.box rfl) rfl rfl rfl (fun b2 => ?_)
  refine RunL.val (Val.pure rfl) rfl rfl rfl ?_
  refine RunL.val (Val.pure rfl) rfl rfl rfl ?_
  refine RunL.nil ?_
  refine RunE.next ?_
  refine RunC.seq ?_
  refine RunC.region ?_
  refine RunL.val (Val.load_agg rfl (.head _) ty_28 rfl) rfl rfl rfl ?_
  refine RunL.callP (isCall_func rfl ent_55) rfl rfl rfl (fun w hm => isCard_calls c q b o cap w (hS.mono (by decide) hm (by simp)) hl) ?_
  iterate 5 refine RunL.val (Val.pure rfl) rfl rfl rfl ?_
  refine RunL.nil ?_
  refine RunE.next ?_
  refine RunC.seq ?_
  refine RunC.seq ?_
  refine RunC.region ?_
  refine RunL.val (Val.pure rfl) rfl rfl rfl ?_
  refine RunL.val (Val.pure rfl) rfl rfl rfl ?_
  refine RunL.nil ?_
  refine RunE.next ?_
  refine RunC.cond rfl (fun h => absurd h (by simp [h1])) ?_
  intro c0
  clear c0
  refine RunC.skip ?_
  refine RunE.next ?_
  refine RunC.seq ?_
  refine RunC.seq ?_
  refine RunC.region ?_
  refine RunL.val (Val.pure rfl) rfl rfl rfl ?_
  refine RunL.val (Val.len_sl rfl sl_96) rfl rfl rfl ?_
  refine RunL.val (Val.pure rfl) rfl rfl rfl ?_
  refine RunL.nil ?_
  refine RunE.next ?_
  refine RunC.block ?_
  refine RunC.loopK (l.length) (fun k_ q => (27, .int .i64 (k_ : Int)) :: q) (fun _ => _) (fun _ => []) (fun _ => True) trivial rfl (Sub.consE (t := 27) rfl rfl (Sub.cons (t := 2) rfl (Sub.cons (t := 4) rfl (Sub.cons (t := 5) rfl (Sub.cons (t := 7) rfl (Sub.cons (t := 25) rfl (Sub.cons (t := 26) rfl (Sub.nil _)))))))) (.cons .here rfl .nil) ?_
  intro k_ k_N k_I
  clear k_I
  refine RunC.seq ?_
  refine RunC.region ?_
  refine RunL.val (Val.pure rfl) rfl rfl rfl ?_
  refine RunL.nil ?_
  refine RunE.next ?_
  refine RunC.seq ?_
  refine RunC.cond rfl ?_ ?_
  · intro c1
    have c1' := c1; clear c1
    try simp only [decide_eq_true_eq, decide_eq_false_iff_not, Bool.not_eq_true', Bool.not_eq_false', Bool.and_eq_true, Bool.or_eq_true, Bool.and_eq_false_iff, Bool.or_eq_false_iff, Int.not_le, Int.not_lt] at c1'
    have hkl : k_ < l.length := by omega
    obtain ⟨t, ht⟩ : ∃ t, l[k_] = t := ⟨_, rfl⟩
    have htr : trIs c t = true := by rw [← ht]; exact List.all_eq_true.1 h2 _ (List.getElem_mem hkl)
    obtain ⟨⟨t1, t2, t3, t4, t5, t6, t7, t8⟩, t9⟩ := trIs_ok htr
    refine RunC.skip ?_
    refine RunE.next ?_
    refine RunC.seq ?_
    refine RunC.block ?_
    refine RunC.seq ?_
    refine RunC.region ?_
    refine RunL.val (Val.indexAddr_slp rfl rfl sl_96 (by omega) (by omega) (hL.ptrM hkl)) rfl rfl rfl ?_
    refine RunL.val (Val.load_gen rfl (fun w hm => hL.loadX (by decide) hm (by simp) ty_30 hkl ht)) rfl rfl rfl ?_
    refine RunL.new (New.alloc zero_30) rfl rfl rfl (fun b9 => ?_)
    refine RunL.sto (Sto.store rfl rfl .here ty_30 rfl rfl) rfl rfl ?_
    refine RunL.nil ?_
    refine RunE.next ?_
    refine RunC.seq ?_
    refine RunC.region ?_
    refine RunL.val (Val.load_agg rfl (.head _) ty_30 rfl) rfl rfl rfl ?_
    refine RunL.callP (isCall_func rfl ent_28) rfl rfl rfl (fun w hm => edgesOf_calls _ _ _ _ w) ?_
    refine RunL.new (New.alloc zero_60) rfl rfl rfl (fun b10 => ?_)
    refine RunL.sto (Sto.store rfl rfl .here ty_60 rfl rfl) rfl rfl ?_
    refine RunL.nil ?_
    refine RunE.next ?_
    refine RunC.seq ?_
    refine RunC.region ?_
    refine RunL.val (Val.pure rfl) rfl rfl rfl ?_
    refine RunL.val (Val.pure rfl) rfl rfl rfl ?_
    refine RunL.nil ?_
    refine RunE.next ?_
    refine RunC.seq ?_
    refine RunC.region ?_
    refine RunL.val (Val.sliceArr rfl arr_60) rfl rfl rfl ?_
    refine RunL.val (Val.pure rfl) rfl rfl rfl ?_
    refine RunL.callP (isCall_func rfl ent_58) rfl rfl rfl (fun w hm => containsFuncI_calls (badT c) [t.ll, t.lr, t.rl, t.rr] (some ⟨b10, 0, none⟩) b10 0 4 56 [_] w (Sl.row1 (hm.at (.head _))) (by simp) ent_56 (fun n _ w2 hm2 => openBad_calls c q cap n _ w2 (hm2.old_at (hm.at (.tail _ (.tail _ (.head _)))) (by simp)))) ?_
    refine RunL.val (Val.pure rfl) rfl rfl rfl ?_
    refine RunL.orPart (dj := 37) (dp := 49) 12 rfl (fun g37 => by
      have g37' := g37
      try simp only [decide_eq_true_eq, decide_eq_false_iff_not, Bool.not_eq_true', Bool.not_eq_false', Bool.and_eq_true, Bool.or_eq_true, Bool.and_eq_false_iff, Bool.or_eq_false_iff, Int.not_le, Int.not_lt] at g37'
      refine RunL.val (Val.indexAddr_arr rfl rfl arr_60 (by decide) (by decide)) rfl rfl rfl ?_
      refine RunL.val (Val.load_one rfl (.head _) ty_3 rfl) rfl rfl rfl ?_
      refine RunL.val (Val.indexAddr_arr rfl rfl arr_60 (by decide) (by decide)) rfl rfl rfl ?_
      refine RunL.val (Val.load_one rfl (.head _) ty_3 rfl) rfl rfl rfl ?_
      refine RunL.val (Val.add rfl rfl (IntWalk.i64_in _ ⟨by omega, by omega⟩)) rfl rfl rfl ?_
      refine RunL.val (Val.indexAddr_arr rfl rfl arr_60 (by decide) (by decide)) rfl rfl rfl ?_
      refine RunL.val (Val.load_one rfl (.head _) ty_3 rfl) rfl rfl rfl ?_
      refine RunL.val (Val.indexAddr_arr rfl rfl arr_60 (by decide) (by decide)) rfl rfl rfl ?_
      refine RunL.val (Val.load_one rfl (.head _) ty_3 rfl) rfl rfl rfl ?_
      refine RunL.val (Val.add rfl rfl (IntWalk.i64_in _ ⟨by omega, by omega⟩)) rfl rfl rfl ?_
      refine RunL.val (Val.pure rfl) rfl rfl rfl ?_
      refine RunL.val (Val.pure rfl) rfl rfl rfl ?_
      exact RunL.segEnd (Sub.cons rfl (Sub.skip rfl (Sub.skip rfl (Sub.skip rfl (Sub.skip rfl (Sub.skip rfl (Sub.skip rfl (Sub.skip rfl (Sub.skip rfl (Sub.skip rfl (Sub.skip rfl (Sub.skip rfl (Sub.skip rfl (Sub.same rfl (by rw [g37]) (Sub.refl _))))))))))))))) (List.Sublist.refl _)
    ) (fun g37 => by
      have g37' := g37
      try simp only [decide_eq_true_eq, decide_eq_false_iff_not, Bool.not_eq_true', Bool.not_eq_false', Bool.and_eq_true, Bool.or_eq_true, Bool.and_eq_false_iff, Bool.or_eq_false_iff, Int.not_le, Int.not_lt] at g37'
      iterate 11 refine RunL.no rfl rfl rfl ?_
      refine RunL.val (Val.pure rfl) rfl rfl rfl ?_
      exact RunL.segEnd (Sub.cons rfl (Sub.skip rfl (Sub.skip rfl (Sub.skip rfl (Sub.skip rfl (Sub.skip rfl (Sub.skip rfl (Sub.skip rfl (Sub.skip rfl (Sub.skip rfl (Sub.skip rfl (Sub.skip rfl (Sub.skip rfl (Sub.same rfl (by rw [g37]) (Sub.refl _))))))))))))))) (List.Sublist.refl _)
    ) ?_
    refine RunL.nil ?_
    refine RunE.next ?_
    refine RunC.cond rfl (fun h => absurd h (by simp_all [trIs])) ?_
    intro c2
    clear c2
    refine RunC.skip ?_
    refine RunE.block_normal ?_
    refine RunE.next ?_
    refine RunC.region ?_
    refine RunL.val (Val.add rfl rfl (IntWalk.i64_in _ ⟨by omega, by omega⟩)) rfl rfl rfl ?_
    refine RunL.val (Val.pure rfl) rfl rfl rfl ?_
    refine RunL.nil ?_
    exact RunE.round (by omega) trivial rfl (Sub.consE (t := 27) rfl rfl (Sub.cons (t := 2) rfl (Sub.cons (t := 4) rfl (Sub.cons (t := 5) rfl (Sub.cons (t := 7) rfl (Sub.cons (t := 25) rfl (Sub.cons (t := 26) rfl (Sub.nil _)))))))) (.cons (.there (.there .here)) rfl .nil)
  · intro c1
    have c1' := c1; clear c1
    try simp only [decide_eq_true_eq, decide_eq_false_iff_not, Bool.not_eq_true', Bool.not_eq_false', Bool.and_eq_true, Bool.or_eq_true, Bool.and_eq_false_iff, Bool.or_eq_false_iff, Int.not_le, Int.not_lt] at c1'
    obtain rfl : k_ = l.length := by omega
    refine RunC.exit ?_
    refine RunE.pass_exit ?_
    refine RunE.pass_exit ?_
    refine RunE.block_here ?_
    refine RunE.next ?_
    refine RunC.seq ?_
    refine RunC.seq ?_
    refine RunC.region ?_
    refine RunL.val (Val.pure rfl) rfl rfl rfl ?_
    refine RunL.val (Val.pure rfl) rfl rfl rfl ?_
    refine RunL.nil ?_
    refine RunE.next ?_
    refine RunC.cond rfl (fun h => absurd h (by simp [h3])) ?_
    intro c3
    clear c3
    refine RunC.skip ?_
    refine RunE.next ?_
    refine RunC.seq ?_
    refine RunC.region ?_
    refine RunL.val (Val.load_agg rfl (.head _) ty_28 rfl) rfl rfl rfl ?_
    refine RunL.new New.makeMap rfl rfl rfl (fun b55 => ?_)
    refine RunL.val (Val.build (parts := [(0, .tmp 54), (1, .tmp 55)]) rfl zero_53 places_53 rfl) rfl rfl rfl ?_
    refine RunL.new (New.box rfl) rfl rfl rfl (fun b57 => ?_)
    refine RunL.val (Val.pure rfl) rfl rfl rfl ?_
    refine RunL.nil ?_
    refine RunE.next ?_
    refine RunC.seq ?_
    refine RunC.seq ?_
    refine RunC.region ?_
    refine RunL.val (Val.fieldAddr rfl fld_28_0) rfl rfl rfl ?_
    refine RunL.val (Val.fieldAddr rfl fld_26_5) rfl rfl rfl ?_
    refine RunL.val (Val.load_one rfl (.tail _ (.tail _ (.head _))) ty_24 rfl) rfl rfl rfl ?_
    refine RunL.val (Val.len_sl rfl sl_24) rfl rfl rfl ?_
    refine RunL.val (Val.pure rfl) rfl rfl rfl ?_
    refine RunL.nil ?_
    refine RunE.next ?_
    refine RunC.block ?_
    refine RunC.loopK (c.p.things.length) (fun k q => (62, .int .i64 (k : Int)) :: q) (fun _ => _) (fun k => [(b55, mapO (entsV (seenK c.p k)))]) (fun _ => True) trivial rfl (Sub.consE (t := 62) rfl rfl (Sub.cons (t := 2) rfl (Sub.cons (t := 12) rfl (Sub.cons (t := 61) rfl (Sub.nil _))))) (.cons (.there .here) rfl (.cons .here rfl (.cons .here rfl .nil))) ?_
    intro k kN kI
    clear kI
    refine RunC.seq ?_
    refine RunC.region ?_
    refine RunL.val (Val.pure rfl) rfl rfl rfl ?_
    refine RunL.nil ?_
    refine RunE.next ?_
    refine RunC.seq ?_
    refine RunC.cond rfl ?_ ?_
    · intro c4
      have c4' := c4; clear c4
      try simp only [decide_eq_true_eq, decide_eq_false_iff_not, Bool.not_eq_true', Bool.not_eq_false', Bool.and_eq_true, Bool.or_eq_true, Bool.and_eq_false_iff, Bool.or_eq_false_iff, Int.not_le, Int.not_lt] at c4'
      have hk : k < c.p.things.length := by omega
      refine RunC.skip ?_
      refine RunE.next ?_
      refine RunC.seq ?_
      refine RunC.block ?_
      refine RunC.seq ?_
      refine RunC.region ?_
      refine RunL.val (Val.pure rfl) rfl rfl rfl ?_
      refine RunL.val (Val.pure rfl) rfl rfl rfl ?_
      refine RunL.nil ?_
      refine RunE.next ?_
      refine RunC.seq ?_
      refine RunC.region ?_
      refine RunL.val (Val.fieldAddr rfl fld_28_0) rfl rfl rfl ?_
      refine RunL.val (Val.load_agg rfl (.tail _ (.tail _ (.head _))) ty_26 rfl) rfl rfl rfl ?_
      refine RunL.val (Val.pure rfl) rfl rfl rfl ?_
      refine RunL.callP (isCall_func rfl ent_59) rfl rfl rfl (fun w hm => Why_calls c.p _ q b o cap w (hS.mono (by decide) hm (by simp)) hl) ?_
      iterate 5 refine RunL.val (Val.pure rfl) rfl rfl rfl ?_
      refine RunL.nil ?_
      refine RunE.next ?_
      refine RunC.seq ?_
      refine RunC.region ?_
      refine RunL.val (Val.pure rfl) rfl rfl rfl ?_
      refine RunL.val (Val.pure rfl) rfl rfl rfl ?_
      refine RunL.nil ?_
      refine RunE.next ?_
      refine RunC.cond rfl ?_ ?_
      · intro c5
        have c5' := c5; clear c5
        try simp only [decide_eq_true_eq, decide_eq_false_iff_not, Bool.not_eq_true', Bool.not_eq_false', Bool.and_eq_true, Bool.or_eq_true, Bool.and_eq_false_iff, Bool.or_eq_false_iff, Int.not_le, Int.not_lt] at c5'
        refine RunC.seq ?_
        refine RunC.region ?_
        refine RunL.val (Val.fieldAddr rfl fld_28_0) rfl rfl rfl ?_
        refine RunL.val (Val.load_agg rfl (.tail _ (.tail _ (.head _))) ty_26 rfl) rfl rfl rfl ?_
        refine RunL.val (Val.pure rfl) rfl rfl rfl ?_
        refine RunL.callP (isCall_func rfl ent_60) rfl rfl rfl (fun w hm => Shift_calls c.p _ q b o cap w (hS.mono (by decide) hm (by simp)) hl) ?_
        iterate 3 refine RunL.val (Val.pure rfl) rfl rfl rfl ?_
        refine RunL.new (New.alloc zero_23) rfl rfl rfl (fun b16 => ?_)
        refine RunL.sto (Sto.store rfl rfl .here ty_23 rfl rfl) rfl rfl ?_
        refine RunL.val (Val.pure rfl) rfl rfl rfl ?_
        refine RunL.nil ?_
        refine RunE.next ?_
        refine RunC.draw 10 fol_ (.cons .here rfl (.cons (.there .here) rfl (.cons (.there .here) rfl .nil))) ?_
        refine RunA.val (i := 0) rfl (by kernel_rfl) (by kernel_rfl) (Val.pure rfl) rfl rfl rfl (fun _ _ _ h => h) (.cons .here rfl (.cons (.there .here) rfl (.cons (.there .here) rfl .nil))) rfl ?_
        refine RunA.val (i := 1) rfl (by kernel_rfl) (by kernel_rfl) (Val.pure rfl) rfl rfl rfl (fun _ _ _ h => h) (.cons .here rfl (.cons (.there .here) rfl (.cons (.there .here) rfl .nil))) rfl ?_
        refine RunA.val (i := 2) rfl (by kernel_rfl) (by kernel_rfl) (Val.fieldAddr rfl fld_53_1) rfl rfl rfl (fun _ _ _ h => h) (.cons .here rfl (.cons (.there .here) rfl (.cons (.there .here) rfl .nil))) rfl ?_
        refine RunA.val (i := 3) rfl (by kernel_rfl) (by kernel_rfl) (Val.load_one rfl (.tail _ (.head _)) ty_51 rfl) rfl rfl rfl (fun _ _ _ h => h) (.cons .here rfl (.cons (.there .here) rfl (.cons (.there .here) rfl .nil))) rfl ?_
        refine RunA.val (i := 4) rfl (by kernel_rfl) (by kernel_rfl) (Val.pure rfl) rfl rfl rfl (fun _ _ _ h => h) (.cons .here rfl (.cons (.there .here) rfl (.cons (.there .here) rfl .nil))) rfl ?_
        refine RunA.val (i := 5) rfl (by kernel_rfl) (by kernel_rfl) (Val.fieldAddr rfl fld_23_0) rfl rfl rfl (fun _ _ _ h => h) (.cons .here rfl (.cons (.there .here) rfl (.cons (.there .here) rfl .nil))) rfl ?_
        refine RunA.val (i := 6) rfl (by kernel_rfl) (by kernel_rfl) (Val.load_one rfl (.head _) ty_3 rfl) rfl rfl rfl (fun _ _ _ h => h) (.cons .here rfl (.cons (.there .here) rfl (.cons (.there .here) rfl .nil))) rfl ?_
        refine RunA.val (i := 7) rfl (by kernel_rfl) (by kernel_rfl) (Val.fieldAddr rfl fld_23_1) rfl rfl rfl (fun _ _ _ h => h) (.cons .here rfl (.cons (.there .here) rfl (.cons (.there .here) rfl .nil))) rfl ?_
        refine RunA.val (i := 8) rfl (by kernel_rfl) (by kernel_rfl) (Val.load_one rfl (.head _) ty_3 rfl) rfl rfl rfl (fun _ _ _ h => h) (.cons .here rfl (.cons (.there .here) rfl (.cons (.there .here) rfl .nil))) rfl ?_
        refine RunA.val (i := 9) rfl (by kernel_rfl) (by kernel_rfl) (Val.build (parts := [(0, .tmp 87), (1, .tmp 89)]) rfl zero_68 places_68 rfl) rfl rfl rfl (fun _ _ _ h => h) (.cons .here rfl (.cons (.there .here) rfl (.cons (.there .here) rfl .nil))) rfl ?_
        refine RunA.toB (by kernel_rfl) ?_
        refine RunB.one (i := 10) (by kernel_rfl) ?_
        refine RunI.sto rfl (Sto.mapNew rfl rfl rfl (.there .here) mapB_51 (seen_new c.p k)) rfl rfl (RunK.toB ?_)
        refine RunB.done (by kernel_rfl) ?_
        refine RunE.block_normal ?_
        refine RunE.next ?_
        refine RunC.region ?_
        refine RunL.val (Val.add rfl rfl (IntWalk.i64_in _ ⟨by omega, by omega⟩)) rfl rfl rfl ?_
        refine RunL.val (Val.pure rfl) rfl rfl rfl ?_
        refine RunL.nil ?_
        exact RunE.round (by omega) trivial rfl (Sub.consE (t := 62) rfl rfl (Sub.cons (t := 2) rfl (Sub.cons (t := 12) rfl (Sub.cons (t := 61) rfl (Sub.nil _))))) (.cons (.there .here) (by first | (rw [seenK_yes c5']; simp [entsV]; rfl) | (rw [seenK_yes c5']; simp [entsV]) | (rw [seenK_no c5'])) (.cons (.there .here) rfl (.cons (.there .here) rfl .nil)))
      · intro c5
        have c5' := c5; clear c5
        try simp only [decide_eq_true_eq, decide_eq_false_iff_not, Bool.not_eq_true', Bool.not_eq_false', Bool.and_eq_true, Bool.or_eq_true, Bool.and_eq_false_iff, Bool.or_eq_false_iff, Int.not_le, Int.not_lt] at c5'
        refine RunC.skip ?_
        refine RunE.block_normal ?_
        refine RunE.next ?_
        refine RunC.region ?_
        refine RunL.val (Val.add rfl rfl (IntWalk.i64_in _ ⟨by omega, by omega⟩)) rfl rfl rfl ?_
        refine RunL.val (Val.pure rfl) rfl rfl rfl ?_
        refine RunL.nil ?_
        exact RunE.round (by omega) trivial rfl (Sub.consE (t := 62) rfl rfl (Sub.cons (t := 2) rfl (Sub.cons (t := 12) rfl (Sub.cons (t := 61) rfl (Sub.nil _))))) (.cons .here (by first | (rw [seenK_yes c5']; simp [entsV]; rfl) | (rw [seenK_yes c5']; simp [entsV]) | (rw [seenK_no c5'])) (.cons .here rfl (.cons .here rfl .nil)))
    · intro c4
      have c4' := c4; clear c4
      try simp only [decide_eq_true_eq, decide_eq_false_iff_not, Bool.not_eq_true', Bool.not_eq_false', Bool.and_eq_true, Bool.or_eq_true, Bool.and_eq_false_iff, Bool.or_eq_false_iff, Int.not_le, Int.not_lt] at c4'
      obtain rfl : k = c.p.things.length := by omega
      refine RunC.exit ?_
      refine RunE.pass_exit ?_
      refine RunE.pass_exit ?_
      refine RunE.block_here ?_
      refine RunE.next ?_
      refine RunC.seq ?_
      refine RunC.region ?_
      iterate 3 refine RunL.val (Val.pure rfl) rfl rfl rfl ?_
      refine RunL.nil ?_
      refine RunE.next ?_
      refine RunC.ret ?_
      exact RunE.ret (chg := []) (.r2 rfl (.tmp rfl) (.tmp rfl)) (fun _ hm => ⟨(b57, b55), rfl, hm.pick (.cons (.there .here) rfl (.cons .here rfl .nil))⟩)
end Go.Proofs.YthoheicppmbepaaGreat
