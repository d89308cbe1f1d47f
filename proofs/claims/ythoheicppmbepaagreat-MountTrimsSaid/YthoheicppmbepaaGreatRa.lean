/- Walks of the reference of layer 1: the small functions. -/
import Derived.Test.YthoheicppmbepaaGreatPf
set_option linter.unusedSimpArgs false
set_option linter.unusedVariables false
namespace Go.Proofs.YthoheicppmbepaaGreat
open Go Go.Eng Go.Pw1

theorem rin_calls (n lo hi : Int) (W : World) : Calls Tryz.prog 74 #[.int .i64 n, .int .i64 lo, .int .i64 hi] W (Pure (.bool (within n lo hi)) W) := by
  refine calls_start Tryz.func74 rfl rfl ?_
  refine RunC.seq ?_
  refine RunC.region ?_
  refine RunL.val (Val.pure rfl) rfl rfl rfl ?_
  refine RunL.nil ?_
  refine RunE.next ?_
  refine RunC.seq ?_
  refine RunC.region ?_
  iterate 4 refine RunL.val (Val.pure rfl) rfl rfl rfl ?_
  refine RunL.andPart (dj := 10) (dp := 14) 4 rfl (fun g10 => by
    have g10' := g10
    try simp only [decide_eq_true_eq, decide_eq_false_iff_not, Bool.not_eq_true', Bool.not_eq_false', Bool.and_eq_true, Bool.or_eq_true, Bool.and_eq_false_iff, Bool.or_eq_false_iff, Int.not_le, Int.not_lt] at g10'
    iterate 4 refine RunL.val (Val.pure rfl) rfl rfl rfl ?_
    exact RunL.segEnd (Sub.cons rfl (Sub.skip rfl (Sub.skip rfl (Sub.skip rfl (Sub.skip rfl (Sub.same rfl (by rw [g10]) (Sub.refl _))))))) (List.Sublist.refl _)
  ) (fun g10 => by
    have g10' := g10
    try simp only [decide_eq_true_eq, decide_eq_false_iff_not, Bool.not_eq_true', Bool.not_eq_false', Bool.and_eq_true, Bool.or_eq_true, Bool.and_eq_false_iff, Bool.or_eq_false_iff, Int.not_le, Int.not_lt] at g10'
    iterate 3 refine RunL.no rfl rfl rfl ?_
    refine RunL.val (Val.pure rfl) rfl rfl rfl ?_
    exact RunL.segEnd (Sub.cons rfl (Sub.skip rfl (Sub.skip rfl (Sub.skip rfl (Sub.skip rfl (Sub.same rfl (by rw [g10]) (Sub.refl _))))))) (List.Sublist.refl _)
  ) ?_
  refine RunL.val (Val.pure rfl) rfl rfl rfl ?_
  refine RunL.nil ?_
  refine RunE.next ?_
  refine RunC.ret ?_
  exact RunE.retP (.r1 rfl (.tmp rfl)) (by first | rfl | simp)
theorem rspan_calls (s : Sp) (lo hi : Int) (W : World) : Calls Tryz.prog 75 #[.agg #[.int .i64 s.lo, .int .i64 s.hi], .int .i64 lo, .int .i64 hi] W (Pure (.bool (isSpan s lo hi)) W) := by
  refine calls_start Tryz.func75 rfl rfl ?_
  refine RunC.seq ?_
  refine RunC.region ?_
  refine RunL.new (New.box rfl) rfl rfl rfl (fun b3 => ?_)
  refine RunL.val (Val.pure rfl) rfl rfl rfl ?_
  refine RunL.nil ?_
  refine RunE.next ?_
  refine RunC.seq ?_
  refine RunC.region ?_
  refine RunL.val (Val.pure rfl) rfl rfl rfl ?_
  refine RunL.val (Val.fieldAddr rfl fld_23_0) rfl rfl rfl ?_
  refine RunL.val (Val.load_one rfl (.head _) ty_3 rfl) rfl rfl rfl ?_
  refine RunL.val (Val.pure rfl) rfl rfl rfl ?_
  refine RunL.val (Val.pure rfl) rfl rfl rfl ?_
  refine RunL.andPart (dj := 11) (dp := 17) 6 rfl (fun g11 => by
    have g11' := g11
    try simp only [decide_eq_true_eq, decide_eq_false_iff_not, Bool.not_eq_true', Bool.not_eq_false', Bool.and_eq_true, Bool.or_eq_true, Bool.and_eq_false_iff, Bool.or_eq_false_iff, Int.not_le, Int.not_lt] at g11'
    refine RunL.val (Val.fieldAddr rfl fld_23_0) rfl rfl rfl ?_
    refine RunL.val (Val.load_one rfl (.head _) ty_3 rfl) rfl rfl rfl ?_
    refine RunL.val (Val.fieldAddr rfl fld_23_1) rfl rfl rfl ?_
    refine RunL.val (Val.load_one rfl (.head _) ty_3 rfl) rfl rfl rfl ?_
    refine RunL.val (Val.pure rfl) rfl rfl rfl ?_
    refine RunL.val (Val.pure rfl) rfl rfl rfl ?_
    exact RunL.segEnd (Sub.cons rfl (Sub.skip rfl (Sub.skip rfl (Sub.skip rfl (Sub.skip rfl (Sub.skip rfl (Sub.skip rfl (Sub.same rfl (by rw [g11]) (Sub.refl _))))))))) (List.Sublist.refl _)
  ) (fun g11 => by
    have g11' := g11
    try simp only [decide_eq_true_eq, decide_eq_false_iff_not, Bool.not_eq_true', Bool.not_eq_false', Bool.and_eq_true, Bool.or_eq_true, Bool.and_eq_false_iff, Bool.or_eq_false_iff, Int.not_le, Int.not_lt] at g11'
    iterate 5 refine RunL.no rfl rfl rfl ?_
    refine RunL.val (Val.pure rfl) rfl rfl rfl ?_
    exact RunL.segEnd (Sub.cons rfl (Sub.skip rfl (Sub.skip rfl (Sub.skip rfl (Sub.skip rfl (Sub.skip rfl (Sub.skip rfl (Sub.same rfl (by rw [g11]) (Sub.refl _))))))))) (List.Sublist.refl _)
  ) ?_
  refine RunL.val (Val.pure rfl) rfl rfl rfl ?_
  refine RunL.andPart (dj := 18) (dp := 23) 5 rfl (fun g18 => by
    have g18' := g18
    try simp only [decide_eq_true_eq, decide_eq_false_iff_not, Bool.not_eq_true', Bool.not_eq_false', Bool.and_eq_true, Bool.or_eq_true, Bool.and_eq_false_iff, Bool.or_eq_false_iff, Int.not_le, Int.not_lt] at g18'
    refine RunL.val (Val.fieldAddr rfl fld_23_1) rfl rfl rfl ?_
    refine RunL.val (Val.load_one rfl (.head _) ty_3 rfl) rfl rfl rfl ?_
    iterate 3 refine RunL.val (Val.pure rfl) rfl rfl rfl ?_
    exact RunL.segEnd (Sub.cons rfl (Sub.skip rfl (Sub.skip rfl (Sub.skip rfl (Sub.skip rfl (Sub.skip rfl (Sub.same rfl (by rw [g18]) (Sub.refl _)))))))) (List.Sublist.refl _)
  ) (fun g18 => by
    have g18' := g18
    try simp only [decide_eq_true_eq, decide_eq_false_iff_not, Bool.not_eq_true', Bool.not_eq_false', Bool.and_eq_true, Bool.or_eq_true, Bool.and_eq_false_iff, Bool.or_eq_false_iff, Int.not_le, Int.not_lt] at g18'
    iterate 4 refine RunL.no rfl rfl rfl ?_
    refine RunL.val (Val.pure rfl) rfl rfl rfl ?_
    exact RunL.segEnd (Sub.cons rfl (Sub.skip rfl (Sub.skip rfl (Sub.skip rfl (Sub.skip rfl (Sub.skip rfl (Sub.same rfl (by rw [g18]) (Sub.refl _)))))))) (List.Sublist.refl _)
  ) ?_
  refine RunL.val (Val.pure rfl) rfl rfl rfl ?_
  refine RunL.nil ?_
  refine RunE.next ?_
  refine RunC.ret ?_
  exact RunE.retP (.r1 rfl (.tmp rfl)) (by first | rfl | simp)
theorem rplace_calls (x y : Sp) (W : World) : Calls Tryz.prog 73 #[.agg #[.int .i64 x.lo, .int .i64 x.hi, .int .i64 y.lo, .int .i64 y.hi]] W (Pure (.bool (isPlace x y)) W) := by
  refine calls_start Tryz.func73 rfl rfl ?_
  refine RunC.seq ?_
  refine RunC.region ?_
  refine RunL.new (New.box rfl) rfl rfl rfl (fun b1 => ?_)
  refine RunL.val (Val.pure rfl) rfl rfl rfl ?_
  refine RunL.nil ?_
  refine RunE.next ?_
  refine RunC.seq ?_
  refine RunC.region ?_
  refine RunL.val (Val.fieldAddr rfl fld_74_0) rfl rfl rfl ?_
  refine RunL.val (Val.load_agg rfl (.head _) ty_23 rfl) rfl rfl rfl ?_
  refine RunL.callP (isCall_func rfl ent_75) rfl rfl rfl (fun w hm => rspan_calls ⟨_, _⟩ _ _ w) ?_
  refine RunL.val (Val.pure rfl) rfl rfl rfl ?_
  refine RunL.andPart (dj := 6) (dp := 10) 4 rfl (fun g6 => by
    have g6' := g6
    try simp only [decide_eq_true_eq, decide_eq_false_iff_not, Bool.not_eq_true', Bool.not_eq_false', Bool.and_eq_true, Bool.or_eq_true, Bool.and_eq_false_iff, Bool.or_eq_false_iff, Int.not_le, Int.not_lt] at g6'
    refine RunL.val (Val.fieldAddr rfl fld_74_1) rfl rfl rfl ?_
    refine RunL.val (Val.load_agg rfl (.head _) ty_23 rfl) rfl rfl rfl ?_
    refine RunL.callP (isCall_func rfl ent_75) rfl rfl rfl (fun w hm => rspan_calls ⟨_, _⟩ _ _ w) ?_
    refine RunL.val (Val.pure rfl) rfl rfl rfl ?_
    exact RunL.segEnd (Sub.cons rfl (Sub.skip rfl (Sub.skip rfl (Sub.skip rfl (Sub.skip rfl (Sub.same rfl (by rw [g6]) (Sub.refl _))))))) (List.Sublist.refl _)
  ) (fun g6 => by
    have g6' := g6
    try simp only [decide_eq_true_eq, decide_eq_false_iff_not, Bool.not_eq_true', Bool.not_eq_false', Bool.and_eq_true, Bool.or_eq_true, Bool.and_eq_false_iff, Bool.or_eq_false_iff, Int.not_le, Int.not_lt] at g6'
    iterate 3 refine RunL.no rfl rfl rfl ?_
    refine RunL.val (Val.pure rfl) rfl rfl rfl ?_
    exact RunL.segEnd (Sub.cons rfl (Sub.skip rfl (Sub.skip rfl (Sub.skip rfl (Sub.skip rfl (Sub.same rfl (by rw [g6]) (Sub.refl _))))))) (List.Sublist.refl _)
  ) ?_
  refine RunL.val (Val.pure rfl) rfl rfl rfl ?_
  refine RunL.nil ?_
  refine RunE.next ?_
  refine RunC.ret ?_
  exact RunE.retP (.r1 rfl (.tmp rfl)) (by first | rfl | simp)
theorem rPair_calls (p : Pr) (q : Option Addr) (b o cap : Nat) (W : World) (hS : Sl W q b o 9 (p.things.map Th.cells)) (hl : p.things.length ≤ 100000000000) :
    Calls Tryz.prog 48 #[p.v q cap] W (Pure (.bool (isPair p)) W) := by
  refine calls_start Tryz.func48 rfl rfl ?_
  refine RunC.seq ?_
  refine RunC.region ?_
  refine RunL.new (New.box rfl) rfl rfl rfl (fun b1 => ?_)
  refine RunL.val (Val.pure rfl) rfl rfl rfl ?_
  refine RunL.nil ?_
  refine RunE.next ?_
  refine RunC.seq ?_
  refine RunC.seq ?_
  refine RunC.region ?_
  refine RunL.val (Val.pure rfl) rfl rfl rfl ?_
  refine RunL.nil ?_
  refine RunE.next ?_
  refine RunC.block ?_
  refine RunC.loopK (p.things.length) (fun k q => (3, .int .i64 (k : Int)) :: q) (fun _ => _) (fun _ => []) (fun k => (p.things.take k).any (bad p) = false) (by simp) rfl (Sub.consE (t := 3) rfl rfl (Sub.cons (t := 1) rfl (Sub.nil _))) (.cons .here rfl .nil) ?_
  intro k kN kI
  refine RunC.seq ?_
  refine RunC.seq ?_
  refine RunC.region ?_
  refine RunL.val (Val.pure rfl) rfl rfl rfl ?_
  refine RunL.val (Val.fieldAddr rfl fld_26_5) rfl rfl rfl ?_
  refine RunL.val (Val.load_one rfl (.head _) ty_24 rfl) rfl rfl rfl ?_
  refine RunL.val (Val.len_sl rfl sl_24) rfl rfl rfl ?_
  refine RunL.val (Val.pure rfl) rfl rfl rfl ?_
  refine RunL.nil ?_
  refine RunE.next ?_
  refine RunC.cond rfl ?_ ?_
  · intro c0
    have c0' := c0; clear c0
    try simp only [decide_eq_true_eq, decide_eq_false_iff_not, Bool.not_eq_true', Bool.not_eq_false', Bool.and_eq_true, Bool.or_eq_true, Bool.and_eq_false_iff, Bool.or_eq_false_iff, Int.not_le, Int.not_lt] at c0'
    have hk : k < p.things.length := by omega
    obtain ⟨t, ht⟩ : ∃ t, p.things[k] = t := ⟨_, rfl⟩
    refine RunC.skip ?_
    refine RunE.next ?_
    refine RunC.seq ?_
    refine RunC.block ?_
    refine RunC.seq ?_
    refine RunC.region ?_
    refine RunL.val (Val.fieldAddr rfl fld_26_5) rfl rfl rfl ?_
    refine RunL.val (Val.load_one rfl (.head _) ty_24 rfl) rfl rfl rfl ?_
    refine RunL.val (Val.pure rfl) rfl rfl rfl ?_
    refine RunL.val (Val.indexAddr_slp rfl rfl sl_24 (by omega) (by omega) (hS.ptrM hk)) rfl rfl rfl ?_
    refine RunL.val (Val.load_gen rfl (fun w hm => hS.loadX (by decide) hm (by simp) ty_76 hk ht)) rfl rfl rfl ?_
    refine RunL.new (New.alloc zero_76) rfl rfl rfl (fun b4 => ?_)
    refine RunL.sto (Sto.store rfl rfl .here ty_76 rfl rfl) rfl rfl ?_
    refine RunL.nil ?_
    refine RunE.next ?_
    refine RunC.seq ?_
    refine RunC.region ?_
    refine RunL.val (Val.fieldAddr rfl fld_76_0) rfl rfl rfl ?_
    refine RunL.val (Val.load_agg rfl (.head _) ty_74 rfl) rfl rfl rfl ?_
    refine RunL.callP (isCall_func rfl ent_73) rfl rfl rfl (fun w hm => rplace_calls ⟨_, _⟩ ⟨_, _⟩ w) ?_
    refine RunL.val (Val.pure rfl) rfl rfl rfl ?_
    refine RunL.val (Val.pure rfl) rfl rfl rfl ?_
    refine RunL.orPart (dj := 21) (dp := 26) 5 rfl (fun g21 => by
      have g21' := g21
      try simp only [decide_eq_true_eq, decide_eq_false_iff_not, Bool.not_eq_true', Bool.not_eq_false', Bool.and_eq_true, Bool.or_eq_true, Bool.and_eq_false_iff, Bool.or_eq_false_iff, Int.not_le, Int.not_lt] at g21'
      refine RunL.val (Val.fieldAddr rfl fld_76_1) rfl rfl rfl ?_
      refine RunL.val (Val.load_agg rfl (.head _) ty_74 rfl) rfl rfl rfl ?_
      refine RunL.callP (isCall_func rfl ent_73) rfl rfl rfl (fun w hm => rplace_calls ⟨_, _⟩ ⟨_, _⟩ w) ?_
      refine RunL.val (Val.pure rfl) rfl rfl rfl ?_
      refine RunL.val (Val.pure rfl) rfl rfl rfl ?_
      exact RunL.segEnd (Sub.cons rfl (Sub.skip rfl (Sub.skip rfl (Sub.skip rfl (Sub.skip rfl (Sub.skip rfl (Sub.same rfl (by rw [g21]) (Sub.refl _)))))))) (List.Sublist.refl _)
    ) (fun g21 => by
      have g21' := g21
      try simp only [decide_eq_true_eq, decide_eq_false_iff_not, Bool.not_eq_true', Bool.not_eq_false', Bool.and_eq_true, Bool.or_eq_true, Bool.and_eq_false_iff, Bool.or_eq_false_iff, Int.not_le, Int.not_lt] at g21'
      iterate 4 refine RunL.no rfl rfl rfl ?_
      refine RunL.val (Val.pure rfl) rfl rfl rfl ?_
      exact RunL.segEnd (Sub.cons rfl (Sub.skip rfl (Sub.skip rfl (Sub.skip rfl (Sub.skip rfl (Sub.skip rfl (Sub.same rfl (by rw [g21]) (Sub.refl _)))))))) (List.Sublist.refl _)
    ) ?_
    refine RunL.val (Val.pure rfl) rfl rfl rfl ?_
    refine RunL.orPart (dj := 27) (dp := 41) 14 rfl (fun g27 => by
      have g27' := g27
      try simp only [decide_eq_true_eq, decide_eq_false_iff_not, Bool.not_eq_true', Bool.not_eq_false', Bool.and_eq_true, Bool.or_eq_true, Bool.and_eq_false_iff, Bool.or_eq_false_iff, Int.not_le, Int.not_lt] at g27'
      refine RunL.val (Val.fieldAddr rfl fld_76_2) rfl rfl rfl ?_
      refine RunL.val (Val.load_one rfl (.head _) ty_3 rfl) rfl rfl rfl ?_
      refine RunL.val (Val.pure rfl) rfl rfl rfl ?_
      refine RunL.val (Val.pure rfl) rfl rfl rfl ?_
      refine RunL.andPart (dj := 31) (dp := 40) 9 rfl (fun g31 => by
        have g31' := g31
        try simp only [decide_eq_true_eq, decide_eq_false_iff_not, Bool.not_eq_true', Bool.not_eq_false', Bool.and_eq_true, Bool.or_eq_true, Bool.and_eq_false_iff, Bool.or_eq_false_iff, Int.not_le, Int.not_lt] at g31'
        refine RunL.val (Val.fieldAddr rfl fld_76_2) rfl rfl rfl ?_
        refine RunL.val (Val.load_one rfl (.head _) ty_3 rfl) rfl rfl rfl ?_
        refine RunL.val (Val.fieldAddr rfl fld_26_3) rfl rfl rfl ?_
        refine RunL.val (Val.load_one rfl (.tail _ (.head _)) ty_3 rfl) rfl rfl rfl ?_
        refine RunL.val (Val.fieldAddr rfl fld_26_4) rfl rfl rfl ?_
        refine RunL.val (Val.load_one rfl (.tail _ (.head _)) ty_3 rfl) rfl rfl rfl ?_
        refine RunL.callP (isCall_func rfl ent_74) rfl rfl rfl (fun w hm => rin_calls _ _ _ w) ?_
        refine RunL.val (Val.pure rfl) rfl rfl rfl ?_
        refine RunL.val (Val.pure rfl) rfl rfl rfl ?_
        exact RunL.segEnd (Sub.cons rfl (Sub.skip rfl (Sub.skip rfl (Sub.skip rfl (Sub.skip rfl (Sub.skip rfl (Sub.skip rfl (Sub.skip rfl (Sub.skip rfl (Sub.skip rfl (Sub.same rfl (by rw [g31]) (Sub.refl _)))))))))))) (List.Sublist.refl _)
      ) (fun g31 => by
        have g31' := g31
        try simp only [decide_eq_true_eq, decide_eq_false_iff_not, Bool.not_eq_true', Bool.not_eq_false', Bool.and_eq_true, Bool.or_eq_true, Bool.and_eq_false_iff, Bool.or_eq_false_iff, Int.not_le, Int.not_lt] at g31'
        iterate 8 refine RunL.no rfl rfl rfl ?_
        refine RunL.val (Val.pure rfl) rfl rfl rfl ?_
        exact RunL.segEnd (Sub.cons rfl (Sub.skip rfl (Sub.skip rfl (Sub.skip rfl (Sub.skip rfl (Sub.skip rfl (Sub.skip rfl (Sub.skip rfl (Sub.skip rfl (Sub.skip rfl (Sub.same rfl (by rw [g31]) (Sub.refl _)))))))))))) (List.Sublist.refl _)
      ) ?_
      refine RunL.val (Val.pure rfl) rfl rfl rfl ?_
      exact RunL.segEnd (Sub.cons rfl (Sub.skip rfl (Sub.skip rfl (Sub.skip rfl (Sub.skip rfl (Sub.skip rfl (Sub.skip rfl (Sub.same rfl (by rw [g27]) (Sub.refl _))))))))) (List.Sublist.refl _)
    ) (fun g27 => by
      have g27' := g27
      try simp only [decide_eq_true_eq, decide_eq_false_iff_not, Bool.not_eq_true', Bool.not_eq_false', Bool.and_eq_true, Bool.or_eq_true, Bool.and_eq_false_iff, Bool.or_eq_false_iff, Int.not_le, Int.not_lt] at g27'
      iterate 13 refine RunL.no rfl rfl rfl ?_
      refine RunL.val (Val.pure rfl) rfl rfl rfl ?_
      exact RunL.segEnd (Sub.cons rfl (Sub.skip rfl (Sub.skip rfl (Sub.skip rfl (Sub.skip rfl (Sub.skip rfl (Sub.skip rfl (Sub.skip rfl (Sub.skip rfl (Sub.skip rfl (Sub.skip rfl (Sub.skip rfl (Sub.skip rfl (Sub.skip rfl (Sub.skip rfl (Sub.same rfl (by rw [g27]) (Sub.refl _))))))))))))))))) (List.Sublist.refl _)
    ) ?_
    refine RunL.nil ?_
    refine RunE.next ?_
    refine RunC.cond rfl ?_ ?_
    · intro c1
      have c1' := c1; clear c1
      try simp only [decide_eq_true_eq, decide_eq_false_iff_not, Bool.not_eq_true', Bool.not_eq_false', Bool.and_eq_true, Bool.or_eq_true, Bool.and_eq_false_iff, Bool.or_eq_false_iff, Int.not_le, Int.not_lt] at c1'
      refine RunC.seq ?_
      refine RunC.region ?_
      refine RunL.val (Val.pure rfl) rfl rfl rfl ?_
      refine RunL.nil ?_
      refine RunE.next ?_
      refine RunC.ret ?_
      refine RunE.block_ret ?_
      refine RunE.pass_ret ?_
      refine RunE.pass_ret ?_
      refine RunE.block_ret ?_
      refine RunE.pass_ret ?_
      exact RunE.retP (.r1 rfl (.tmp rfl)) (by have h := any_hit (f := bad p) hk (by rw [ht]; simpa [bad] using c1'); simp [isPair, h])
    · intro c1
      have c1' := c1; clear c1
      try simp only [decide_eq_true_eq, decide_eq_false_iff_not, Bool.not_eq_true', Bool.not_eq_false', Bool.and_eq_true, Bool.or_eq_true, Bool.and_eq_false_iff, Bool.or_eq_false_iff, Int.not_le, Int.not_lt] at c1'
      refine RunC.skip ?_
      refine RunE.block_normal ?_
      refine RunE.next ?_
      refine RunC.region ?_
      refine RunL.val (Val.pure rfl) rfl rfl rfl ?_
      refine RunL.val (Val.add rfl rfl (IntWalk.i64_in _ ⟨by omega, by omega⟩)) rfl rfl rfl ?_
      refine RunL.val (Val.pure rfl) rfl rfl rfl ?_
      refine RunL.nil ?_
      exact RunE.round (by omega) (any_snoc hk kI (by rw [ht]; obtain ⟨⟨h1, h2⟩, h3⟩ := c1'; simp only [bad, Bool.or_eq_false_iff, Bool.not_eq_false', Bool.and_eq_false_iff, decide_eq_true_eq]; exact ⟨⟨h1, h2⟩, h3⟩)) rfl (Sub.consE (t := 3) rfl rfl (Sub.cons (t := 1) rfl (Sub.nil _))) (.cons (.there .here) rfl .nil)
  · intro c0
    have c0' := c0; clear c0
    try simp only [decide_eq_true_eq, decide_eq_false_iff_not, Bool.not_eq_true', Bool.not_eq_false', Bool.and_eq_true, Bool.or_eq_true, Bool.and_eq_false_iff, Bool.or_eq_false_iff, Int.not_le, Int.not_lt] at c0'
    obtain rfl : k = p.things.length := by omega
    rw [List.take_length] at kI
    refine RunC.exit ?_
    refine RunE.pass_exit ?_
    refine RunE.pass_exit ?_
    refine RunE.block_here ?_
    refine RunE.next ?_
    refine RunC.seq ?_
    refine RunC.region ?_
    refine RunL.val (Val.fieldAddr rfl fld_26_5) rfl rfl rfl ?_
    refine RunL.val (Val.load_one rfl (.head _) ty_24 rfl) rfl rfl rfl ?_
    refine RunL.val (Val.len_sl rfl sl_24) rfl rfl rfl ?_
    refine RunL.val (Val.pure rfl) rfl rfl rfl ?_
    refine RunL.val (Val.pure rfl) rfl rfl rfl ?_
    refine RunL.andPart (dj := 46) (dp := 50) 4 rfl (fun g46 => by
      have g46' := g46
      try simp only [decide_eq_true_eq, decide_eq_false_iff_not, Bool.not_eq_true', Bool.not_eq_false', Bool.and_eq_true, Bool.or_eq_true, Bool.and_eq_false_iff, Bool.or_eq_false_iff, Int.not_le, Int.not_lt] at g46'
      refine RunL.val (Val.fieldAddr rfl fld_26_0) rfl rfl rfl ?_
      refine RunL.val (Val.load_agg rfl (.head _) ty_23 rfl) rfl rfl rfl ?_
      refine RunL.callP (isCall_func rfl ent_75) rfl rfl rfl (fun w hm => rspan_calls ⟨_, _⟩ _ _ w) ?_
      refine RunL.val (Val.pure rfl) rfl rfl rfl ?_
      exact RunL.segEnd (Sub.cons rfl (Sub.skip rfl (Sub.skip rfl (Sub.skip rfl (Sub.skip rfl (Sub.same rfl (by rw [g46]) (Sub.refl _))))))) (List.Sublist.refl _)
    ) (fun g46 => by
      have g46' := g46
      try simp only [decide_eq_true_eq, decide_eq_false_iff_not, Bool.not_eq_true', Bool.not_eq_false', Bool.and_eq_true, Bool.or_eq_true, Bool.and_eq_false_iff, Bool.or_eq_false_iff, Int.not_le, Int.not_lt] at g46'
      iterate 3 refine RunL.no rfl rfl rfl ?_
      refine RunL.val (Val.pure rfl) rfl rfl rfl ?_
      exact RunL.segEnd (Sub.cons rfl (Sub.skip rfl (Sub.skip rfl (Sub.skip rfl (Sub.skip rfl (Sub.same rfl (by rw [g46]) (Sub.refl _))))))) (List.Sublist.refl _)
    ) ?_
    refine RunL.val (Val.pure rfl) rfl rfl rfl ?_
    refine RunL.andPart (dj := 51) (dp := 55) 4 rfl (fun g51 => by
      have g51' := g51
      try simp only [decide_eq_true_eq, decide_eq_false_iff_not, Bool.not_eq_true', Bool.not_eq_false', Bool.and_eq_true, Bool.or_eq_true, Bool.and_eq_false_iff, Bool.or_eq_false_iff, Int.not_le, Int.not_lt] at g51'
      refine RunL.val (Val.fieldAddr rfl fld_26_1) rfl rfl rfl ?_
      refine RunL.val (Val.load_agg rfl (.head _) ty_23 rfl) rfl rfl rfl ?_
      refine RunL.callP (isCall_func rfl ent_75) rfl rfl rfl (fun w hm => rspan_calls ⟨_, _⟩ _ _ w) ?_
      refine RunL.val (Val.pure rfl) rfl rfl rfl ?_
      exact RunL.segEnd (Sub.cons rfl (Sub.skip rfl (Sub.skip rfl (Sub.skip rfl (Sub.skip rfl (Sub.same rfl (by rw [g51]) (Sub.refl _))))))) (List.Sublist.refl _)
    ) (fun g51 => by
      have g51' := g51
      try simp only [decide_eq_true_eq, decide_eq_false_iff_not, Bool.not_eq_true', Bool.not_eq_false', Bool.and_eq_true, Bool.or_eq_true, Bool.and_eq_false_iff, Bool.or_eq_false_iff, Int.not_le, Int.not_lt] at g51'
      iterate 3 refine RunL.no rfl rfl rfl ?_
      refine RunL.val (Val.pure rfl) rfl rfl rfl ?_
      exact RunL.segEnd (Sub.cons rfl (Sub.skip rfl (Sub.skip rfl (Sub.skip rfl (Sub.skip rfl (Sub.same rfl (by rw [g51]) (Sub.refl _))))))) (List.Sublist.refl _)
    ) ?_
    refine RunL.val (Val.pure rfl) rfl rfl rfl ?_
    refine RunL.andPart (dj := 56) (dp := 60) 4 rfl (fun g56 => by
      have g56' := g56
      try simp only [decide_eq_true_eq, decide_eq_false_iff_not, Bool.not_eq_true', Bool.not_eq_false', Bool.and_eq_true, Bool.or_eq_true, Bool.and_eq_false_iff, Bool.or_eq_false_iff, Int.not_le, Int.not_lt] at g56'
      refine RunL.val (Val.fieldAddr rfl fld_26_2) rfl rfl rfl ?_
      refine RunL.val (Val.load_one rfl (.head _) ty_3 rfl) rfl rfl rfl ?_
      refine RunL.callP (isCall_func rfl ent_74) rfl rfl rfl (fun w hm => rin_calls _ _ _ w) ?_
      refine RunL.val (Val.pure rfl) rfl rfl rfl ?_
      exact RunL.segEnd (Sub.cons rfl (Sub.skip rfl (Sub.skip rfl (Sub.skip rfl (Sub.skip rfl (Sub.same rfl (by rw [g56]) (Sub.refl _))))))) (List.Sublist.refl _)
    ) (fun g56 => by
      have g56' := g56
      try simp only [decide_eq_true_eq, decide_eq_false_iff_not, Bool.not_eq_true', Bool.not_eq_false', Bool.and_eq_true, Bool.or_eq_true, Bool.and_eq_false_iff, Bool.or_eq_false_iff, Int.not_le, Int.not_lt] at g56'
      iterate 3 refine RunL.no rfl rfl rfl ?_
      refine RunL.val (Val.pure rfl) rfl rfl rfl ?_
      exact RunL.segEnd (Sub.cons rfl (Sub.skip rfl (Sub.skip rfl (Sub.skip rfl (Sub.skip rfl (Sub.same rfl (by rw [g56]) (Sub.refl _))))))) (List.Sublist.refl _)
    ) ?_
    refine RunL.val (Val.pure rfl) rfl rfl rfl ?_
    refine RunL.andPart (dj := 61) (dp := 65) 4 rfl (fun g61 => by
      have g61' := g61
      try simp only [decide_eq_true_eq, decide_eq_false_iff_not, Bool.not_eq_true', Bool.not_eq_false', Bool.and_eq_true, Bool.or_eq_true, Bool.and_eq_false_iff, Bool.or_eq_false_iff, Int.not_le, Int.not_lt] at g61'
      refine RunL.val (Val.fieldAddr rfl fld_26_3) rfl rfl rfl ?_
      refine RunL.val (Val.load_one rfl (.head _) ty_3 rfl) rfl rfl rfl ?_
      refine RunL.callP (isCall_func rfl ent_74) rfl rfl rfl (fun w hm => rin_calls _ _ _ w) ?_
      refine RunL.val (Val.pure rfl) rfl rfl rfl ?_
      exact RunL.segEnd (Sub.cons rfl (Sub.skip rfl (Sub.skip rfl (Sub.skip rfl (Sub.skip rfl (Sub.same rfl (by rw [g61]) (Sub.refl _))))))) (List.Sublist.refl _)
    ) (fun g61 => by
      have g61' := g61
      try simp only [decide_eq_true_eq, decide_eq_false_iff_not, Bool.not_eq_true', Bool.not_eq_false', Bool.and_eq_true, Bool.or_eq_true, Bool.and_eq_false_iff, Bool.or_eq_false_iff, Int.not_le, Int.not_lt] at g61'
      iterate 3 refine RunL.no rfl rfl rfl ?_
      refine RunL.val (Val.pure rfl) rfl rfl rfl ?_
      exact RunL.segEnd (Sub.cons rfl (Sub.skip rfl (Sub.skip rfl (Sub.skip rfl (Sub.skip rfl (Sub.same rfl (by rw [g61]) (Sub.refl _))))))) (List.Sublist.refl _)
    ) ?_
    refine RunL.val (Val.pure rfl) rfl rfl rfl ?_
    refine RunL.andPart (dj := 66) (dp := 72) 6 rfl (fun g66 => by
      have g66' := g66
      try simp only [decide_eq_true_eq, decide_eq_false_iff_not, Bool.not_eq_true', Bool.not_eq_false', Bool.and_eq_true, Bool.or_eq_true, Bool.and_eq_false_iff, Bool.or_eq_false_iff, Int.not_le, Int.not_lt] at g66'
      refine RunL.val (Val.fieldAddr rfl fld_26_4) rfl rfl rfl ?_
      refine RunL.val (Val.load_one rfl (.head _) ty_3 rfl) rfl rfl rfl ?_
      refine RunL.val (Val.fieldAddr rfl fld_26_3) rfl rfl rfl ?_
      refine RunL.val (Val.load_one rfl (.head _) ty_3 rfl) rfl rfl rfl ?_
      refine RunL.callP (isCall_func rfl ent_74) rfl rfl rfl (fun w hm => rin_calls _ _ _ w) ?_
      refine RunL.val (Val.pure rfl) rfl rfl rfl ?_
      exact RunL.segEnd (Sub.cons rfl (Sub.skip rfl (Sub.skip rfl (Sub.skip rfl (Sub.skip rfl (Sub.skip rfl (Sub.skip rfl (Sub.same rfl (by rw [g66]) (Sub.refl _))))))))) (List.Sublist.refl _)
    ) (fun g66 => by
      have g66' := g66
      try simp only [decide_eq_true_eq, decide_eq_false_iff_not, Bool.not_eq_true', Bool.not_eq_false', Bool.and_eq_true, Bool.or_eq_true, Bool.and_eq_false_iff, Bool.or_eq_false_iff, Int.not_le, Int.not_lt] at g66'
      iterate 5 refine RunL.no rfl rfl rfl ?_
      refine RunL.val (Val.pure rfl) rfl rfl rfl ?_
      exact RunL.segEnd (Sub.cons rfl (Sub.skip rfl (Sub.skip rfl (Sub.skip rfl (Sub.skip rfl (Sub.skip rfl (Sub.skip rfl (Sub.same rfl (by rw [g66]) (Sub.refl _))))))))) (List.Sublist.refl _)
    ) ?_
    refine RunL.val (Val.pure rfl) rfl rfl rfl ?_
    refine RunL.nil ?_
    refine RunE.next ?_
    refine RunC.ret ?_
    exact RunE.retP (.r1 rfl (.tmp rfl)) (by simp only [isPair, kI, Bool.not_false, Bool.and_true]; congr 1; cases isSpan p.focal 1 50000 <;> cases isSpan p.base 1 10000 <;> cases within p.tilt 0 1000 <;> cases within p.near 2000 1073741824 <;> cases within p.far p.near 1073741824 <;> simp)
theorem rOf_calls (t : Th) (ht : t.Ok) (W : World) : Calls Tryz.prog 36 #[t.v] W (Pure (b2v (shift t)) W) := by
  obtain ⟨⟨h1, h2, h3⟩, ⟨h4, h5, h6⟩, ⟨h7, h8, h9⟩, ⟨h10, h11, h12⟩⟩ := ht
  refine calls_start Tryz.func36 rfl rfl ?_
  refine RunC.seq ?_
  refine RunC.region ?_
  refine RunL.new (New.box rfl) rfl rfl rfl (fun b1 => ?_)
  refine RunL.new (New.alloc zero_23) rfl rfl rfl (fun b2 => ?_)
  refine RunL.nil ?_
  refine RunE.next ?_
  refine RunC.seq ?_
  refine RunC.region ?_
  refine RunL.val (Val.fieldAddr rfl fld_76_0) rfl rfl rfl ?_
  refine RunL.val (Val.fieldAddr rfl fld_74_0) rfl rfl rfl ?_
  refine RunL.val (Val.fieldAddr rfl fld_23_0) rfl rfl rfl ?_
  refine RunL.val (Val.load_one rfl (.tail _ (.head _)) ty_3 rfl) rfl rfl rfl ?_
  refine RunL.val (Val.fieldAddr rfl fld_76_1) rfl rfl rfl ?_
  refine RunL.val (Val.fieldAddr rfl fld_74_0) rfl rfl rfl ?_
  refine RunL.val (Val.fieldAddr rfl fld_23_1) rfl rfl rfl ?_
  refine RunL.val (Val.load_one rfl (.tail _ (.head _)) ty_3 rfl) rfl rfl rfl ?_
  refine RunL.val (Val.sub' rfl rfl (IntWalk.i64_in _ ⟨by omega, by omega⟩)) rfl rfl rfl ?_
  refine RunL.val (Val.fieldAddr rfl fld_76_0) rfl rfl rfl ?_
  refine RunL.val (Val.fieldAddr rfl fld_74_0) rfl rfl rfl ?_
  refine RunL.val (Val.fieldAddr rfl fld_23_1) rfl rfl rfl ?_
  refine RunL.val (Val.load_one rfl (.tail _ (.head _)) ty_3 rfl) rfl rfl rfl ?_
  refine RunL.val (Val.fieldAddr rfl fld_76_1) rfl rfl rfl ?_
  refine RunL.val (Val.fieldAddr rfl fld_74_0) rfl rfl rfl ?_
  refine RunL.val (Val.fieldAddr rfl fld_23_0) rfl rfl rfl ?_
  refine RunL.val (Val.load_one rfl (.tail _ (.head _)) ty_3 rfl) rfl rfl rfl ?_
  refine RunL.val (Val.sub' rfl rfl (IntWalk.i64_in _ ⟨by omega, by omega⟩)) rfl rfl rfl ?_
  refine RunL.val (Val.build (parts := [(0, .tmp 11), (1, .tmp 20)]) rfl zero_23 places_23 rfl) rfl rfl rfl ?_
  refine RunL.sto (Sto.store rfl rfl .here ty_23 rfl rfl) rfl rfl ?_
  refine RunL.nil ?_
  refine RunE.next ?_
  refine RunC.ret ?_
  exact RunE.retP (.r1 rfl (.agg rfl (.head _) ty_23 rfl)) (by first | rfl | simp)
theorem rcommon_calls (x y : Int × Int) (W : World) : Calls Tryz.prog 93 #[.agg #[.int .i64 x.1, .int .i64 x.2], .agg #[.int .i64 y.1, .int .i64 y.2]] W (Pure (b2v (nar x y)) W) := by
  refine calls_start Tryz.func93 rfl rfl ?_
  refine RunC.seq ?_
  refine RunC.region ?_
  refine RunL.new (New.box rfl) rfl rfl rfl (fun b2 => ?_)
  refine RunL.new (New.box rfl) rfl rfl rfl (fun b3 => ?_)
  refine RunL.new (New.alloc zero_23) rfl rfl rfl (fun b4 => ?_)
  refine RunL.nil ?_
  refine RunE.next ?_
  refine RunC.seq ?_
  refine RunC.region ?_
  refine RunL.val (Val.fieldAddr rfl fld_23_0) rfl rfl rfl ?_
  refine RunL.val (Val.load_one rfl (.tail _ (.tail _ (.head _))) ty_3 rfl) rfl rfl rfl ?_
  refine RunL.val (Val.fieldAddr rfl fld_23_0) rfl rfl rfl ?_
  refine RunL.val (Val.load_one rfl (.tail _ (.head _)) ty_3 rfl) rfl rfl rfl ?_
  refine RunL.val (Val.max rfl rfl) rfl rfl rfl ?_
  refine RunL.val (Val.fieldAddr rfl fld_23_1) rfl rfl rfl ?_
  refine RunL.val (Val.load_one rfl (.tail _ (.tail _ (.head _))) ty_3 rfl) rfl rfl rfl ?_
  refine RunL.val (Val.fieldAddr rfl fld_23_1) rfl rfl rfl ?_
  refine RunL.val (Val.load_one rfl (.tail _ (.head _)) ty_3 rfl) rfl rfl rfl ?_
  refine RunL.val (Val.min rfl rfl) rfl rfl rfl ?_
  refine RunL.val (Val.build (parts := [(0, .tmp 9), (1, .tmp 14)]) rfl zero_23 places_23 rfl) rfl rfl rfl ?_
  refine RunL.sto (Sto.store rfl rfl .here ty_23 rfl rfl) rfl rfl ?_
  refine RunL.nil ?_
  refine RunE.next ?_
  refine RunC.ret ?_
  exact RunE.retP (.r1 rfl (.agg rfl (.head _) ty_23 rfl)) (by first | rfl | simp)
theorem rEmpty_calls (x : Int × Int) (W : World) : Calls Tryz.prog 92 #[.agg #[.int .i64 x.1, .int .i64 x.2]] W (Pure (.bool (!isB x)) W) := by
  refine calls_start Tryz.func92 rfl rfl ?_
  refine RunC.seq ?_
  refine RunC.region ?_
  refine RunL.new (New.box rfl) rfl rfl rfl (fun b1 => ?_)
  refine RunL.val (Val.pure rfl) rfl rfl rfl ?_
  refine RunL.nil ?_
  refine RunE.next ?_
  refine RunC.seq ?_
  refine RunC.region ?_
  refine RunL.val (Val.fieldAddr rfl fld_23_0) rfl rfl rfl ?_
  refine RunL.val (Val.load_one rfl (.head _) ty_3 rfl) rfl rfl rfl ?_
  refine RunL.val (Val.fieldAddr rfl fld_23_1) rfl rfl rfl ?_
  refine RunL.val (Val.load_one rfl (.head _) ty_3 rfl) rfl rfl rfl ?_
  refine RunL.val (Val.pure rfl) rfl rfl rfl ?_
  refine RunL.val (Val.pure rfl) rfl rfl rfl ?_
  refine RunL.nil ?_
  refine RunE.next ?_
  refine RunC.ret ?_
  exact RunE.retP (.r1 rfl (.tmp rfl)) (by simp only [isB, ← decide_not, Int.not_le])
theorem rnone_calls (W : World) : Calls Tryz.prog 105 #[] W (Pure (b2v (1, 0)) W) := by
  refine calls_start Tryz.func105 rfl rfl ?_
  refine RunC.seq ?_
  refine RunC.region ?_
  refine RunL.new (New.alloc zero_23) rfl rfl rfl (fun b0 => ?_)
  refine RunL.nil ?_
  refine RunE.next ?_
  refine RunC.seq ?_
  refine RunC.region ?_
  refine RunL.val (Val.build (parts := [(0, .const (.int .i64 1)), (1, .const (.int .i64 0))]) rfl zero_23 places_23 rfl) rfl rfl rfl ?_
  refine RunL.sto (Sto.store rfl rfl .here ty_23 rfl rfl) rfl rfl ?_
  refine RunL.nil ?_
  refine RunE.next ?_
  refine RunC.ret ?_
  exact RunE.retP (.r1 rfl (.agg rfl (.head _) ty_23 rfl)) (by first | rfl | simp)
theorem rlevel_calls (t : Th) (ht : t.Ok) (by_ : Int) (h0 : 0 ≤ by_) (h1' : by_ ≤ 1000) (W : World) : Calls Tryz.prog 95 #[t.v, .int .i64 by_] W (Pure (.bool (levelR t by_)) W) := by
  obtain ⟨⟨h1, h2, h3⟩, ⟨h4, h5, h6⟩, ⟨h7, h8, h9⟩, ⟨h10, h11, h12⟩⟩ := ht
  refine calls_start Tryz.func95 rfl rfl ?_
  refine RunC.seq ?_
  refine RunC.region ?_
  refine RunL.new (New.box rfl) rfl rfl rfl (fun b2 => ?_)
  refine RunL.val (Val.pure rfl) rfl rfl rfl ?_
  refine RunL.nil ?_
  refine RunE.next ?_
  refine RunC.seq ?_
  refine RunC.region ?_
  refine RunL.val (Val.fieldAddr rfl fld_76_0) rfl rfl rfl ?_
  refine RunL.val (Val.fieldAddr rfl fld_74_1) rfl rfl rfl ?_
  refine RunL.val (Val.fieldAddr rfl fld_23_0) rfl rfl rfl ?_
  refine RunL.val (Val.load_one rfl (.head _) ty_3 rfl) rfl rfl rfl ?_
  refine RunL.val (Val.fieldAddr rfl fld_76_1) rfl rfl rfl ?_
  refine RunL.val (Val.fieldAddr rfl fld_74_1) rfl rfl rfl ?_
  refine RunL.val (Val.fieldAddr rfl fld_23_1) rfl rfl rfl ?_
  refine RunL.val (Val.load_one rfl (.head _) ty_3 rfl) rfl rfl rfl ?_
  refine RunL.val (Val.pure rfl) rfl rfl rfl ?_
  refine RunL.val (Val.add rfl rfl (IntWalk.i64_in _ ⟨by omega, by omega⟩)) rfl rfl rfl ?_
  refine RunL.val (Val.pure rfl) rfl rfl rfl ?_
  refine RunL.val (Val.pure rfl) rfl rfl rfl ?_
  refine RunL.andPart (dj := 16) (dp := 28) 12 rfl (fun g16 => by
    have g16' := g16
    try simp only [decide_eq_true_eq, decide_eq_false_iff_not, Bool.not_eq_true', Bool.not_eq_false', Bool.and_eq_true, Bool.or_eq_true, Bool.and_eq_false_iff, Bool.or_eq_false_iff, Int.not_le, Int.not_lt] at g16'
    refine RunL.val (Val.fieldAddr rfl fld_76_1) rfl rfl rfl ?_
    refine RunL.val (Val.fieldAddr rfl fld_74_1) rfl rfl rfl ?_
    refine RunL.val (Val.fieldAddr rfl fld_23_0) rfl rfl rfl ?_
    refine RunL.val (Val.load_one rfl (.head _) ty_3 rfl) rfl rfl rfl ?_
    refine RunL.val (Val.fieldAddr rfl fld_76_0) rfl rfl rfl ?_
    refine RunL.val (Val.fieldAddr rfl fld_74_1) rfl rfl rfl ?_
    refine RunL.val (Val.fieldAddr rfl fld_23_1) rfl rfl rfl ?_
    refine RunL.val (Val.load_one rfl (.head _) ty_3 rfl) rfl rfl rfl ?_
    refine RunL.val (Val.pure rfl) rfl rfl rfl ?_
    refine RunL.val (Val.add rfl rfl (IntWalk.i64_in _ ⟨by omega, by omega⟩)) rfl rfl rfl ?_
    refine RunL.val (Val.pure rfl) rfl rfl rfl ?_
    refine RunL.val (Val.pure rfl) rfl rfl rfl ?_
    exact RunL.segEnd (Sub.cons rfl (Sub.skip rfl (Sub.skip rfl (Sub.skip rfl (Sub.skip rfl (Sub.skip rfl (Sub.skip rfl (Sub.skip rfl (Sub.skip rfl (Sub.skip rfl (Sub.skip rfl (Sub.skip rfl (Sub.skip rfl (Sub.same rfl (by rw [g16]) (Sub.refl _))))))))))))))) (List.Sublist.refl _)
  ) (fun g16 => by
    have g16' := g16
    try simp only [decide_eq_true_eq, decide_eq_false_iff_not, Bool.not_eq_true', Bool.not_eq_false', Bool.and_eq_true, Bool.or_eq_true, Bool.and_eq_false_iff, Bool.or_eq_false_iff, Int.not_le, Int.not_lt] at g16'
    iterate 11 refine RunL.no rfl rfl rfl ?_
    refine RunL.val (Val.pure rfl) rfl rfl rfl ?_
    exact RunL.segEnd (Sub.cons rfl (Sub.skip rfl (Sub.skip rfl (Sub.skip rfl (Sub.skip rfl (Sub.skip rfl (Sub.skip rfl (Sub.skip rfl (Sub.skip rfl (Sub.skip rfl (Sub.skip rfl (Sub.skip rfl (Sub.skip rfl (Sub.same rfl (by rw [g16]) (Sub.refl _))))))))))))))) (List.Sublist.refl _)
  ) ?_
  refine RunL.val (Val.pure rfl) rfl rfl rfl ?_
  refine RunL.nil ?_
  refine RunE.next ?_
  refine RunC.ret ?_
  exact RunE.retP (.r1 rfl (.tmp rfl)) (by first | rfl | simp)
theorem powersR_none {p : Pr} {t : Th} (h : levelS p t = false ∨ isB (shownS t) = false) : powersR p t = (1, 0) := by
  unfold powersR
  rw [if_neg]
  rw [Bool.and_eq_true]
  rintro ⟨h1, h2⟩
  rcases h with h | h
  · rw [h] at h2; cases h2
  · rw [h] at h1; cases h1
theorem rPowers_calls (p : Pr) (hp : p.Ok) (q : Option Addr) (cap : Nat) (t : Th) (ht : t.Ok) (hf : t.far = 0 ∨ (p.near ≤ t.far ∧ t.far ≤ p.far)) (W : World) :
    Calls Tryz.prog 94 #[p.v q cap, t.v] W (Pure (b2v (powersR p t)) W) := by
  have n1 := hp.n1
  have n2 := hp.n2
  have n3 := hp.n3
  have hlv := levelR_eq hp ht
  by_cases h0 : t.far = 0
  · refine calls_start Tryz.func94 rfl rfl ?_
    refine RunC.seq ?_
    refine RunC.region ?_
    refine RunL.new (New.box rfl) rfl rfl rfl (fun b2 => ?_)
    refine RunL.new (New.box rfl) rfl rfl rfl (fun b3 => ?_)
    refine RunL.new (New.alloc zero_23) rfl rfl rfl (fun b4 => ?_)
    refine RunL.nil ?_
    refine RunE.next ?_
    refine RunC.seq ?_
    refine RunC.draw 5 fol_ (.cons .here rfl (.cons .here rfl (.cons .here rfl .nil))) ?_
    refine RunA.val (i := 0) rfl (by kernel_rfl) (by kernel_rfl) (Val.fieldAddr rfl fld_26_3) rfl rfl rfl (fun _ _ _ h => h) (.cons .here rfl (.cons .here rfl (.cons .here rfl .nil))) rfl ?_
    refine RunA.val (i := 1) rfl (by kernel_rfl) (by kernel_rfl) (Val.load_one rfl (.tail _ (.tail _ (.head _))) ty_3 rfl) rfl rfl rfl (fun _ _ _ h => h) (.cons .here rfl (.cons .here rfl (.cons .here rfl .nil))) rfl ?_
    refine RunA.val (i := 2) rfl (by kernel_rfl) (by kernel_rfl) (Val.fieldAddr rfl fld_26_4) rfl rfl rfl (fun _ _ _ h => h) (.cons .here rfl (.cons .here rfl (.cons .here rfl .nil))) rfl ?_
    refine RunA.val (i := 3) rfl (by kernel_rfl) (by kernel_rfl) (Val.load_one rfl (.tail _ (.tail _ (.head _))) ty_3 rfl) rfl rfl rfl (fun _ _ _ h => h) (.cons .here rfl (.cons .here rfl (.cons .here rfl .nil))) rfl ?_
    refine RunA.val (i := 4) rfl (by kernel_rfl) (by kernel_rfl) (Val.pure rfl) rfl rfl rfl (fun _ _ _ h => h) (.cons .here rfl (.cons .here rfl (.cons .here rfl .nil))) rfl ?_
    refine RunA.toB (by kernel_rfl) ?_
    refine RunB.one (i := 5) (by kernel_rfl) ?_
    refine RunI.val rfl (Val.pure rfl) rfl rfl rfl (RunK.toB ?_)
    refine RunB.done (by kernel_rfl) ?_
    refine RunE.next ?_
    refine RunC.seq ?_
    refine RunC.seq ?_
    refine RunC.region ?_
    refine RunL.val (Val.fieldAddr rfl fld_76_2) rfl rfl rfl ?_
    refine RunL.val (Val.load_one rfl (.tail _ (.head _)) ty_3 rfl) rfl rfl rfl ?_
    refine RunL.val (Val.pure rfl) rfl rfl rfl ?_
    refine RunL.nil ?_
    refine RunE.next ?_
    refine RunC.cond rfl (fun h => absurd h (by simpa using h0)) ?_
    intro c0
    clear c0
    refine RunC.skip ?_
    refine RunE.next ?_
    refine RunC.seq ?_
    refine RunC.region ?_
    refine RunL.val (Val.load_agg rfl (.tail _ (.head _)) ty_76 rfl) rfl rfl rfl ?_
    refine RunL.callP (isCall_func rfl ent_36) rfl rfl rfl (fun w hm => rOf_calls t ht w) ?_
    refine RunL.val (Val.build (parts := [(0, .const (.int .i64 0)), (1, .const (.int .i64 2000))]) rfl zero_23 places_23 rfl) rfl rfl rfl ?_
    refine RunL.callP (isCall_func rfl ent_93) rfl rfl rfl (fun w hm => rcommon_calls (_, _) (_, _) w) ?_
    refine RunL.new (New.alloc zero_23) rfl rfl rfl (fun b7 => ?_)
    refine RunL.sto (Sto.store rfl rfl .here ty_23 rfl rfl) rfl rfl ?_
    refine RunL.nil ?_
    refine RunE.next ?_
    refine RunC.seq ?_
    refine RunC.seq ?_
    refine RunC.region ?_
    refine RunL.val (Val.load_agg rfl (.tail _ (.tail _ (.head _))) ty_76 rfl) rfl rfl rfl ?_
    refine RunL.val (Val.fieldAddr rfl fld_26_2) rfl rfl rfl ?_
    refine RunL.val (Val.load_one rfl (.tail _ (.tail _ (.tail _ (.head _)))) ty_3 rfl) rfl rfl rfl ?_
    refine RunL.callP (isCall_func rfl ent_95) rfl rfl rfl (fun w hm => rlevel_calls t ht p.tilt hp.t1 hp.t2 w) ?_
    refine RunL.val (Val.pure rfl) rfl rfl rfl ?_
    refine RunL.val (Val.pure rfl) rfl rfl rfl ?_
    refine RunL.orPart (dj := 28) (dp := 31) 3 rfl (fun g28 => by
      have g28' := g28
      try simp only [decide_eq_true_eq, decide_eq_false_iff_not, Bool.not_eq_true', Bool.not_eq_false', Bool.and_eq_true, Bool.or_eq_true, Bool.and_eq_false_iff, Bool.or_eq_false_iff, Int.not_le, Int.not_lt] at g28'
      refine RunL.val (Val.load_agg rfl (.head _) ty_23 rfl) rfl rfl rfl ?_
      refine RunL.callP (isCall_func rfl ent_92) rfl rfl rfl (fun w hm => rEmpty_calls (_, _) w) ?_
      refine RunL.val (Val.pure rfl) rfl rfl rfl ?_
      exact RunL.segEnd (Sub.cons rfl (Sub.skip rfl (Sub.skip rfl (Sub.skip rfl (Sub.same rfl (by rw [g28]) (Sub.refl _)))))) (List.Sublist.refl _)
    ) (fun g28 => by
      have g28' := g28
      try simp only [decide_eq_true_eq, decide_eq_false_iff_not, Bool.not_eq_true', Bool.not_eq_false', Bool.and_eq_true, Bool.or_eq_true, Bool.and_eq_false_iff, Bool.or_eq_false_iff, Int.not_le, Int.not_lt] at g28'
      refine RunL.no rfl rfl rfl ?_
      refine RunL.no rfl rfl rfl ?_
      refine RunL.val (Val.pure rfl) rfl rfl rfl ?_
      exact RunL.segEnd (Sub.cons rfl (Sub.skip rfl (Sub.skip rfl (Sub.skip rfl (Sub.same rfl (by rw [g28]) (Sub.refl _)))))) (List.Sublist.refl _)
    ) ?_
    refine RunL.nil ?_
    refine RunE.next ?_
    refine RunC.cond rfl ?_ ?_
    · intro c1
      have c1' := c1; clear c1
      try simp only [decide_eq_true_eq, decide_eq_false_iff_not, Bool.not_eq_true', Bool.not_eq_false', Bool.and_eq_true, Bool.or_eq_true, Bool.and_eq_false_iff, Bool.or_eq_false_iff, Int.not_le, Int.not_lt] at c1'
      rw [hlv] at c1'
      refine RunC.seq ?_
      refine RunC.region ?_
      refine RunL.callP (isCall_func rfl ent_105) rfl rfl rfl (fun w hm => rnone_calls w) ?_
      refine RunL.sto (Sto.store rfl rfl (.there .here) ty_23 rfl rfl) rfl rfl ?_
      refine RunL.nil ?_
      refine RunE.next ?_
      refine RunC.ret ?_
      refine RunE.pass_ret ?_
      exact RunE.retP (.r1 rfl (.agg rfl (.tail _ (.head _)) ty_23 rfl)) (by rw [powersR_none c1']; rfl)
    · intro c1
      have c1' := c1; clear c1
      try simp only [decide_eq_true_eq, decide_eq_false_iff_not, Bool.not_eq_true', Bool.not_eq_false', Bool.and_eq_true, Bool.or_eq_true, Bool.and_eq_false_iff, Bool.or_eq_false_iff, Int.not_le, Int.not_lt] at c1'
      rw [hlv] at c1'
      have bd := shown_bd (t := t) c1'.2
      have m1 := mul_bd bd.1 (Int.le_trans bd.2.1 bd.2.2) (show 0 ≤ p.near by omega) (show p.near ≤ 1073741824 by omega)
      have m2 := mul_bd (a := (shownS t).2 + 1) (A := 2001) (by omega) (by omega) (show 0 ≤ p.far by omega) n3
      refine RunC.skip ?_
      refine RunE.next ?_
      refine RunC.seq ?_
      refine RunC.region ?_
      refine RunL.val (Val.fieldAddr rfl fld_23_0) rfl rfl rfl ?_
      refine RunL.val (Val.load_one rfl (.head _) ty_3 rfl) rfl rfl rfl ?_
      refine RunL.val (Val.pure rfl) rfl rfl rfl ?_
      refine RunL.val (Val.mul rfl rfl (IntWalk.i64_in _ (rng_of m1 (by decide)))) rfl rfl rfl ?_
      refine RunL.val (Val.fieldAddr rfl fld_23_1) rfl rfl rfl ?_
      refine RunL.val (Val.load_one rfl (.head _) ty_3 rfl) rfl rfl rfl ?_
      refine RunL.val (Val.add rfl rfl (IntWalk.i64_in _ (rng_of (show 0 ≤ (shownS t).2 + 1 ∧ (shownS t).2 + 1 ≤ 2001 by omega) (by decide)))) rfl rfl rfl ?_
      refine RunL.val (Val.pure rfl) rfl rfl rfl ?_
      refine RunL.val (Val.mul rfl rfl (IntWalk.i64_in _ (rng_of m2 (by decide)))) rfl rfl rfl ?_
      refine RunL.val (Val.sub' rfl rfl (IntWalk.i64_in _ (rng_sub m2 (by decide)))) rfl rfl rfl ?_
      refine RunL.val (Val.build (parts := [(0, .tmp 36), (1, .tmp 42)]) rfl zero_23 places_23 rfl) rfl rfl rfl ?_
      refine RunL.sto (Sto.store rfl rfl (.there .here) ty_23 rfl rfl) rfl rfl ?_
      refine RunL.nil ?_
      refine RunE.next ?_
      refine RunC.ret ?_
      exact RunE.retP (.r1 rfl (.agg rfl (.tail _ (.head _)) ty_23 rfl)) (by have e : powersR p t = powersS p t (shownS t) := (by simp [powersR, c1'.1, show isB (shownS t) = true from c1'.2]); rw [e]; simp only [powersS, h0, if_true]; rfl)
  · refine calls_start Tryz.func94 rfl rfl ?_
    refine RunC.seq ?_
    refine RunC.region ?_
    refine RunL.new (New.box rfl) rfl rfl rfl (fun b2 => ?_)
    refine RunL.new (New.box rfl) rfl rfl rfl (fun b3 => ?_)
    refine RunL.new (New.alloc zero_23) rfl rfl rfl (fun b4 => ?_)
    refine RunL.nil ?_
    refine RunE.next ?_
    refine RunC.seq ?_
    refine RunC.draw 5 fol_ (.cons .here rfl (.cons .here rfl (.cons .here rfl .nil))) ?_
    refine RunA.val (i := 0) rfl (by kernel_rfl) (by kernel_rfl) (Val.fieldAddr rfl fld_26_3) rfl rfl rfl (fun _ _ _ h => h) (.cons .here rfl (.cons .here rfl (.cons .here rfl .nil))) rfl ?_
    refine RunA.val (i := 1) rfl (by kernel_rfl) (by kernel_rfl) (Val.load_one rfl (.tail _ (.tail _ (.head _))) ty_3 rfl) rfl rfl rfl (fun _ _ _ h => h) (.cons .here rfl (.cons .here rfl (.cons .here rfl .nil))) rfl ?_
    refine RunA.val (i := 2) rfl (by kernel_rfl) (by kernel_rfl) (Val.fieldAddr rfl fld_26_4) rfl rfl rfl (fun _ _ _ h => h) (.cons .here rfl (.cons .here rfl (.cons .here rfl .nil))) rfl ?_
    refine RunA.val (i := 3) rfl (by kernel_rfl) (by kernel_rfl) (Val.load_one rfl (.tail _ (.tail _ (.head _))) ty_3 rfl) rfl rfl rfl (fun _ _ _ h => h) (.cons .here rfl (.cons .here rfl (.cons .here rfl .nil))) rfl ?_
    refine RunA.val (i := 4) rfl (by kernel_rfl) (by kernel_rfl) (Val.pure rfl) rfl rfl rfl (fun _ _ _ h => h) (.cons .here rfl (.cons .here rfl (.cons .here rfl .nil))) rfl ?_
    refine RunA.toB (by kernel_rfl) ?_
    refine RunB.one (i := 5) (by kernel_rfl) ?_
    refine RunI.val rfl (Val.pure rfl) rfl rfl rfl (RunK.toB ?_)
    refine RunB.done (by kernel_rfl) ?_
    refine RunE.next ?_
    refine RunC.seq ?_
    refine RunC.seq ?_
    refine RunC.region ?_
    refine RunL.val (Val.fieldAddr rfl fld_76_2) rfl rfl rfl ?_
    refine RunL.val (Val.load_one rfl (.tail _ (.head _)) ty_3 rfl) rfl rfl rfl ?_
    refine RunL.val (Val.pure rfl) rfl rfl rfl ?_
    refine RunL.nil ?_
    refine RunE.next ?_
    refine RunC.cond rfl ?_ (fun h => absurd h (by simpa using h0))
    intro c0
    clear c0
    refine RunC.draw 5 fol_ (.cons .here rfl (.cons .here rfl (.cons .here rfl .nil))) ?_
    refine RunA.val (i := 0) rfl (by kernel_rfl) (by kernel_rfl) (Val.fieldAddr rfl fld_76_2) rfl rfl rfl (fun _ _ _ h => h) (.cons .here rfl (.cons .here rfl (.cons .here rfl .nil))) rfl ?_
    refine RunA.val (i := 1) rfl (by kernel_rfl) (by kernel_rfl) (Val.load_one rfl (.tail _ (.head _)) ty_3 rfl) rfl rfl rfl (fun _ _ _ h => h) (.cons .here rfl (.cons .here rfl (.cons .here rfl .nil))) rfl ?_
    refine RunA.val (i := 2) rfl (by kernel_rfl) (by kernel_rfl) (Val.fieldAddr rfl fld_76_2) rfl rfl rfl (fun _ _ _ h => h) (.cons .here rfl (.cons .here rfl (.cons .here rfl .nil))) rfl ?_
    refine RunA.val (i := 3) rfl (by kernel_rfl) (by kernel_rfl) (Val.load_one rfl (.tail _ (.head _)) ty_3 rfl) rfl rfl rfl (fun _ _ _ h => h) (.cons .here rfl (.cons .here rfl (.cons .here rfl .nil))) rfl ?_
    refine RunA.val (i := 4) rfl (by kernel_rfl) (by kernel_rfl) (Val.pure rfl) rfl rfl rfl (fun _ _ _ h => h) (.cons .here rfl (.cons .here rfl (.cons .here rfl .nil))) rfl ?_
    refine RunA.toB (by kernel_rfl) ?_
    refine RunB.one (i := 5) (by kernel_rfl) ?_
    refine RunI.val rfl (Val.pure rfl) rfl rfl rfl (RunK.toB ?_)
    refine RunB.done (by kernel_rfl) ?_
    refine RunE.next ?_
    refine RunC.seq ?_
    refine RunC.region ?_
    refine RunL.val (Val.load_agg rfl (.tail _ (.head _)) ty_76 rfl) rfl rfl rfl ?_
    refine RunL.callP (isCall_func rfl ent_36) rfl rfl rfl (fun w hm => rOf_calls t ht w) ?_
    refine RunL.val (Val.build (parts := [(0, .const (.int .i64 0)), (1, .const (.int .i64 2000))]) rfl zero_23 places_23 rfl) rfl rfl rfl ?_
    refine RunL.callP (isCall_func rfl ent_93) rfl rfl rfl (fun w hm => rcommon_calls (_, _) (_, _) w) ?_
    refine RunL.new (New.alloc zero_23) rfl rfl rfl (fun b7 => ?_)
    refine RunL.sto (Sto.store rfl rfl .here ty_23 rfl rfl) rfl rfl ?_
    refine RunL.nil ?_
    refine RunE.next ?_
    refine RunC.seq ?_
    refine RunC.seq ?_
    refine RunC.region ?_
    refine RunL.val (Val.load_agg rfl (.tail _ (.tail _ (.head _))) ty_76 rfl) rfl rfl rfl ?_
    refine RunL.val (Val.fieldAddr rfl fld_26_2) rfl rfl rfl ?_
    refine RunL.val (Val.load_one rfl (.tail _ (.tail _ (.tail _ (.head _)))) ty_3 rfl) rfl rfl rfl ?_
    refine RunL.callP (isCall_func rfl ent_95) rfl rfl rfl (fun w hm => rlevel_calls t ht p.tilt hp.t1 hp.t2 w) ?_
    refine RunL.val (Val.pure rfl) rfl rfl rfl ?_
    refine RunL.val (Val.pure rfl) rfl rfl rfl ?_
    refine RunL.orPart (dj := 28) (dp := 31) 3 rfl (fun g28 => by
      have g28' := g28
      try simp only [decide_eq_true_eq, decide_eq_false_iff_not, Bool.not_eq_true', Bool.not_eq_false', Bool.and_eq_true, Bool.or_eq_true, Bool.and_eq_false_iff, Bool.or_eq_false_iff, Int.not_le, Int.not_lt] at g28'
      refine RunL.val (Val.load_agg rfl (.head _) ty_23 rfl) rfl rfl rfl ?_
      refine RunL.callP (isCall_func rfl ent_92) rfl rfl rfl (fun w hm => rEmpty_calls (_, _) w) ?_
      refine RunL.val (Val.pure rfl) rfl rfl rfl ?_
      exact RunL.segEnd (Sub.cons rfl (Sub.skip rfl (Sub.skip rfl (Sub.skip rfl (Sub.same rfl (by rw [g28]) (Sub.refl _)))))) (List.Sublist.refl _)
    ) (fun g28 => by
      have g28' := g28
      try simp only [decide_eq_true_eq, decide_eq_false_iff_not, Bool.not_eq_true', Bool.not_eq_false', Bool.and_eq_true, Bool.or_eq_true, Bool.and_eq_false_iff, Bool.or_eq_false_iff, Int.not_le, Int.not_lt] at g28'
      refine RunL.no rfl rfl rfl ?_
      refine RunL.no rfl rfl rfl ?_
      refine RunL.val (Val.pure rfl) rfl rfl rfl ?_
      exact RunL.segEnd (Sub.cons rfl (Sub.skip rfl (Sub.skip rfl (Sub.skip rfl (Sub.same rfl (by rw [g28]) (Sub.refl _)))))) (List.Sublist.refl _)
    ) ?_
    refine RunL.nil ?_
    refine RunE.next ?_
    refine RunC.cond rfl ?_ ?_
    · intro c1
      have c1' := c1; clear c1
      try simp only [decide_eq_true_eq, decide_eq_false_iff_not, Bool.not_eq_true', Bool.not_eq_false', Bool.and_eq_true, Bool.or_eq_true, Bool.and_eq_false_iff, Bool.or_eq_false_iff, Int.not_le, Int.not_lt] at c1'
      rw [hlv] at c1'
      refine RunC.seq ?_
      refine RunC.region ?_
      refine RunL.callP (isCall_func rfl ent_105) rfl rfl rfl (fun w hm => rnone_calls w) ?_
      refine RunL.sto (Sto.store rfl rfl (.there .here) ty_23 rfl rfl) rfl rfl ?_
      refine RunL.nil ?_
      refine RunE.next ?_
      refine RunC.ret ?_
      refine RunE.pass_ret ?_
      exact RunE.retP (.r1 rfl (.agg rfl (.tail _ (.head _)) ty_23 rfl)) (by rw [powersR_none c1']; rfl)
    · intro c1
      have c1' := c1; clear c1
      try simp only [decide_eq_true_eq, decide_eq_false_iff_not, Bool.not_eq_true', Bool.not_eq_false', Bool.and_eq_true, Bool.or_eq_true, Bool.and_eq_false_iff, Bool.or_eq_false_iff, Int.not_le, Int.not_lt] at c1'
      rw [hlv] at c1'
      have bd := shown_bd (t := t) c1'.2
      have m1 := mul_bd bd.1 (Int.le_trans bd.2.1 bd.2.2) (show 0 ≤ t.far by omega) (show t.far ≤ 1073741824 by omega)
      have m2 := mul_bd (a := (shownS t).2 + 1) (A := 2001) (by omega) (by omega) (show 0 ≤ t.far by omega) (show t.far ≤ 1073741824 by omega)
      refine RunC.skip ?_
      refine RunE.next ?_
      refine RunC.seq ?_
      refine RunC.region ?_
      refine RunL.val (Val.fieldAddr rfl fld_23_0) rfl rfl rfl ?_
      refine RunL.val (Val.load_one rfl (.head _) ty_3 rfl) rfl rfl rfl ?_
      refine RunL.val (Val.pure rfl) rfl rfl rfl ?_
      refine RunL.val (Val.mul rfl rfl (IntWalk.i64_in _ (rng_of m1 (by decide)))) rfl rfl rfl ?_
      refine RunL.val (Val.fieldAddr rfl fld_23_1) rfl rfl rfl ?_
      refine RunL.val (Val.load_one rfl (.head _) ty_3 rfl) rfl rfl rfl ?_
      refine RunL.val (Val.add rfl rfl (IntWalk.i64_in _ (rng_of (show 0 ≤ (shownS t).2 + 1 ∧ (shownS t).2 + 1 ≤ 2001 by omega) (by decide)))) rfl rfl rfl ?_
      refine RunL.val (Val.pure rfl) rfl rfl rfl ?_
      refine RunL.val (Val.mul rfl rfl (IntWalk.i64_in _ (rng_of m2 (by decide)))) rfl rfl rfl ?_
      refine RunL.val (Val.sub' rfl rfl (IntWalk.i64_in _ (rng_sub m2 (by decide)))) rfl rfl rfl ?_
      refine RunL.val (Val.build (parts := [(0, .tmp 36), (1, .tmp 42)]) rfl zero_23 places_23 rfl) rfl rfl rfl ?_
      refine RunL.sto (Sto.store rfl rfl (.there .here) ty_23 rfl rfl) rfl rfl ?_
      refine RunL.nil ?_
      refine RunE.next ?_
      refine RunC.ret ?_
      exact RunE.retP (.r1 rfl (.agg rfl (.tail _ (.head _)) ty_23 rfl)) (by have e : powersR p t = powersS p t (shownS t) := (by simp [powersR, c1'.1, show isB (shownS t) = true from c1'.2]); rw [e]; simp only [powersS, h0, if_false]; rfl)
end Go.Proofs.YthoheicppmbepaaGreat
