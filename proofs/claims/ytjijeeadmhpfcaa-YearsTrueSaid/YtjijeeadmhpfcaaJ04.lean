/- Walks of the reference of layer 1: the small functions. -/
import Derived.Test.YtjijeeadmhpfcaaJ03
import Derived.ProofKit
import Derived.OpenShut
import Derived.ShutString
import Derived.ChangeOld
import Derived.Below
import Derived.Carry
import Derived.Deep.Slices
set_option linter.unusedSimpArgs false
set_option linter.unusedVariables false
namespace Go.Proofs.Ytjijeeadmhpfcaa
open Go Go.Eng Go.Pw1

theorem rin_calls (n lo hi : Int) (W : World) : Calls Try.prog 83 #[.int .i64 n, .int .i64 lo, .int .i64 hi] W (Pure (.bool (within n lo hi)) W) := by
  refine calls_start Try.func83 rfl rfl ?_
  refine RunC.seq ?_
  refine RunC.region ?_
  refine RunL.val (Val.pure rfl) rfl rfl rfl ?_
  refine RunL.nil ?_
  refine RunE.next ?_
  refine RunC.seq ?_
  refine RunC.region ?_
  iterate 4 refine RunL.val (Val.pure rfl) rfl rfl rfl ?_
  refine RunL.andPart (dj := 10) (dp := 14) 4 rfl (fun g10 => by
    have g10' := g10
    try simp only [decide_eq_true_eq, decide_eq_false_iff_not, Bool.not_eq_true', Bool.not_eq_false', Bool.and_eq_true, Bool.or_eq_true, Bool.and_eq_false_iff, Bool.or_eq_false_iff, Int.not_le, Int.not_lt] at g10'
    iterate 4 refine RunL.val (Val.pure rfl) rfl rfl rfl ?_
    exact RunL.segEnd (Sub.cons rfl (Sub.skip rfl (Sub.skip rfl (Sub.skip rfl (Sub.skip rfl (Sub.same rfl (by rw [g10]) (Sub.refl _))))))) (List.Sublist.refl _)
  ) (fun g10 => by
    have g10' := g10
    try simp only [decide_eq_true_eq, decide_eq_false_iff_not, Bool.not_eq_true', Bool.not_eq_false', Bool.and_eq_true, Bool.or_eq_true, Bool.and_eq_false_iff, Bool.or_eq_false_iff, Int.not_le, Int.not_lt] at g10'
    iterate 3 refine RunL.no rfl rfl rfl ?_
    refine RunL.val (Val.pure rfl) rfl rfl rfl ?_
    exact RunL.segEnd (Sub.cons rfl (Sub.skip rfl (Sub.skip rfl (Sub.skip rfl (Sub.skip rfl (Sub.same rfl (by rw [g10]) (Sub.refl _))))))) (List.Sublist.refl _)
  ) ?_
  refine RunL.val (Val.pure rfl) rfl rfl rfl ?_
  refine RunL.nil ?_
  refine RunE.next ?_
  refine RunC.ret ?_
  exact RunE.retP (.r1 rfl (.tmp rfl)) (by first | rfl | simp)
theorem rspan_calls (s : Sp) (lo hi : Int) (W : World) : Calls Try.prog 84 #[.agg #[.int .i64 s.lo, .int .i64 s.hi], .int .i64 lo, .int .i64 hi] W (Pure (.bool (isSpan s lo hi)) W) := by
  refine calls_start Try.func84 rfl rfl ?_
  refine RunC.seq ?_
  refine RunC.region ?_
  refine RunL.new (New.box rfl) rfl rfl rfl (fun b3 => ?_)
  refine RunL.val (Val.pure rfl) rfl rfl rfl ?_
  refine RunL.nil ?_
  refine RunE.next ?_
  refine RunC.seq ?_
  refine RunC.region ?_
  refine RunL.val (Val.pure rfl) rfl rfl rfl ?_
  refine RunL.val (Val.fieldAddr rfl fld_23_0) rfl rfl rfl ?_
  refine RunL.val (Val.load_one rfl (.head _) ty_3 rfl) rfl rfl rfl ?_
  refine RunL.val (Val.pure rfl) rfl rfl rfl ?_
  refine RunL.val (Val.pure rfl) rfl rfl rfl ?_
  refine RunL.andPart (dj := 11) (dp := 17) 6 rfl (fun g11 => by
    have g11' := g11
    try simp only [decide_eq_true_eq, decide_eq_false_iff_not, Bool.not_eq_true', Bool.not_eq_false', Bool.and_eq_true, Bool.or_eq_true, Bool.and_eq_false_iff, Bool.or_eq_false_iff, Int.not_le, Int.not_lt] at g11'
    refine RunL.val (Val.fieldAddr rfl fld_23_0) rfl rfl rfl ?_
    refine RunL.val (Val.load_one rfl (.head _) ty_3 rfl) rfl rfl rfl ?_
    refine RunL.val (Val.fieldAddr rfl fld_23_1) rfl rfl rfl ?_
    refine RunL.val (Val.load_one rfl (.head _) ty_3 rfl) rfl rfl rfl ?_
    refine RunL.val (Val.pure rfl) rfl rfl rfl ?_
    refine RunL.val (Val.pure rfl) rfl rfl rfl ?_
    exact RunL.segEnd (Sub.cons rfl (Sub.skip rfl (Sub.skip rfl (Sub.skip rfl (Sub.skip rfl (Sub.skip rfl (Sub.skip rfl (Sub.same rfl (by rw [g11]) (Sub.refl _))))))))) (List.Sublist.refl _)
  ) (fun g11 => by
    have g11' := g11
    try simp only [decide_eq_true_eq, decide_eq_false_iff_not, Bool.not_eq_true', Bool.not_eq_false', Bool.and_eq_true, Bool.or_eq_true, Bool.and_eq_false_iff, Bool.or_eq_false_iff, Int.not_le, Int.not_lt] at g11'
    iterate 5 refine RunL.no rfl rfl rfl ?_
    refine RunL.val (Val.pure rfl) rfl rfl rfl ?_
    exact RunL.segEnd (Sub.cons rfl (Sub.skip rfl (Sub.skip rfl (Sub.skip rfl (Sub.skip rfl (Sub.skip rfl (Sub.skip rfl (Sub.same rfl (by rw [g11]) (Sub.refl _))))))))) (List.Sublist.refl _)
  ) ?_
  refine RunL.val (Val.pure rfl) rfl rfl rfl ?_
  refine RunL.andPart (dj := 18) (dp := 23) 5 rfl (fun g18 => by
    have g18' := g18
    try simp only [decide_eq_true_eq, decide_eq_false_iff_not, Bool.not_eq_true', Bool.not_eq_false', Bool.and_eq_true, Bool.or_eq_true, Bool.and_eq_false_iff, Bool.or_eq_false_iff, Int.not_le, Int.not_lt] at g18'
    refine RunL.val (Val.fieldAddr rfl fld_23_1) rfl rfl rfl ?_
    refine RunL.val (Val.load_one rfl (.head _) ty_3 rfl) rfl rfl rfl ?_
    iterate 3 refine RunL.val (Val.pure rfl) rfl rfl rfl ?_
    exact RunL.segEnd (Sub.cons rfl (Sub.skip rfl (Sub.skip rfl (Sub.skip rfl (Sub.skip rfl (Sub.skip rfl (Sub.same rfl (by rw [g18]) (Sub.refl _)))))))) (List.Sublist.refl _)
  ) (fun g18 => by
    have g18' := g18
    try simp only [decide_eq_true_eq, decide_eq_false_iff_not, Bool.not_eq_true', Bool.not_eq_false', Bool.and_eq_true, Bool.or_eq_true, Bool.and_eq_false_iff, Bool.or_eq_false_iff, Int.not_le, Int.not_lt] at g18'
    iterate 4 refine RunL.no rfl rfl rfl ?_
    refine RunL.val (Val.pure rfl) rfl rfl rfl ?_
    exact RunL.segEnd (Sub.cons rfl (Sub.skip rfl (Sub.skip rfl (Sub.skip rfl (Sub.skip rfl (Sub.skip rfl (Sub.same rfl (by rw [g18]) (Sub.refl _)))))))) (List.Sublist.refl _)
  ) ?_
  refine RunL.val (Val.pure rfl) rfl rfl rfl ?_
  refine RunL.nil ?_
  refine RunE.next ?_
  refine RunC.ret ?_
  exact RunE.retP (.r1 rfl (.tmp rfl)) (by first | rfl | simp)
theorem rplace_calls (x y : Sp) (W : World) : Calls Try.prog 82 #[.agg #[.int .i64 x.lo, .int .i64 x.hi, .int .i64 y.lo, .int .i64 y.hi]] W (Pure (.bool (isPlace x y)) W) := by
  refine calls_start Try.func82 rfl rfl ?_
  refine RunC.seq ?_
  refine RunC.region ?_
  refine RunL.new (New.box rfl) rfl rfl rfl (fun b1 => ?_)
  refine RunL.val (Val.pure rfl) rfl rfl rfl ?_
  refine RunL.nil ?_
  refine RunE.next ?_
  refine RunC.seq ?_
  refine RunC.region ?_
  refine RunL.val (Val.fieldAddr rfl fld_52_0) rfl rfl rfl ?_
  refine RunL.val (Val.load_agg rfl (.head _) ty_23 rfl) rfl rfl rfl ?_
  refine RunL.callP (isCall_func rfl ent_84) rfl rfl rfl (fun w hm => rspan_calls ⟨_, _⟩ _ _ w) ?_
  refine RunL.val (Val.pure rfl) rfl rfl rfl ?_
  refine RunL.andPart (dj := 6) (dp := 10) 4 rfl (fun g6 => by
    have g6' := g6
    try simp only [decide_eq_true_eq, decide_eq_false_iff_not, Bool.not_eq_true', Bool.not_eq_false', Bool.and_eq_true, Bool.or_eq_true, Bool.and_eq_false_iff, Bool.or_eq_false_iff, Int.not_le, Int.not_lt] at g6'
    refine RunL.val (Val.fieldAddr rfl fld_52_1) rfl rfl rfl ?_
    refine RunL.val (Val.load_agg rfl (.head _) ty_23 rfl) rfl rfl rfl ?_
    refine RunL.callP (isCall_func rfl ent_84) rfl rfl rfl (fun w hm => rspan_calls ⟨_, _⟩ _ _ w) ?_
    refine RunL.val (Val.pure rfl) rfl rfl rfl ?_
    exact RunL.segEnd (Sub.cons rfl (Sub.skip rfl (Sub.skip rfl (Sub.skip rfl (Sub.skip rfl (Sub.same rfl (by rw [g6]) (Sub.refl _))))))) (List.Sublist.refl _)
  ) (fun g6 => by
    have g6' := g6
    try simp only [decide_eq_true_eq, decide_eq_false_iff_not, Bool.not_eq_true', Bool.not_eq_false', Bool.and_eq_true, Bool.or_eq_true, Bool.and_eq_false_iff, Bool.or_eq_false_iff, Int.not_le, Int.not_lt] at g6'
    iterate 3 refine RunL.no rfl rfl rfl ?_
    refine RunL.val (Val.pure rfl) rfl rfl rfl ?_
    exact RunL.segEnd (Sub.cons rfl (Sub.skip rfl (Sub.skip rfl (Sub.skip rfl (Sub.skip rfl (Sub.same rfl (by rw [g6]) (Sub.refl _))))))) (List.Sublist.refl _)
  ) ?_
  refine RunL.val (Val.pure rfl) rfl rfl rfl ?_
  refine RunL.nil ?_
  refine RunE.next ?_
  refine RunC.ret ?_
  exact RunE.retP (.r1 rfl (.tmp rfl)) (by first | rfl | simp)
theorem rPair_calls (p : Pr) (q : Option Addr) (b o cap : Nat) (W : World) (hS : Sl W q b o 9 (p.things.map Th.cells)) (hl : p.things.length ≤ 100000000000) :
    Calls Try.prog 60 #[p.v q cap] W (Pure (.bool (isPair p)) W) := by
  refine calls_start Try.func60 rfl rfl ?_
  refine RunC.seq ?_
  refine RunC.region ?_
  refine RunL.new (New.box rfl) rfl rfl rfl (fun b1 => ?_)
  refine RunL.val (Val.pure rfl) rfl rfl rfl ?_
  refine RunL.nil ?_
  refine RunE.next ?_
  refine RunC.seq ?_
  refine RunC.seq ?_
  refine RunC.region ?_
  refine RunL.val (Val.pure rfl) rfl rfl rfl ?_
  refine RunL.nil ?_
  refine RunE.next ?_
  refine RunC.block ?_
  refine RunC.loopK (p.things.length) (fun k q => (3, .int .i64 (k : Int)) :: q) (fun _ => _) (fun _ => []) (fun k => (p.things.take k).any (bad p) = false) (by simp) rfl (Sub.consE (t := 3) rfl rfl (Sub.cons (t := 1) rfl (Sub.nil _))) (.cons .here rfl .nil) ?_
  intro k kN kI
  refine RunC.seq ?_
  refine RunC.seq ?_
  refine RunC.region ?_
  refine RunL.val (Val.pure rfl) rfl rfl rfl ?_
  refine RunL.val (Val.fieldAddr rfl fld_26_5) rfl rfl rfl ?_
  refine RunL.val (Val.load_one rfl (.head _) ty_24 rfl) rfl rfl rfl ?_
  refine RunL.val (Val.len_sl rfl sl_24) rfl rfl rfl ?_
  refine RunL.val (Val.pure rfl) rfl rfl rfl ?_
  refine RunL.nil ?_
  refine RunE.next ?_
  refine RunC.cond rfl ?_ ?_
  · intro c0
    have c0' := c0; clear c0
    try simp only [decide_eq_true_eq, decide_eq_false_iff_not, Bool.not_eq_true', Bool.not_eq_false', Bool.and_eq_true, Bool.or_eq_true, Bool.and_eq_false_iff, Bool.or_eq_false_iff, Int.not_le, Int.not_lt] at c0'
    have hk : k < p.things.length := by omega
    obtain ⟨t, ht⟩ : ∃ t, p.things[k] = t := ⟨_, rfl⟩
    refine RunC.skip ?_
    refine RunE.next ?_
    refine RunC.seq ?_
    refine RunC.block ?_
    refine RunC.seq ?_
    refine RunC.region ?_
    refine RunL.val (Val.fieldAddr rfl fld_26_5) rfl rfl rfl ?_
    refine RunL.val (Val.load_one rfl (.head _) ty_24 rfl) rfl rfl rfl ?_
    refine RunL.val (Val.pure rfl) rfl rfl rfl ?_
    refine RunL.val (Val.indexAddr_slp rfl rfl sl_24 (by omega) (by omega) (hS.ptrM hk)) rfl rfl rfl ?_
    refine RunL.val (Val.load_gen rfl (fun w hm => hS.loadX (by decide) hm (by simp) ty_54 hk ht)) rfl rfl rfl ?_
    refine RunL.new (New.alloc zero_54) rfl rfl rfl (fun b4 => ?_)
    refine RunL.sto (Sto.store rfl rfl .here ty_54 rfl rfl) rfl rfl ?_
    refine RunL.nil ?_
    refine RunE.next ?_
    refine RunC.seq ?_
    refine RunC.region ?_
    refine RunL.val (Val.fieldAddr rfl fld_54_0) rfl rfl rfl ?_
    refine RunL.val (Val.load_agg rfl (.head _) ty_52 rfl) rfl rfl rfl ?_
    refine RunL.callP (isCall_func rfl ent_82) rfl rfl rfl (fun w hm => rplace_calls ⟨_, _⟩ ⟨_, _⟩ w) ?_
    refine RunL.val (Val.pure rfl) rfl rfl rfl ?_
    refine RunL.val (Val.pure rfl) rfl rfl rfl ?_
    refine RunL.orPart (dj := 21) (dp := 26) 5 rfl (fun g21 => by
      have g21' := g21
      try simp only [decide_eq_true_eq, decide_eq_false_iff_not, Bool.not_eq_true', Bool.not_eq_false', Bool.and_eq_true, Bool.or_eq_true, Bool.and_eq_false_iff, Bool.or_eq_false_iff, Int.not_le, Int.not_lt] at g21'
      refine RunL.val (Val.fieldAddr rfl fld_54_1) rfl rfl rfl ?_
      refine RunL.val (Val.load_agg rfl (.head _) ty_52 rfl) rfl rfl rfl ?_
      refine RunL.callP (isCall_func rfl ent_82) rfl rfl rfl (fun w hm => rplace_calls ⟨_, _⟩ ⟨_, _⟩ w) ?_
      refine RunL.val (Val.pure rfl) rfl rfl rfl ?_
      refine RunL.val (Val.pure rfl) rfl rfl rfl ?_
      exact RunL.segEnd (Sub.cons rfl (Sub.skip rfl (Sub.skip rfl (Sub.skip rfl (Sub.skip rfl (Sub.skip rfl (Sub.same rfl (by rw [g21]) (Sub.refl _)))))))) (List.Sublist.refl _)
    ) (fun g21 => by
      have g21' := g21
      try simp only [decide_eq_true_eq, decide_eq_false_iff_not, Bool.not_eq_true', Bool.not_eq_false', Bool.and_eq_true, Bool.or_eq_true, Bool.and_eq_false_iff, Bool.or_eq_false_iff, Int.not_le, Int.not_lt] at g21'
      iterate 4 refine RunL.no rfl rfl rfl ?_
      refine RunL.val (Val.pure rfl) rfl rfl rfl ?_
      exact RunL.segEnd (Sub.cons rfl (Sub.skip rfl (Sub.skip rfl (Sub.skip rfl (Sub.skip rfl (Sub.skip rfl (Sub.same rfl (by rw [g21]) (Sub.refl _)))))))) (List.Sublist.refl _)
    ) ?_
    refine RunL.val (Val.pure rfl) rfl rfl rfl ?_
    refine RunL.orPart (dj := 27) (dp := 41) 14 rfl (fun g27 => by
      have g27' := g27
      try simp only [decide_eq_true_eq, decide_eq_false_iff_not, Bool.not_eq_true', Bool.not_eq_false', Bool.and_eq_true, Bool.or_eq_true, Bool.and_eq_false_iff, Bool.or_eq_false_iff, Int.not_le, Int.not_lt] at g27'
      refine RunL.val (Val.fieldAddr rfl fld_54_2) rfl rfl rfl ?_
      refine RunL.val (Val.load_one rfl (.head _) ty_3 rfl) rfl rfl rfl ?_
      refine RunL.val (Val.pure rfl) rfl rfl rfl ?_
      refine RunL.val (Val.pure rfl) rfl rfl rfl ?_
      refine RunL.andPart (dj := 31) (dp := 40) 9 rfl (fun g31 => by
        have g31' := g31
        try simp only [decide_eq_true_eq, decide_eq_false_iff_not, Bool.not_eq_true', Bool.not_eq_false', Bool.and_eq_true, Bool.or_eq_true, Bool.and_eq_false_iff, Bool.or_eq_false_iff, Int.not_le, Int.not_lt] at g31'
        refine RunL.val (Val.fieldAddr rfl fld_54_2) rfl rfl rfl ?_
        refine RunL.val (Val.load_one rfl (.head _) ty_3 rfl) rfl rfl rfl ?_
        refine RunL.val (Val.fieldAddr rfl fld_26_3) rfl rfl rfl ?_
        refine RunL.val (Val.load_one rfl (.tail _ (.head _)) ty_3 rfl) rfl rfl rfl ?_
        refine RunL.val (Val.fieldAddr rfl fld_26_4) rfl rfl rfl ?_
        refine RunL.val (Val.load_one rfl (.tail _ (.head _)) ty_3 rfl) rfl rfl rfl ?_
        refine RunL.callP (isCall_func rfl ent_83) rfl rfl rfl (fun w hm => rin_calls _ _ _ w) ?_
        refine RunL.val (Val.pure rfl) rfl rfl rfl ?_
        refine RunL.val (Val.pure rfl) rfl rfl rfl ?_
        exact RunL.segEnd (Sub.cons rfl (Sub.skip rfl (Sub.skip rfl (Sub.skip rfl (Sub.skip rfl (Sub.skip rfl (Sub.skip rfl (Sub.skip rfl (Sub.skip rfl (Sub.skip rfl (Sub.same rfl (by rw [g31]) (Sub.refl _)))))))))))) (List.Sublist.refl _)
      ) (fun g31 => by
        have g31' := g31
        try simp only [decide_eq_true_eq, decide_eq_false_iff_not, Bool.not_eq_true', Bool.not_eq_false', Bool.and_eq_true, Bool.or_eq_true, Bool.and_eq_false_iff, Bool.or_eq_false_iff, Int.not_le, Int.not_lt] at g31'
        iterate 8 refine RunL.no rfl rfl rfl ?_
        refine RunL.val (Val.pure rfl) rfl rfl rfl ?_
        exact RunL.segEnd (Sub.cons rfl (Sub.skip rfl (Sub.skip rfl (Sub.skip rfl (Sub.skip rfl (Sub.skip rfl (Sub.skip rfl (Sub.skip rfl (Sub.skip rfl (Sub.skip rfl (Sub.same rfl (by rw [g31]) (Sub.refl _)))))))))))) (List.Sublist.refl _)
      ) ?_
      refine RunL.val (Val.pure rfl) rfl rfl rfl ?_
      exact RunL.segEnd (Sub.cons rfl (Sub.skip rfl (Sub.skip rfl (Sub.skip rfl (Sub.skip rfl (Sub.skip rfl (Sub.skip rfl (Sub.same rfl (by rw [g27]) (Sub.refl _))))))))) (List.Sublist.refl _)
    ) (fun g27 => by
      have g27' := g27
      try simp only [decide_eq_true_eq, decide_eq_false_iff_not, Bool.not_eq_true', Bool.not_eq_false', Bool.and_eq_true, Bool.or_eq_true, Bool.and_eq_false_iff, Bool.or_eq_false_iff, Int.not_le, Int.not_lt] at g27'
      iterate 13 refine RunL.no rfl rfl rfl ?_
      refine RunL.val (Val.pure rfl) rfl rfl rfl ?_
      exact RunL.segEnd (Sub.cons rfl (Sub.skip rfl (Sub.skip rfl (Sub.skip rfl (Sub.skip rfl (Sub.skip rfl (Sub.skip rfl (Sub.skip rfl (Sub.skip rfl (Sub.skip rfl (Sub.skip rfl (Sub.skip rfl (Sub.skip rfl (Sub.skip rfl (Sub.skip rfl (Sub.same rfl (by rw [g27]) (Sub.refl _))))))))))))))))) (List.Sublist.refl _)
    ) ?_
    refine RunL.nil ?_
    refine RunE.next ?_
    refine RunC.cond rfl ?_ ?_
    · intro c1
      have c1' := c1; clear c1
      try simp only [decide_eq_true_eq, decide_eq_false_iff_not, Bool.not_eq_true', Bool.not_eq_false', Bool.and_eq_true, Bool.or_eq_true, Bool.and_eq_false_iff, Bool.or_eq_false_iff, Int.not_le, Int.not_lt] at c1'
      refine RunC.seq ?_
      refine RunC.region ?_
      refine RunL.val (Val.pure rfl) rfl rfl rfl ?_
      refine RunL.nil ?_
      refine RunE.next ?_
      refine RunC.ret ?_
      refine RunE.block_ret ?_
      refine RunE.pass_ret ?_
      refine RunE.pass_ret ?_
      refine RunE.block_ret ?_
      refine RunE.pass_ret ?_
      exact RunE.retP (.r1 rfl (.tmp rfl)) (by have h := any_hit (f := bad p) hk (by rw [ht]; simpa [bad] using c1'); simp [isPair, h])
    · intro c1
      have c1' := c1; clear c1
      try simp only [decide_eq_true_eq, decide_eq_false_iff_not, Bool.not_eq_true', Bool.not_eq_false', Bool.and_eq_true, Bool.or_eq_true, Bool.and_eq_false_iff, Bool.or_eq_false_iff, Int.not_le, Int.not_lt] at c1'
      refine RunC.skip ?_
      refine RunE.block_normal ?_
      refine RunE.next ?_
      refine RunC.region ?_
      refine RunL.val (Val.pure rfl) rfl rfl rfl ?_
      refine RunL.val (Val.add rfl rfl (IntWalk.i64_in _ ⟨by omega, by omega⟩)) rfl rfl rfl ?_
      refine RunL.val (Val.pure rfl) rfl rfl rfl ?_
      refine RunL.nil ?_
      exact RunE.round (by omega) (any_snoc hk kI (by rw [ht]; obtain ⟨⟨h1, h2⟩, h3⟩ := c1'; simp only [bad, Bool.or_eq_false_iff, Bool.not_eq_false', Bool.and_eq_false_iff, decide_eq_true_eq]; exact ⟨⟨h1, h2⟩, h3⟩)) rfl (Sub.consE (t := 3) rfl rfl (Sub.cons (t := 1) rfl (Sub.nil _))) (.cons (.there .here) rfl .nil)
  · intro c0
    have c0' := c0; clear c0
    try simp only [decide_eq_true_eq, decide_eq_false_iff_not, Bool.not_eq_true', Bool.not_eq_false', Bool.and_eq_true, Bool.or_eq_true, Bool.and_eq_false_iff, Bool.or_eq_false_iff, Int.not_le, Int.not_lt] at c0'
    obtain rfl : k = p.things.length := by omega
    rw [List.take_length] at kI
    refine RunC.exit ?_
    refine RunE.pass_exit ?_
    refine RunE.pass_exit ?_
    refine RunE.block_here ?_
    refine RunE.next ?_
    refine RunC.seq ?_
    refine RunC.region ?_
    refine RunL.val (Val.fieldAddr rfl fld_26_5) rfl rfl rfl ?_
    refine RunL.val (Val.load_one rfl (.head _) ty_24 rfl) rfl rfl rfl ?_
    refine RunL.val (Val.len_sl rfl sl_24) rfl rfl rfl ?_
    refine RunL.val (Val.pure rfl) rfl rfl rfl ?_
    refine RunL.val (Val.pure rfl) rfl rfl rfl ?_
    refine RunL.andPart (dj := 46) (dp := 50) 4 rfl (fun g46 => by
      have g46' := g46
      try simp only [decide_eq_true_eq, decide_eq_false_iff_not, Bool.not_eq_true', Bool.not_eq_false', Bool.and_eq_true, Bool.or_eq_true, Bool.and_eq_false_iff, Bool.or_eq_false_iff, Int.not_le, Int.not_lt] at g46'
      refine RunL.val (Val.fieldAddr rfl fld_26_0) rfl rfl rfl ?_
      refine RunL.val (Val.load_agg rfl (.head _) ty_23 rfl) rfl rfl rfl ?_
      refine RunL.callP (isCall_func rfl ent_84) rfl rfl rfl (fun w hm => rspan_calls ⟨_, _⟩ _ _ w) ?_
      refine RunL.val (Val.pure rfl) rfl rfl rfl ?_
      exact RunL.segEnd (Sub.cons rfl (Sub.skip rfl (Sub.skip rfl (Sub.skip rfl (Sub.skip rfl (Sub.same rfl (by rw [g46]) (Sub.refl _))))))) (List.Sublist.refl _)
    ) (fun g46 => by
      have g46' := g46
      try simp only [decide_eq_true_eq, decide_eq_false_iff_not, Bool.not_eq_true', Bool.not_eq_false', Bool.and_eq_true, Bool.or_eq_true, Bool.and_eq_false_iff, Bool.or_eq_false_iff, Int.not_le, Int.not_lt] at g46'
      iterate 3 refine RunL.no rfl rfl rfl ?_
      refine RunL.val (Val.pure rfl) rfl rfl rfl ?_
      exact RunL.segEnd (Sub.cons rfl (Sub.skip rfl (Sub.skip rfl (Sub.skip rfl (Sub.skip rfl (Sub.same rfl (by rw [g46]) (Sub.refl _))))))) (List.Sublist.refl _)
    ) ?_
    refine RunL.val (Val.pure rfl) rfl rfl rfl ?_
    refine RunL.andPart (dj := 51) (dp := 55) 4 rfl (fun g51 => by
      have g51' := g51
      try simp only [decide_eq_true_eq, decide_eq_false_iff_not, Bool.not_eq_true', Bool.not_eq_false', Bool.and_eq_true, Bool.or_eq_true, Bool.and_eq_false_iff, Bool.or_eq_false_iff, Int.not_le, Int.not_lt] at g51'
      refine RunL.val (Val.fieldAddr rfl fld_26_1) rfl rfl rfl ?_
      refine RunL.val (Val.load_agg rfl (.head _) ty_23 rfl) rfl rfl rfl ?_
      refine RunL.callP (isCall_func rfl ent_84) rfl rfl rfl (fun w hm => rspan_calls ⟨_, _⟩ _ _ w) ?_
      refine RunL.val (Val.pure rfl) rfl rfl rfl ?_
      exact RunL.segEnd (Sub.cons rfl (Sub.skip rfl (Sub.skip rfl (Sub.skip rfl (Sub.skip rfl (Sub.same rfl (by rw [g51]) (Sub.refl _))))))) (List.Sublist.refl _)
    ) (fun g51 => by
      have g51' := g51
      try simp only [decide_eq_true_eq, decide_eq_false_iff_not, Bool.not_eq_true', Bool.not_eq_false', Bool.and_eq_true, Bool.or_eq_true, Bool.and_eq_false_iff, Bool.or_eq_false_iff, Int.not_le, Int.not_lt] at g51'
      iterate 3 refine RunL.no rfl rfl rfl ?_
      refine RunL.val (Val.pure rfl) rfl rfl rfl ?_
      exact RunL.segEnd (Sub.cons rfl (Sub.skip rfl (Sub.skip rfl (Sub.skip rfl (Sub.skip rfl (Sub.same rfl (by rw [g51]) (Sub.refl _))))))) (List.Sublist.refl _)
    ) ?_
    refine RunL.val (Val.pure rfl) rfl rfl rfl ?_
    refine RunL.andPart (dj := 56) (dp := 60) 4 rfl (fun g56 => by
      have g56' := g56
      try simp only [decide_eq_true_eq, decide_eq_false_iff_not, Bool.not_eq_true', Bool.not_eq_false', Bool.and_eq_true, Bool.or_eq_true, Bool.and_eq_false_iff, Bool.or_eq_false_iff, Int.not_le, Int.not_lt] at g56'
      refine RunL.val (Val.fieldAddr rfl fld_26_2) rfl rfl rfl ?_
      refine RunL.val (Val.load_one rfl (.head _) ty_3 rfl) rfl rfl rfl ?_
      refine RunL.callP (isCall_func rfl ent_83) rfl rfl rfl (fun w hm => rin_calls _ _ _ w) ?_
      refine RunL.val (Val.pure rfl) rfl rfl rfl ?_
      exact RunL.segEnd (Sub.cons rfl (Sub.skip rfl (Sub.skip rfl (Sub.skip rfl (Sub.skip rfl (Sub.same rfl (by rw [g56]) (Sub.refl _))))))) (List.Sublist.refl _)
    ) (fun g56 => by
      have g56' := g56
      try simp only [decide_eq_true_eq, decide_eq_false_iff_not, Bool.not_eq_true', Bool.not_eq_false', Bool.and_eq_true, Bool.or_eq_true, Bool.and_eq_false_iff, Bool.or_eq_false_iff, Int.not_le, Int.not_lt] at g56'
      iterate 3 refine RunL.no rfl rfl rfl ?_
      refine RunL.val (Val.pure rfl) rfl rfl rfl ?_
      exact RunL.segEnd (Sub.cons rfl (Sub.skip rfl (Sub.skip rfl (Sub.skip rfl (Sub.skip rfl (Sub.same rfl (by rw [g56]) (Sub.refl _))))))) (List.Sublist.refl _)
    ) ?_
    refine RunL.val (Val.pure rfl) rfl rfl rfl ?_
    refine RunL.andPart (dj := 61) (dp := 65) 4 rfl (fun g61 => by
      have g61' := g61
      try simp only [decide_eq_true_eq, decide_eq_false_iff_not, Bool.not_eq_true', Bool.not_eq_false', Bool.and_eq_true, Bool.or_eq_true, Bool.and_eq_false_iff, Bool.or_eq_false_iff, Int.not_le, Int.not_lt] at g61'
      refine RunL.val (Val.fieldAddr rfl fld_26_3) rfl rfl rfl ?_
      refine RunL.val (Val.load_one rfl (.head _) ty_3 rfl) rfl rfl rfl ?_
      refine RunL.callP (isCall_func rfl ent_83) rfl rfl rfl (fun w hm => rin_calls _ _ _ w) ?_
      refine RunL.val (Val.pure rfl) rfl rfl rfl ?_
      exact RunL.segEnd (Sub.cons rfl (Sub.skip rfl (Sub.skip rfl (Sub.skip rfl (Sub.skip rfl (Sub.same rfl (by rw [g61]) (Sub.refl _))))))) (List.Sublist.refl _)
    ) (fun g61 => by
      have g61' := g61
      try simp only [decide_eq_true_eq, decide_eq_false_iff_not, Bool.not_eq_true', Bool.not_eq_false', Bool.and_eq_true, Bool.or_eq_true, Bool.and_eq_false_iff, Bool.or_eq_false_iff, Int.not_le, Int.not_lt] at g61'
      iterate 3 refine RunL.no rfl rfl rfl ?_
      refine RunL.val (Val.pure rfl) rfl rfl rfl ?_
      exact RunL.segEnd (Sub.cons rfl (Sub.skip rfl (Sub.skip rfl (Sub.skip rfl (Sub.skip rfl (Sub.same rfl (by rw [g61]) (Sub.refl _))))))) (List.Sublist.refl _)
    ) ?_
    refine RunL.val (Val.pure rfl) rfl rfl rfl ?_
    refine RunL.andPart (dj := 66) (dp := 72) 6 rfl (fun g66 => by
      have g66' := g66
      try simp only [decide_eq_true_eq, decide_eq_false_iff_not, Bool.not_eq_true', Bool.not_eq_false', Bool.and_eq_true, Bool.or_eq_true, Bool.and_eq_false_iff, Bool.or_eq_false_iff, Int.not_le, Int.not_lt] at g66'
      refine RunL.val (Val.fieldAddr rfl fld_26_4) rfl rfl rfl ?_
      refine RunL.val (Val.load_one rfl (.head _) ty_3 rfl) rfl rfl rfl ?_
      refine RunL.val (Val.fieldAddr rfl fld_26_3) rfl rfl rfl ?_
      refine RunL.val (Val.load_one rfl (.head _) ty_3 rfl) rfl rfl rfl ?_
      refine RunL.callP (isCall_func rfl ent_83) rfl rfl rfl (fun w hm => rin_calls _ _ _ w) ?_
      refine RunL.val (Val.pure rfl) rfl rfl rfl ?_
      exact RunL.segEnd (Sub.cons rfl (Sub.skip rfl (Sub.skip rfl (Sub.skip rfl (Sub.skip rfl (Sub.skip rfl (Sub.skip rfl (Sub.same rfl (by rw [g66]) (Sub.refl _))))))))) (List.Sublist.refl _)
    ) (fun g66 => by
      have g66' := g66
      try simp only [decide_eq_true_eq, decide_eq_false_iff_not, Bool.not_eq_true', Bool.not_eq_false', Bool.and_eq_true, Bool.or_eq_true, Bool.and_eq_false_iff, Bool.or_eq_false_iff, Int.not_le, Int.not_lt] at g66'
      iterate 5 refine RunL.no rfl rfl rfl ?_
      refine RunL.val (Val.pure rfl) rfl rfl rfl ?_
      exact RunL.segEnd (Sub.cons rfl (Sub.skip rfl (Sub.skip rfl (Sub.skip rfl (Sub.skip rfl (Sub.skip rfl (Sub.skip rfl (Sub.same rfl (by rw [g66]) (Sub.refl _))))))))) (List.Sublist.refl _)
    ) ?_
    refine RunL.val (Val.pure rfl) rfl rfl rfl ?_
    refine RunL.nil ?_
    refine RunE.next ?_
    refine RunC.ret ?_
    exact RunE.retP (.r1 rfl (.tmp rfl)) (by simp only [isPair, kI, Bool.not_false, Bool.and_true]; congr 1; cases isSpan p.focal 1 50000 <;> cases isSpan p.base 1 10000 <;> cases within p.tilt 0 1000 <;> cases within p.near 2000 1073741824 <;> cases within p.far p.near 1073741824 <;> simp)
theorem rOf_calls (t : Th) (ht : t.Ok) (W : World) : Calls Try.prog 101 #[t.v] W (Pure (b2v (shift t)) W) := by
  obtain ⟨⟨h1, h2, h3⟩, ⟨h4, h5, h6⟩, ⟨h7, h8, h9⟩, ⟨h10, h11, h12⟩⟩ := ht
  refine calls_start Try.func101 rfl rfl ?_
  refine RunC.seq ?_
  refine RunC.region ?_
  refine RunL.new (New.box rfl) rfl rfl rfl (fun b1 => ?_)
  refine RunL.new (New.alloc zero_23) rfl rfl rfl (fun b2 => ?_)
  refine RunL.nil ?_
  refine RunE.next ?_
  refine RunC.seq ?_
  refine RunC.region ?_
  refine RunL.val (Val.fieldAddr rfl fld_54_0) rfl rfl rfl ?_
  refine RunL.val (Val.fieldAddr rfl fld_52_0) rfl rfl rfl ?_
  refine RunL.val (Val.fieldAddr rfl fld_23_0) rfl rfl rfl ?_
  refine RunL.val (Val.load_one rfl (.tail _ (.head _)) ty_3 rfl) rfl rfl rfl ?_
  refine RunL.val (Val.fieldAddr rfl fld_54_1) rfl rfl rfl ?_
  refine RunL.val (Val.fieldAddr rfl fld_52_0) rfl rfl rfl ?_
  refine RunL.val (Val.fieldAddr rfl fld_23_1) rfl rfl rfl ?_
  refine RunL.val (Val.load_one rfl (.tail _ (.head _)) ty_3 rfl) rfl rfl rfl ?_
  refine RunL.val (Val.sub' rfl rfl (IntWalk.i64_in _ ⟨by omega, by omega⟩)) rfl rfl rfl ?_
  refine RunL.val (Val.fieldAddr rfl fld_54_0) rfl rfl rfl ?_
  refine RunL.val (Val.fieldAddr rfl fld_52_0) rfl rfl rfl ?_
  refine RunL.val (Val.fieldAddr rfl fld_23_1) rfl rfl rfl ?_
  refine RunL.val (Val.load_one rfl (.tail _ (.head _)) ty_3 rfl) rfl rfl rfl ?_
  refine RunL.val (Val.fieldAddr rfl fld_54_1) rfl rfl rfl ?_
  refine RunL.val (Val.fieldAddr rfl fld_52_0) rfl rfl rfl ?_
  refine RunL.val (Val.fieldAddr rfl fld_23_0) rfl rfl rfl ?_
  refine RunL.val (Val.load_one rfl (.tail _ (.head _)) ty_3 rfl) rfl rfl rfl ?_
  refine RunL.val (Val.sub' rfl rfl (IntWalk.i64_in _ ⟨by omega, by omega⟩)) rfl rfl rfl ?_
  refine RunL.val (Val.build (parts := [(0, .tmp 11), (1, .tmp 20)]) rfl zero_23 places_23 rfl) rfl rfl rfl ?_
  refine RunL.sto (Sto.store rfl rfl .here ty_23 rfl rfl) rfl rfl ?_
  refine RunL.nil ?_
  refine RunE.next ?_
  refine RunC.ret ?_
  exact RunE.retP (.r1 rfl (.agg rfl (.head _) ty_23 rfl)) (by first | rfl | simp)
theorem rcommon_calls (x y : Int × Int) (W : World) : Calls Try.prog 99 #[.agg #[.int .i64 x.1, .int .i64 x.2], .agg #[.int .i64 y.1, .int .i64 y.2]] W (Pure (b2v (nar x y)) W) := by
  refine calls_start Try.func99 rfl rfl ?_
  refine RunC.seq ?_
  refine RunC.region ?_
  refine RunL.new (New.box rfl) rfl rfl rfl (fun b2 => ?_)
  refine RunL.new (New.box rfl) rfl rfl rfl (fun b3 => ?_)
  refine RunL.new (New.alloc zero_23) rfl rfl rfl (fun b4 => ?_)
  refine RunL.nil ?_
  refine RunE.next ?_
  refine RunC.seq ?_
  refine RunC.region ?_
  refine RunL.val (Val.fieldAddr rfl fld_23_0) rfl rfl rfl ?_
  refine RunL.val (Val.load_one rfl (.tail _ (.tail _ (.head _))) ty_3 rfl) rfl rfl rfl ?_
  refine RunL.val (Val.fieldAddr rfl fld_23_0) rfl rfl rfl ?_
  refine RunL.val (Val.load_one rfl (.tail _ (.head _)) ty_3 rfl) rfl rfl rfl ?_
  refine RunL.val (Val.max rfl rfl) rfl rfl rfl ?_
  refine RunL.val (Val.fieldAddr rfl fld_23_1) rfl rfl rfl ?_
  refine RunL.val (Val.load_one rfl (.tail _ (.tail _ (.head _))) ty_3 rfl) rfl rfl rfl ?_
  refine RunL.val (Val.fieldAddr rfl fld_23_1) rfl rfl rfl ?_
  refine RunL.val (Val.load_one rfl (.tail _ (.head _)) ty_3 rfl) rfl rfl rfl ?_
  refine RunL.val (Val.min rfl rfl) rfl rfl rfl ?_
  refine RunL.val (Val.build (parts := [(0, .tmp 9), (1, .tmp 14)]) rfl zero_23 places_23 rfl) rfl rfl rfl ?_
  refine RunL.sto (Sto.store rfl rfl .here ty_23 rfl rfl) rfl rfl ?_
  refine RunL.nil ?_
  refine RunE.next ?_
  refine RunC.ret ?_
  exact RunE.retP (.r1 rfl (.agg rfl (.head _) ty_23 rfl)) (by first | rfl | simp)
theorem rEmpty_calls (x : Int × Int) (W : World) : Calls Try.prog 98 #[.agg #[.int .i64 x.1, .int .i64 x.2]] W (Pure (.bool (!isB x)) W) := by
  refine calls_start Try.func98 rfl rfl ?_
  refine RunC.seq ?_
  refine RunC.region ?_
  refine RunL.new (New.box rfl) rfl rfl rfl (fun b1 => ?_)
  refine RunL.val (Val.pure rfl) rfl rfl rfl ?_
  refine RunL.nil ?_
  refine RunE.next ?_
  refine RunC.seq ?_
  refine RunC.region ?_
  refine RunL.val (Val.fieldAddr rfl fld_23_0) rfl rfl rfl ?_
  refine RunL.val (Val.load_one rfl (.head _) ty_3 rfl) rfl rfl rfl ?_
  refine RunL.val (Val.fieldAddr rfl fld_23_1) rfl rfl rfl ?_
  refine RunL.val (Val.load_one rfl (.head _) ty_3 rfl) rfl rfl rfl ?_
  refine RunL.val (Val.pure rfl) rfl rfl rfl ?_
  refine RunL.val (Val.pure rfl) rfl rfl rfl ?_
  refine RunL.nil ?_
  refine RunE.next ?_
  refine RunC.ret ?_
  exact RunE.retP (.r1 rfl (.tmp rfl)) (by simp only [isB, ← decide_not, Int.not_le])
theorem rnone_calls (W : World) : Calls Try.prog 108 #[] W (Pure (b2v (1, 0)) W) := by
  refine calls_start Try.func108 rfl rfl ?_
  refine RunC.seq ?_
  refine RunC.region ?_
  refine RunL.new (New.alloc zero_23) rfl rfl rfl (fun b0 => ?_)
  refine RunL.nil ?_
  refine RunE.next ?_
  refine RunC.seq ?_
  refine RunC.region ?_
  refine RunL.val (Val.build (parts := [(0, .const (.int .i64 1)), (1, .const (.int .i64 0))]) rfl zero_23 places_23 rfl) rfl rfl rfl ?_
  refine RunL.sto (Sto.store rfl rfl .here ty_23 rfl rfl) rfl rfl ?_
  refine RunL.nil ?_
  refine RunE.next ?_
  refine RunC.ret ?_
  exact RunE.retP (.r1 rfl (.agg rfl (.head _) ty_23 rfl)) (by first | rfl | simp)
theorem rlevel_calls (t : Th) (ht : t.Ok) (by_ : Int) (h0 : 0 ≤ by_) (h1' : by_ ≤ 1000) (W : World) : Calls Try.prog 107 #[t.v, .int .i64 by_] W (Pure (.bool (levelR t by_)) W) := by
  obtain ⟨⟨h1, h2, h3⟩, ⟨h4, h5, h6⟩, ⟨h7, h8, h9⟩, ⟨h10, h11, h12⟩⟩ := ht
  refine calls_start Try.func107 rfl rfl ?_
  refine RunC.seq ?_
  refine RunC.region ?_
  refine RunL.new (New.box rfl) rfl rfl rfl (fun b2 => ?_)
  refine RunL.val (Val.pure rfl) rfl rfl rfl ?_
  refine RunL.nil ?_
  refine RunE.next ?_
  refine RunC.seq ?_
  refine RunC.region ?_
  refine RunL.val (Val.fieldAddr rfl fld_54_0) rfl rfl rfl ?_
  refine RunL.val (Val.fieldAddr rfl fld_52_1) rfl rfl rfl ?_
  refine RunL.val (Val.fieldAddr rfl fld_23_0) rfl rfl rfl ?_
  refine RunL.val (Val.load_one rfl (.head _) ty_3 rfl) rfl rfl rfl ?_
  refine RunL.val (Val.fieldAddr rfl fld_54_1) rfl rfl rfl ?_
  refine RunL.val (Val.fieldAddr rfl fld_52_1) rfl rfl rfl ?_
  refine RunL.val (Val.fieldAddr rfl fld_23_1) rfl rfl rfl ?_
  refine RunL.val (Val.load_one rfl (.head _) ty_3 rfl) rfl rfl rfl ?_
  refine RunL.val (Val.pure rfl) rfl rfl rfl ?_
  refine RunL.val (Val.add rfl rfl (IntWalk.i64_in _ ⟨by omega, by omega⟩)) rfl rfl rfl ?_
  refine RunL.val (Val.pure rfl) rfl rfl rfl ?_
  refine RunL.val (Val.pure rfl) rfl rfl rfl ?_
  refine RunL.andPart (dj := 16) (dp := 28) 12 rfl (fun g16 => by
    have g16' := g16
    try simp only [decide_eq_true_eq, decide_eq_false_iff_not, Bool.not_eq_true', Bool.not_eq_false', Bool.and_eq_true, Bool.or_eq_true, Bool.and_eq_false_iff, Bool.or_eq_false_iff, Int.not_le, Int.not_lt] at g16'
    refine RunL.val (Val.fieldAddr rfl fld_54_1) rfl rfl rfl ?_
    refine RunL.val (Val.fieldAddr rfl fld_52_1) rfl rfl rfl ?_
    refine RunL.val (Val.fieldAddr rfl fld_23_0) rfl rfl rfl ?_
    refine RunL.val (Val.load_one rfl (.head _) ty_3 rfl) rfl rfl rfl ?_
    refine RunL.val (Val.fieldAddr rfl fld_54_0) rfl rfl rfl ?_
    refine RunL.val (Val.fieldAddr rfl fld_52_1) rfl rfl rfl ?_
    refine RunL.val (Val.fieldAddr rfl fld_23_1) rfl rfl rfl ?_
    refine RunL.val (Val.load_one rfl (.head _) ty_3 rfl) rfl rfl rfl ?_
    refine RunL.val (Val.pure rfl) rfl rfl rfl ?_
    refine RunL.val (Val.add rfl rfl (IntWalk.i64_in _ ⟨by omega, by omega⟩)) rfl rfl rfl ?_
    refine RunL.val (Val.pure rfl) rfl rfl rfl ?_
    refine RunL.val (Val.pure rfl) rfl rfl rfl ?_
    exact RunL.segEnd (Sub.cons rfl (Sub.skip rfl (Sub.skip rfl (Sub.skip rfl (Sub.skip rfl (Sub.skip rfl (Sub.skip rfl (Sub.skip rfl (Sub.skip rfl (Sub.skip rfl (Sub.skip rfl (Sub.skip rfl (Sub.skip rfl (Sub.same rfl (by rw [g16]) (Sub.refl _))))))))))))))) (List.Sublist.refl _)
  ) (fun g16 => by
    have g16' := g16
    try simp only [decide_eq_true_eq, decide_eq_false_iff_not, Bool.not_eq_true', Bool.not_eq_false', Bool.and_eq_true, Bool.or_eq_true, Bool.and_eq_false_iff, Bool.or_eq_false_iff, Int.not_le, Int.not_lt] at g16'
    iterate 11 refine RunL.no rfl rfl rfl ?_
    refine RunL.val (Val.pure rfl) rfl rfl rfl ?_
    exact RunL.segEnd (Sub.cons rfl (Sub.skip rfl (Sub.skip rfl (Sub.skip rfl (Sub.skip rfl (Sub.skip rfl (Sub.skip rfl (Sub.skip rfl (Sub.skip rfl (Sub.skip rfl (Sub.skip rfl (Sub.skip rfl (Sub.skip rfl (Sub.same rfl (by rw [g16]) (Sub.refl _))))))))))))))) (List.Sublist.refl _)
  ) ?_
  refine RunL.val (Val.pure rfl) rfl rfl rfl ?_
  refine RunL.nil ?_
  refine RunE.next ?_
  refine RunC.ret ?_
  exact RunE.retP (.r1 rfl (.tmp rfl)) (by first | rfl | simp)
theorem powersR_none {p : Pr} {t : Th} (h : levelS p t = false ∨ isB (shownS t) = false) : powersR p t = (1, 0) := by
  unfold powersR
  rw [if_neg]
  rw [Bool.and_eq_true]
  rintro ⟨h1, h2⟩
  rcases h with h | h
  · rw [h] at h2; cases h2
  · rw [h] at h1; cases h1
theorem rPowers_calls (p : Pr) (hp : p.Ok) (q : Option Addr) (cap : Nat) (t : Th) (ht : t.Ok) (hf : t.far = 0 ∨ (p.near ≤ t.far ∧ t.far ≤ p.far)) (W : World) :
    Calls Try.prog 100 #[p.v q cap, t.v] W (Pure (b2v (powersR p t)) W) := by
  have n1 := hp.n1
  have n2 := hp.n2
  have n3 := hp.n3
  have hlv := levelR_eq hp ht
  by_cases h0 : t.far = 0
  · refine calls_start Try.func100 rfl rfl ?_
    refine RunC.seq ?_
    refine RunC.region ?_
    refine RunL.new (New.box rfl) rfl rfl rfl (fun b2 => ?_)
    refine RunL.new (New.box rfl) rfl rfl rfl (fun b3 => ?_)
    refine RunL.new (New.alloc zero_23) rfl rfl rfl (fun b4 => ?_)
    refine RunL.nil ?_
    refine RunE.next ?_
    refine RunC.seq ?_
    refine RunC.draw 5 fol_ (.cons .here rfl (.cons .here rfl (.cons .here rfl .nil))) ?_
    refine RunA.val (i := 0) rfl (by kernel_rfl) (by kernel_rfl) (Val.fieldAddr rfl fld_26_3) rfl rfl rfl (fun _ _ _ h => h) (.cons .here rfl (.cons .here rfl (.cons .here rfl .nil))) rfl ?_
    refine RunA.val (i := 1) rfl (by kernel_rfl) (by kernel_rfl) (Val.load_one rfl (.tail _ (.tail _ (.head _))) ty_3 rfl) rfl rfl rfl (fun _ _ _ h => h) (.cons .here rfl (.cons .here rfl (.cons .here rfl .nil))) rfl ?_
    refine RunA.val (i := 2) rfl (by kernel_rfl) (by kernel_rfl) (Val.fieldAddr rfl fld_26_4) rfl rfl rfl (fun _ _ _ h => h) (.cons .here rfl (.cons .here rfl (.cons .here rfl .nil))) rfl ?_
    refine RunA.val (i := 3) rfl (by kernel_rfl) (by kernel_rfl) (Val.load_one rfl (.tail _ (.tail _ (.head _))) ty_3 rfl) rfl rfl rfl (fun _ _ _ h => h) (.cons .here rfl (.cons .here rfl (.cons .here rfl .nil))) rfl ?_
    refine RunA.val (i := 4) rfl (by kernel_rfl) (by kernel_rfl) (Val.pure rfl) rfl rfl rfl (fun _ _ _ h => h) (.cons .here rfl (.cons .here rfl (.cons .here rfl .nil))) rfl ?_
    refine RunA.toB (by kernel_rfl) ?_
    refine RunB.one (i := 5) (by kernel_rfl) ?_
    refine RunI.val rfl (Val.pure rfl) rfl rfl rfl (RunK.toB ?_)
    refine RunB.done (by kernel_rfl) ?_
    refine RunE.next ?_
    refine RunC.seq ?_
    refine RunC.seq ?_
    refine RunC.region ?_
    refine RunL.val (Val.fieldAddr rfl fld_54_2) rfl rfl rfl ?_
    refine RunL.val (Val.load_one rfl (.tail _ (.head _)) ty_3 rfl) rfl rfl rfl ?_
    refine RunL.val (Val.pure rfl) rfl rfl rfl ?_
    refine RunL.nil ?_
    refine RunE.next ?_
    refine RunC.cond rfl (fun h => absurd h (by simpa using h0)) ?_
    intro c0
    clear c0
    refine RunC.skip ?_
    refine RunE.next ?_
    refine RunC.seq ?_
    refine RunC.region ?_
    refine RunL.val (Val.load_agg rfl (.tail _ (.head _)) ty_54 rfl) rfl rfl rfl ?_
    refine RunL.callP (isCall_func rfl ent_101) rfl rfl rfl (fun w hm => rOf_calls t ht w) ?_
    refine RunL.val (Val.build (parts := [(0, .const (.int .i64 0)), (1, .const (.int .i64 2000))]) rfl zero_23 places_23 rfl) rfl rfl rfl ?_
    refine RunL.callP (isCall_func rfl ent_99) rfl rfl rfl (fun w hm => rcommon_calls (_, _) (_, _) w) ?_
    refine RunL.new (New.alloc zero_23) rfl rfl rfl (fun b7 => ?_)
    refine RunL.sto (Sto.store rfl rfl .here ty_23 rfl rfl) rfl rfl ?_
    refine RunL.nil ?_
    refine RunE.next ?_
    refine RunC.seq ?_
    refine RunC.seq ?_
    refine RunC.region ?_
    refine RunL.val (Val.load_agg rfl (.tail _ (.tail _ (.head _))) ty_54 rfl) rfl rfl rfl ?_
    refine RunL.val (Val.fieldAddr rfl fld_26_2) rfl rfl rfl ?_
    refine RunL.val (Val.load_one rfl (.tail _ (.tail _ (.tail _ (.head _)))) ty_3 rfl) rfl rfl rfl ?_
    refine RunL.callP (isCall_func rfl ent_107) rfl rfl rfl (fun w hm => rlevel_calls t ht p.tilt hp.t1 hp.t2 w) ?_
    refine RunL.val (Val.pure rfl) rfl rfl rfl ?_
    refine RunL.val (Val.pure rfl) rfl rfl rfl ?_
    refine RunL.orPart (dj := 28) (dp := 31) 3 rfl (fun g28 => by
      have g28' := g28
      try simp only [decide_eq_true_eq, decide_eq_false_iff_not, Bool.not_eq_true', Bool.not_eq_false', Bool.and_eq_true, Bool.or_eq_true, Bool.and_eq_false_iff, Bool.or_eq_false_iff, Int.not_le, Int.not_lt] at g28'
      refine RunL.val (Val.load_agg rfl (.head _) ty_23 rfl) rfl rfl rfl ?_
      refine RunL.callP (isCall_func rfl ent_98) rfl rfl rfl (fun w hm => rEmpty_calls (_, _) w) ?_
      refine RunL.val (Val.pure rfl) rfl rfl rfl ?_
      exact RunL.segEnd (Sub.cons rfl (Sub.skip rfl (Sub.skip rfl (Sub.skip rfl (Sub.same rfl (by rw [g28]) (Sub.refl _)))))) (List.Sublist.refl _)
    ) (fun g28 => by
      have g28' := g28
      try simp only [decide_eq_true_eq, decide_eq_false_iff_not, Bool.not_eq_true', Bool.not_eq_false', Bool.and_eq_true, Bool.or_eq_true, Bool.and_eq_false_iff, Bool.or_eq_false_iff, Int.not_le, Int.not_lt] at g28'
      refine RunL.no rfl rfl rfl ?_
      refine RunL.no rfl rfl rfl ?_
      refine RunL.val (Val.pure rfl) rfl rfl rfl ?_
      exact RunL.segEnd (Sub.cons rfl (Sub.skip rfl (Sub.skip rfl (Sub.skip rfl (Sub.same rfl (by rw [g28]) (Sub.refl _)))))) (List.Sublist.refl _)
    ) ?_
    refine RunL.nil ?_
    refine RunE.next ?_
    refine RunC.cond rfl ?_ ?_
    · intro c1
      have c1' := c1; clear c1
      try simp only [decide_eq_true_eq, decide_eq_false_iff_not, Bool.not_eq_true', Bool.not_eq_false', Bool.and_eq_true, Bool.or_eq_true, Bool.and_eq_false_iff, Bool.or_eq_false_iff, Int.not_le, Int.not_lt] at c1'
      rw [hlv] at c1'
      refine RunC.seq ?_
      refine RunC.region ?_
      refine RunL.callP (isCall_func rfl ent_108) rfl rfl rfl (fun w hm => rnone_calls w) ?_
      refine RunL.sto (Sto.store rfl rfl (.there .here) ty_23 rfl rfl) rfl rfl ?_
      refine RunL.nil ?_
      refine RunE.next ?_
      refine RunC.ret ?_
      refine RunE.pass_ret ?_
      exact RunE.retP (.r1 rfl (.agg rfl (.tail _ (.head _)) ty_23 rfl)) (by rw [powersR_none c1']; rfl)
    · intro c1
      have c1' := c1; clear c1
      try simp only [decide_eq_true_eq, decide_eq_false_iff_not, Bool.not_eq_true', Bool.not_eq_false', Bool.and_eq_true, Bool.or_eq_true, Bool.and_eq_false_iff, Bool.or_eq_false_iff, Int.not_le, Int.not_lt] at c1'
      rw [hlv] at c1'
      have bd := shown_bd (t := t) c1'.2
      have m1 := mul_bd bd.1 (Int.le_trans bd.2.1 bd.2.2) (show 0 ≤ p.near by omega) (show p.near ≤ 1073741824 by omega)
      have m2 := mul_bd (a := (shownS t).2 + 1) (A := 2001) (by omega) (by omega) (show 0 ≤ p.far by omega) n3
      refine RunC.skip ?_
      refine RunE.next ?_
      refine RunC.seq ?_
      refine RunC.region ?_
      refine RunL.val (Val.fieldAddr rfl fld_23_0) rfl rfl rfl ?_
      refine RunL.val (Val.load_one rfl (.head _) ty_3 rfl) rfl rfl rfl ?_
      refine RunL.val (Val.pure rfl) rfl rfl rfl ?_
      refine RunL.val (Val.mul rfl rfl (IntWalk.i64_in _ (rng_of m1 (by decide)))) rfl rfl rfl ?_
      refine RunL.val (Val.fieldAddr rfl fld_23_1) rfl rfl rfl ?_
      refine RunL.val (Val.load_one rfl (.head _) ty_3 rfl) rfl rfl rfl ?_
      refine RunL.val (Val.add rfl rfl (IntWalk.i64_in _ (rng_of (show 0 ≤ (shownS t).2 + 1 ∧ (shownS t).2 + 1 ≤ 2001 by omega) (by decide)))) rfl rfl rfl ?_
      refine RunL.val (Val.pure rfl) rfl rfl rfl ?_
      refine RunL.val (Val.mul rfl rfl (IntWalk.i64_in _ (rng_of m2 (by decide)))) rfl rfl rfl ?_
      refine RunL.val (Val.sub' rfl rfl (IntWalk.i64_in _ (rng_sub m2 (by decide)))) rfl rfl rfl ?_
      refine RunL.val (Val.build (parts := [(0, .tmp 36), (1, .tmp 42)]) rfl zero_23 places_23 rfl) rfl rfl rfl ?_
      refine RunL.sto (Sto.store rfl rfl (.there .here) ty_23 rfl rfl) rfl rfl ?_
      refine RunL.nil ?_
      refine RunE.next ?_
      refine RunC.ret ?_
      exact RunE.retP (.r1 rfl (.agg rfl (.tail _ (.head _)) ty_23 rfl)) (by have e : powersR p t = powersS p t (shownS t) := (by simp [powersR, c1'.1, show isB (shownS t) = true from c1'.2]); rw [e]; simp only [powersS, h0, if_true]; rfl)
  · refine calls_start Try.func100 rfl rfl ?_
    refine RunC.seq ?_
    refine RunC.region ?_
    refine RunL.new (New.box rfl) rfl rfl rfl (fun b2 => ?_)
    refine RunL.new (New.box rfl) rfl rfl rfl (fun b3 => ?_)
    refine RunL.new (New.alloc zero_23) rfl rfl rfl (fun b4 => ?_)
    refine RunL.nil ?_
    refine RunE.next ?_
    refine RunC.seq ?_
    refine RunC.draw 5 fol_ (.cons .here rfl (.cons .here rfl (.cons .here rfl .nil))) ?_
    refine RunA.val (i := 0) rfl (by kernel_rfl) (by kernel_rfl) (Val.fieldAddr rfl fld_26_3) rfl rfl rfl (fun _ _ _ h => h) (.cons .here rfl (.cons .here rfl (.cons .here rfl .nil))) rfl ?_
    refine RunA.val (i := 1) rfl (by kernel_rfl) (by kernel_rfl) (Val.load_one rfl (.tail _ (.tail _ (.head _))) ty_3 rfl) rfl rfl rfl (fun _ _ _ h => h) (.cons .here rfl (.cons .here rfl (.cons .here rfl .nil))) rfl ?_
    refine RunA.val (i := 2) rfl (by kernel_rfl) (by kernel_rfl) (Val.fieldAddr rfl fld_26_4) rfl rfl rfl (fun _ _ _ h => h) (.cons .here rfl (.cons .here rfl (.cons .here rfl .nil))) rfl ?_
    refine RunA.val (i := 3) rfl (by kernel_rfl) (by kernel_rfl) (Val.load_one rfl (.tail _ (.tail _ (.head _))) ty_3 rfl) rfl rfl rfl (fun _ _ _ h => h) (.cons .here rfl (.cons .here rfl (.cons .here rfl .nil))) rfl ?_
    refine RunA.val (i := 4) rfl (by kernel_rfl) (by kernel_rfl) (Val.pure rfl) rfl rfl rfl (fun _ _ _ h => h) (.cons .here rfl (.cons .here rfl (.cons .here rfl .nil))) rfl ?_
    refine RunA.toB (by kernel_rfl) ?_
    refine RunB.one (i := 5) (by kernel_rfl) ?_
    refine RunI.val rfl (Val.pure rfl) rfl rfl rfl (RunK.toB ?_)
    refine RunB.done (by kernel_rfl) ?_
    refine RunE.next ?_
    refine RunC.seq ?_
    refine RunC.seq ?_
    refine RunC.region ?_
    refine RunL.val (Val.fieldAddr rfl fld_54_2) rfl rfl rfl ?_
    refine RunL.val (Val.load_one rfl (.tail _ (.head _)) ty_3 rfl) rfl rfl rfl ?_
    refine RunL.val (Val.pure rfl) rfl rfl rfl ?_
    refine RunL.nil ?_
    refine RunE.next ?_
    refine RunC.cond rfl ?_ (fun h => absurd h (by simpa using h0))
    intro c0
    clear c0
    refine RunC.draw 5 fol_ (.cons .here rfl (.cons .here rfl (.cons .here rfl .nil))) ?_
    refine RunA.val (i := 0) rfl (by kernel_rfl) (by kernel_rfl) (Val.fieldAddr rfl fld_54_2) rfl rfl rfl (fun _ _ _ h => h) (.cons .here rfl (.cons .here rfl (.cons .here rfl .nil))) rfl ?_
    refine RunA.val (i := 1) rfl (by kernel_rfl) (by kernel_rfl) (Val.load_one rfl (.tail _ (.head _)) ty_3 rfl) rfl rfl rfl (fun _ _ _ h => h) (.cons .here rfl (.cons .here rfl (.cons .here rfl .nil))) rfl ?_
    refine RunA.val (i := 2) rfl (by kernel_rfl) (by kernel_rfl) (Val.fieldAddr rfl fld_54_2) rfl rfl rfl (fun _ _ _ h => h) (.cons .here rfl (.cons .here rfl (.cons .here rfl .nil))) rfl ?_
    refine RunA.val (i := 3) rfl (by kernel_rfl) (by kernel_rfl) (Val.load_one rfl (.tail _ (.head _)) ty_3 rfl) rfl rfl rfl (fun _ _ _ h => h) (.cons .here rfl (.cons .here rfl (.cons .here rfl .nil))) rfl ?_
    refine RunA.val (i := 4) rfl (by kernel_rfl) (by kernel_rfl) (Val.pure rfl) rfl rfl rfl (fun _ _ _ h => h) (.cons .here rfl (.cons .here rfl (.cons .here rfl .nil))) rfl ?_
    refine RunA.toB (by kernel_rfl) ?_
    refine RunB.one (i := 5) (by kernel_rfl) ?_
    refine RunI.val rfl (Val.pure rfl) rfl rfl rfl (RunK.toB ?_)
    refine RunB.done (by kernel_rfl) ?_
    refine RunE.next ?_
    refine RunC.seq ?_
    refine RunC.region ?_
    refine RunL.val (Val.load_agg rfl (.tail _ (.head _)) ty_54 rfl) rfl rfl rfl ?_
    refine RunL.callP (isCall_func rfl ent_101) rfl rfl rfl (fun w hm => rOf_calls t ht w) ?_
    refine RunL.val (Val.build (parts := [(0, .const (.int .i64 0)), (1, .const (.int .i64 2000))]) rfl zero_23 places_23 rfl) rfl rfl rfl ?_
    refine RunL.callP (isCall_func rfl ent_99) rfl rfl rfl (fun w hm => rcommon_calls (_, _) (_, _) w) ?_
    refine RunL.new (New.alloc zero_23) rfl rfl rfl (fun b7 => ?_)
    refine RunL.sto (Sto.store rfl rfl .here ty_23 rfl rfl) rfl rfl ?_
    refine RunL.nil ?_
    refine RunE.next ?_
    refine RunC.seq ?_
    refine RunC.seq ?_
    refine RunC.region ?_
    refine RunL.val (Val.load_agg rfl (.tail _ (.tail _ (.head _))) ty_54 rfl) rfl rfl rfl ?_
    refine RunL.val (Val.fieldAddr rfl fld_26_2) rfl rfl rfl ?_
    refine RunL.val (Val.load_one rfl (.tail _ (.tail _ (.tail _ (.head _)))) ty_3 rfl) rfl rfl rfl ?_
    refine RunL.callP (isCall_func rfl ent_107) rfl rfl rfl (fun w hm => rlevel_calls t ht p.tilt hp.t1 hp.t2 w) ?_
    refine RunL.val (Val.pure rfl) rfl rfl rfl ?_
    refine RunL.val (Val.pure rfl) rfl rfl rfl ?_
    refine RunL.orPart (dj := 28) (dp := 31) 3 rfl (fun g28 => by
      have g28' := g28
      try simp only [decide_eq_true_eq, decide_eq_false_iff_not, Bool.not_eq_true', Bool.not_eq_false', Bool.and_eq_true, Bool.or_eq_true, Bool.and_eq_false_iff, Bool.or_eq_false_iff, Int.not_le, Int.not_lt] at g28'
      refine RunL.val (Val.load_agg rfl (.head _) ty_23 rfl) rfl rfl rfl ?_
      refine RunL.callP (isCall_func rfl ent_98) rfl rfl rfl (fun w hm => rEmpty_calls (_, _) w) ?_
      refine RunL.val (Val.pure rfl) rfl rfl rfl ?_
      exact RunL.segEnd (Sub.cons rfl (Sub.skip rfl (Sub.skip rfl (Sub.skip rfl (Sub.same rfl (by rw [g28]) (Sub.refl _)))))) (List.Sublist.refl _)
    ) (fun g28 => by
      have g28' := g28
      try simp only [decide_eq_true_eq, decide_eq_false_iff_not, Bool.not_eq_true', Bool.not_eq_false', Bool.and_eq_true, Bool.or_eq_true, Bool.and_eq_false_iff, Bool.or_eq_false_iff, Int.not_le, Int.not_lt] at g28'
      refine RunL.no rfl rfl rfl ?_
      refine RunL.no rfl rfl rfl ?_
      refine RunL.val (Val.pure rfl) rfl rfl rfl ?_
      exact RunL.segEnd (Sub.cons rfl (Sub.skip rfl (Sub.skip rfl (Sub.skip rfl (Sub.same rfl (by rw [g28]) (Sub.refl _)))))) (List.Sublist.refl _)
    ) ?_
    refine RunL.nil ?_
    refine RunE.next ?_
    refine RunC.cond rfl ?_ ?_
    · intro c1
      have c1' := c1; clear c1
      try simp only [decide_eq_true_eq, decide_eq_false_iff_not, Bool.not_eq_true', Bool.not_eq_false', Bool.and_eq_true, Bool.or_eq_true, Bool.and_eq_false_iff, Bool.or_eq_false_iff, Int.not_le, Int.not_lt] at c1'
      rw [hlv] at c1'
      refine RunC.seq ?_
      refine RunC.region ?_
      refine RunL.callP (isCall_func rfl ent_108) rfl rfl rfl (fun w hm => rnone_calls w) ?_
      refine RunL.sto (Sto.store rfl rfl (.there .here) ty_23 rfl rfl) rfl rfl ?_
      refine RunL.nil ?_
      refine RunE.next ?_
      refine RunC.ret ?_
      refine RunE.pass_ret ?_
      exact RunE.retP (.r1 rfl (.agg rfl (.tail _ (.head _)) ty_23 rfl)) (by rw [powersR_none c1']; rfl)
    · intro c1
      have c1' := c1; clear c1
      try simp only [decide_eq_true_eq, decide_eq_false_iff_not, Bool.not_eq_true', Bool.not_eq_false', Bool.and_eq_true, Bool.or_eq_true, Bool.and_eq_false_iff, Bool.or_eq_false_iff, Int.not_le, Int.not_lt] at c1'
      rw [hlv] at c1'
      have bd := shown_bd (t := t) c1'.2
      have m1 := mul_bd bd.1 (Int.le_trans bd.2.1 bd.2.2) (show 0 ≤ t.far by omega) (show t.far ≤ 1073741824 by omega)
      have m2 := mul_bd (a := (shownS t).2 + 1) (A := 2001) (by omega) (by omega) (show 0 ≤ t.far by omega) (show t.far ≤ 1073741824 by omega)
      refine RunC.skip ?_
      refine RunE.next ?_
      refine RunC.seq ?_
      refine RunC.region ?_
      refine RunL.val (Val.fieldAddr rfl fld_23_0) rfl rfl rfl ?_
      refine RunL.val (Val.load_one rfl (.head _) ty_3 rfl) rfl rfl rfl ?_
      refine RunL.val (Val.pure rfl) rfl rfl rfl ?_
      refine RunL.val (Val.mul rfl rfl (IntWalk.i64_in _ (rng_of m1 (by decide)))) rfl rfl rfl ?_
      refine RunL.val (Val.fieldAddr rfl fld_23_1) rfl rfl rfl ?_
      refine RunL.val (Val.load_one rfl (.head _) ty_3 rfl) rfl rfl rfl ?_
      refine RunL.val (Val.add rfl rfl (IntWalk.i64_in _ (rng_of (show 0 ≤ (shownS t).2 + 1 ∧ (shownS t).2 + 1 ≤ 2001 by omega) (by decide)))) rfl rfl rfl ?_
      refine RunL.val (Val.pure rfl) rfl rfl rfl ?_
      refine RunL.val (Val.mul rfl rfl (IntWalk.i64_in _ (rng_of m2 (by decide)))) rfl rfl rfl ?_
      refine RunL.val (Val.sub' rfl rfl (IntWalk.i64_in _ (rng_sub m2 (by decide)))) rfl rfl rfl ?_
      refine RunL.val (Val.build (parts := [(0, .tmp 36), (1, .tmp 42)]) rfl zero_23 places_23 rfl) rfl rfl rfl ?_
      refine RunL.sto (Sto.store rfl rfl (.there .here) ty_23 rfl rfl) rfl rfl ?_
      refine RunL.nil ?_
      refine RunE.next ?_
      refine RunC.ret ?_
      exact RunE.retP (.r1 rfl (.agg rfl (.tail _ (.head _)) ty_23 rfl)) (by have e : powersR p t = powersS p t (shownS t) := (by simp [powersR, c1'.1, show isB (shownS t) = true from c1'.2]); rw [e]; simp only [powersS, h0, if_false]; rfl)
end Go.Proofs.Ytjijeeadmhpfcaa
/- Walks of the reference of layer 1: All, open and what is read of it. -/
set_option linter.unusedSimpArgs false
set_option linter.unusedVariables false
namespace Go.Proofs.Ytjijeeadmhpfcaa
open Go Go.Eng Go.Pw1

theorem rthing_calls (p : Pr) (n : Int) (q : Option Addr) (cap : Nat) (hl : p.things.length ≤ 100000000000) (W : World) : Calls Try.prog 97 #[p.v q cap, .int .i64 n] W (Pure (.bool (thingR p n)) W) := by
  refine calls_start Try.func97 rfl rfl ?_
  refine RunC.seq ?_
  refine RunC.region ?_
  refine RunL.new (New.box rfl) rfl rfl rfl (fun b2 => ?_)
  refine RunL.val (Val.pure rfl) rfl rfl rfl ?_
  refine RunL.nil ?_
  refine RunE.next ?_
  refine RunC.seq ?_
  refine RunC.region ?_
  refine RunL.val (Val.pure rfl) rfl rfl rfl ?_
  refine RunL.val (Val.fieldAddr rfl fld_26_5) rfl rfl rfl ?_
  refine RunL.val (Val.load_one rfl (.head _) ty_24 rfl) rfl rfl rfl ?_
  refine RunL.val (Val.len_sl rfl sl_24) rfl rfl rfl ?_
  refine RunL.val (Val.sub' rfl rfl (IntWalk.i64_in _ ⟨by omega, by omega⟩)) rfl rfl rfl ?_
  refine RunL.callP (isCall_func rfl ent_83) rfl rfl rfl (fun w hm => rin_calls _ _ _ w) ?_
  refine RunL.val (Val.pure rfl) rfl rfl rfl ?_
  refine RunL.nil ?_
  refine RunE.next ?_
  refine RunC.ret ?_
  exact RunE.retP (.r1 rfl (.tmp rfl)) (by first | rfl | simp)
theorem rAll_calls (p : Pr) (hp : p.Ok) (q : Option Addr) (b o cap : Nat) (W : World) (hS : Sl W q b o 9 (p.things.map Th.cells)) :
    Calls Try.prog 106 #[p.v q cap] W (Pure (b2v (allS p)) W) := by
  have f1 := hp.f1
  have f2 := hp.f2
  have f3 := hp.f3
  have b1' := hp.b1
  have b2' := hp.b2
  have b3' := hp.b3
  have m1 := mul_bd (a := p.focal.lo) (b := p.base.lo) (A := 50000) (B := 10000) (by omega) (by omega) (by omega) (by omega)
  have m2 := mul_bd (a := p.focal.hi) (b := p.base.hi) (A := 50000) (B := 10000) (by omega) (by omega) (by omega) (by omega)
  have hlen := hp.len
  refine calls_start Try.func106 rfl rfl ?_
  refine RunC.seq ?_
  refine RunC.region ?_
  refine RunL.new (New.box rfl) rfl rfl rfl (fun b1 => ?_)
  refine RunL.new (New.alloc zero_23) rfl rfl rfl (fun b2 => ?_)
  refine RunL.nil ?_
  refine RunE.next ?_
  refine RunC.seq ?_
  refine RunC.region ?_
  refine RunL.val (Val.fieldAddr rfl fld_26_0) rfl rfl rfl ?_
  refine RunL.val (Val.fieldAddr rfl fld_23_0) rfl rfl rfl ?_
  refine RunL.val (Val.load_one rfl (.tail _ (.head _)) ty_3 rfl) rfl rfl rfl ?_
  refine RunL.val (Val.fieldAddr rfl fld_26_1) rfl rfl rfl ?_
  refine RunL.val (Val.fieldAddr rfl fld_23_0) rfl rfl rfl ?_
  refine RunL.val (Val.load_one rfl (.tail _ (.head _)) ty_3 rfl) rfl rfl rfl ?_
  refine RunL.val (Val.mul rfl rfl (IntWalk.i64_in _ ⟨by omega, by omega⟩)) rfl rfl rfl ?_
  refine RunL.val (Val.fieldAddr rfl fld_26_0) rfl rfl rfl ?_
  refine RunL.val (Val.fieldAddr rfl fld_23_1) rfl rfl rfl ?_
  refine RunL.val (Val.load_one rfl (.tail _ (.head _)) ty_3 rfl) rfl rfl rfl ?_
  refine RunL.val (Val.fieldAddr rfl fld_26_1) rfl rfl rfl ?_
  refine RunL.val (Val.fieldAddr rfl fld_23_1) rfl rfl rfl ?_
  refine RunL.val (Val.load_one rfl (.tail _ (.head _)) ty_3 rfl) rfl rfl rfl ?_
  refine RunL.val (Val.mul rfl rfl (IntWalk.i64_in _ ⟨by omega, by omega⟩)) rfl rfl rfl ?_
  refine RunL.val (Val.build (parts := [(0, .tmp 11), (1, .tmp 18)]) rfl zero_23 places_23 rfl) rfl rfl rfl ?_
  refine RunL.new (New.alloc zero_23) rfl rfl rfl (fun b3 => ?_)
  refine RunL.sto (Sto.store rfl rfl .here ty_23 rfl rfl) rfl rfl ?_
  refine RunL.nil ?_
  refine RunE.next ?_
  refine RunC.seq ?_
  refine RunC.seq ?_
  refine RunC.region ?_
  refine RunL.val (Val.pure rfl) rfl rfl rfl ?_
  refine RunL.nil ?_
  refine RunE.next ?_
  refine RunC.block ?_
  refine RunC.loopK (p.things.length) (fun k q => (4, .int .i64 (k : Int)) :: q) (fun _ => _) (fun k => [(b3, .cells (b2c (allL p (powers0 p) (p.things.take k))).toArray 23 (0, 0))]) (fun _ => True) trivial rfl (Sub.consE (t := 4) rfl rfl (Sub.cons (t := 1) rfl (Sub.cons (t := 2) rfl (Sub.cons (t := 3) rfl (Sub.nil _))))) (.cons .here (by simp [allL, powers0, b2c]) (.cons .here rfl (.cons .here rfl .nil))) ?_
  intro k kN kI
  clear kI
  refine RunC.seq ?_
  refine RunC.seq ?_
  refine RunC.region ?_
  refine RunL.val (Val.pure rfl) rfl rfl rfl ?_
  refine RunL.val (Val.fieldAddr rfl fld_26_5) rfl rfl rfl ?_
  refine RunL.val (Val.load_one rfl (.tail _ (.tail _ (.head _))) ty_24 rfl) rfl rfl rfl ?_
  refine RunL.val (Val.len_sl rfl sl_24) rfl rfl rfl ?_
  refine RunL.val (Val.pure rfl) rfl rfl rfl ?_
  refine RunL.nil ?_
  refine RunE.next ?_
  refine RunC.cond rfl ?_ ?_
  · intro c0
    have c0' := c0; clear c0
    try simp only [decide_eq_true_eq, decide_eq_false_iff_not, Bool.not_eq_true', Bool.not_eq_false', Bool.and_eq_true, Bool.or_eq_true, Bool.and_eq_false_iff, Bool.or_eq_false_iff, Int.not_le, Int.not_lt] at c0'
    have hk : k < p.things.length := by omega
    obtain ⟨t, ht⟩ : ∃ t, p.things[k] = t := ⟨_, rfl⟩
    have hth := hp.ths _ (List.getElem_mem hk)
    rw [ht] at hth
    refine RunC.skip ?_
    refine RunE.next ?_
    refine RunC.seq ?_
    refine RunC.block ?_
    refine RunC.seq ?_
    refine RunC.region ?_
    refine RunL.val (Val.fieldAddr rfl fld_26_5) rfl rfl rfl ?_
    refine RunL.val (Val.load_one rfl (.tail _ (.tail _ (.head _))) ty_24 rfl) rfl rfl rfl ?_
    refine RunL.val (Val.pure rfl) rfl rfl rfl ?_
    refine RunL.val (Val.indexAddr_slp rfl rfl sl_24 (by omega) (by omega) (hS.ptrM hk)) rfl rfl rfl ?_
    refine RunL.val (Val.fieldAddr rfl fld_54_2) rfl rfl rfl ?_
    refine RunL.val (Val.load_gen rfl (fun w hm => hS.cellX hm (by simp) ty_3 hk ht (j := 8) (by decide) rfl)) rfl rfl rfl ?_
    refine RunL.val (Val.pure rfl) rfl rfl rfl ?_
    refine RunL.nil ?_
    refine RunE.next ?_
    refine RunC.cond rfl ?_ ?_
    · intro c1
      have c1' := c1; clear c1
      try simp only [decide_eq_true_eq, decide_eq_false_iff_not, Bool.not_eq_true', Bool.not_eq_false', Bool.and_eq_true, Bool.or_eq_true, Bool.and_eq_false_iff, Bool.or_eq_false_iff, Int.not_le, Int.not_lt] at c1'
      refine RunC.draw 8 fol_ (.cons .here rfl (.cons .here rfl (.cons .here rfl .nil))) ?_
      refine RunA.val (i := 0) rfl (by kernel_rfl) (by kernel_rfl) (Val.load_agg rfl (.head _) ty_23 rfl) rfl rfl rfl (fun _ _ _ h => h) (.cons .here rfl (.cons .here rfl (.cons .here rfl .nil))) rfl ?_
      refine RunA.val (i := 1) rfl (by kernel_rfl) (by kernel_rfl) (Val.load_agg rfl (.tail _ (.tail _ (.head _))) ty_26 rfl) rfl rfl rfl (fun _ _ _ h => h) (.cons .here rfl (.cons .here rfl (.cons .here rfl .nil))) rfl ?_
      refine RunA.val (i := 2) rfl (by kernel_rfl) (by kernel_rfl) (Val.fieldAddr rfl fld_26_5) rfl rfl rfl (fun _ _ _ h => h) (.cons .here rfl (.cons .here rfl (.cons .here rfl .nil))) rfl ?_
      refine RunA.val (i := 3) rfl (by kernel_rfl) (by kernel_rfl) (Val.load_one rfl (.tail _ (.tail _ (.head _))) ty_24 rfl) rfl rfl rfl (fun _ _ _ h => h) (.cons .here rfl (.cons .here rfl (.cons .here rfl .nil))) rfl ?_
      refine RunA.val (i := 4) rfl (by kernel_rfl) (by kernel_rfl) (Val.pure rfl) rfl rfl rfl (fun _ _ _ h => h) (.cons .here rfl (.cons .here rfl (.cons .here rfl .nil))) rfl ?_
      refine RunA.val (i := 5) rfl (by kernel_rfl) (by kernel_rfl) (Val.indexAddr_slp rfl rfl sl_24 (by omega) (by omega) (hS.ptrM hk)) rfl rfl rfl (fun _ _ _ h => h) (.cons .here rfl (.cons .here rfl (.cons .here rfl .nil))) rfl ?_
      refine RunA.val (i := 6) rfl (by kernel_rfl) (by kernel_rfl) (Val.load_gen rfl (fun w hm => hS.loadX (by decide) hm (by simp) ty_54 hk ht)) rfl rfl rfl (fun _ _ _ h => h) (.cons .here rfl (.cons .here rfl (.cons .here rfl .nil))) rfl ?_
      refine RunA.one (i := 7) (by kernel_rfl) (by kernel_rfl) ?_
      refine RunI.callP rfl (isCall_func rfl ent_100) rfl rfl rfl (fun w hm => rPowers_calls p hp q cap t hth.1 hth.2 w) (RunK.toA (.cons .here rfl (.cons .here rfl (.cons .here rfl .nil))) (.cons .here rfl (.cons .here rfl (.cons .here rfl .nil))) rfl ?_)
      refine RunA.toB (by kernel_rfl) ?_
      refine RunB.one (i := 8) (by kernel_rfl) ?_
      refine RunI.callP rfl (isCall_func rfl ent_99) rfl rfl rfl (fun w hm => rcommon_calls (_, _) (_, _) w) (RunK.toB ?_)
      refine RunB.one (i := 9) (by kernel_rfl) ?_
      refine RunI.sto rfl (Sto.store rfl rfl .here ty_23 rfl rfl) rfl rfl (RunK.toB ?_)
      refine RunB.done (by kernel_rfl) ?_
      refine RunE.block_normal ?_
      refine RunE.next ?_
      refine RunC.region ?_
      refine RunL.val (Val.pure rfl) rfl rfl rfl ?_
      refine RunL.val (Val.add rfl rfl (IntWalk.i64_in _ ⟨by omega, by omega⟩)) rfl rfl rfl ?_
      refine RunL.val (Val.pure rfl) rfl rfl rfl ?_
      refine RunL.nil ?_
      exact RunE.round (by omega) trivial rfl (Sub.consE (t := 4) rfl rfl (Sub.cons (t := 1) rfl (Sub.cons (t := 2) rfl (Sub.cons (t := 3) rfl (Sub.nil _))))) (.cons .here (by first | (rw [allL_step hk ht, if_neg c1']; rfl) | (rw [allL_step hk ht, if_pos c1'])) (.cons .here rfl (.cons .here rfl .nil)))
    · intro c1
      have c1' := c1; clear c1
      try simp only [decide_eq_true_eq, decide_eq_false_iff_not, Bool.not_eq_true', Bool.not_eq_false', Bool.and_eq_true, Bool.or_eq_true, Bool.and_eq_false_iff, Bool.or_eq_false_iff, Int.not_le, Int.not_lt] at c1'
      refine RunC.skip ?_
      refine RunE.block_normal ?_
      refine RunE.next ?_
      refine RunC.region ?_
      refine RunL.val (Val.pure rfl) rfl rfl rfl ?_
      refine RunL.val (Val.add rfl rfl (IntWalk.i64_in _ ⟨by omega, by omega⟩)) rfl rfl rfl ?_
      refine RunL.val (Val.pure rfl) rfl rfl rfl ?_
      refine RunL.nil ?_
      exact RunE.round (by omega) trivial rfl (Sub.consE (t := 4) rfl rfl (Sub.cons (t := 1) rfl (Sub.cons (t := 2) rfl (Sub.cons (t := 3) rfl (Sub.nil _))))) (.cons .here (by first | (rw [allL_step hk ht, if_neg c1']; rfl) | (rw [allL_step hk ht, if_pos c1'])) (.cons .here rfl (.cons .here rfl .nil)))
  · intro c0
    have c0' := c0; clear c0
    try simp only [decide_eq_true_eq, decide_eq_false_iff_not, Bool.not_eq_true', Bool.not_eq_false', Bool.and_eq_true, Bool.or_eq_true, Bool.and_eq_false_iff, Bool.or_eq_false_iff, Int.not_le, Int.not_lt] at c0'
    obtain rfl : k = p.things.length := by omega
    rw [List.take_length]
    refine RunC.exit ?_
    refine RunE.pass_exit ?_
    refine RunE.pass_exit ?_
    refine RunE.block_here ?_
    refine RunE.next ?_
    refine RunC.seq ?_
    refine RunC.region ?_
    refine RunL.val (Val.load_agg rfl (.head _) ty_23 rfl) rfl rfl rfl ?_
    refine RunL.sto (Sto.store rfl rfl (.there .here) ty_23 rfl rfl) rfl rfl ?_
    refine RunL.nil ?_
    refine RunE.next ?_
    refine RunC.ret ?_
    exact RunE.retP (.r1 rfl (.agg rfl (.tail _ (.head _)) ty_23 rfl)) (by first | rfl | simp)
theorem ropen_calls (p : Pr) (v : Bool) (q : Option Addr) (b o cap : Nat) (W : World) (hS : Sl W q b o 9 (p.things.map Th.cells)) (hl : p.things.length ≤ 100000000000) :
    Calls Try.prog 96 #[p.v q cap, .bool v] W (Pure (.tuple #[b2v (openR p v).1, .int .i64 (openR p v).2]) W) := by
  refine calls_start Try.func96 rfl rfl ?_
  refine RunC.seq ?_
  refine RunC.region ?_
  refine RunL.new (New.box rfl) rfl rfl rfl (fun b2 => ?_)
  refine RunL.new (New.alloc zero_23) rfl rfl rfl (fun b4 => ?_)
  refine RunL.val (Val.pure rfl) rfl rfl rfl ?_
  refine RunL.nil ?_
  refine RunE.next ?_
  refine RunC.seq ?_
  refine RunC.seq ?_
  refine RunC.region ?_
  refine RunL.val (Val.load_agg rfl (.tail _ (.head _)) ty_26 rfl) rfl rfl rfl ?_
  refine RunL.callP (isCall_func rfl ent_60) rfl rfl rfl (fun w hm => rPair_calls p q b o cap w (hS.mono (by decide) hm (by simp)) hl) ?_
  refine RunL.val (Val.pure rfl) rfl rfl rfl ?_
  refine RunL.nil ?_
  refine RunE.next ?_
  refine RunC.cond rfl ?_ ?_
  · intro c0
    have c0' := c0; clear c0
    try simp only [decide_eq_true_eq, decide_eq_false_iff_not, Bool.not_eq_true', Bool.not_eq_false', Bool.and_eq_true, Bool.or_eq_true, Bool.and_eq_false_iff, Bool.or_eq_false_iff, Int.not_le, Int.not_lt] at c0'
    refine RunC.seq ?_
    refine RunC.region ?_
    refine RunL.val (Val.build (parts := []) rfl zero_23 places_23 rfl) rfl rfl rfl ?_
    refine RunL.sto (Sto.store rfl rfl .here ty_23 rfl rfl) rfl rfl ?_
    refine RunL.val (Val.pure rfl) rfl rfl rfl ?_
    refine RunL.nil ?_
    refine RunE.next ?_
    refine RunC.ret ?_
    refine RunE.pass_ret ?_
    exact RunE.retP (.r2 rfl (.agg rfl (.head _) ty_23 rfl) (.tmp rfl)) (by simp [openR, c0', b2v])
  · intro c0
    have c0' := c0; clear c0
    try simp only [decide_eq_true_eq, decide_eq_false_iff_not, Bool.not_eq_true', Bool.not_eq_false', Bool.and_eq_true, Bool.or_eq_true, Bool.and_eq_false_iff, Bool.or_eq_false_iff, Int.not_le, Int.not_lt] at c0'
    have hp := isPair_ok c0'
    refine RunC.skip ?_
    refine RunE.next ?_
    refine RunC.seq ?_
    refine RunC.seq ?_
    refine RunC.region ?_
    refine RunL.val (Val.pure rfl) rfl rfl rfl ?_
    refine RunL.val (Val.pure rfl) rfl rfl rfl ?_
    refine RunL.nil ?_
    refine RunE.next ?_
    refine RunC.cond rfl ?_ ?_
    · intro c1
      have c1' := c1; clear c1
      try simp only [decide_eq_true_eq, decide_eq_false_iff_not, Bool.not_eq_true', Bool.not_eq_false', Bool.and_eq_true, Bool.or_eq_true, Bool.and_eq_false_iff, Bool.or_eq_false_iff, Int.not_le, Int.not_lt] at c1'
      refine RunC.seq ?_
      refine RunC.region ?_
      refine RunL.val (Val.build (parts := []) rfl zero_23 places_23 rfl) rfl rfl rfl ?_
      refine RunL.sto (Sto.store rfl rfl .here ty_23 rfl rfl) rfl rfl ?_
      refine RunL.val (Val.pure rfl) rfl rfl rfl ?_
      refine RunL.nil ?_
      refine RunE.next ?_
      refine RunC.ret ?_
      refine RunE.pass_ret ?_
      exact RunE.retP (.r2 rfl (.agg rfl (.head _) ty_23 rfl) (.tmp rfl)) (by simp [openR, c0', c1', b2v])
    · intro c1
      have c1' := c1; clear c1
      try simp only [decide_eq_true_eq, decide_eq_false_iff_not, Bool.not_eq_true', Bool.not_eq_false', Bool.and_eq_true, Bool.or_eq_true, Bool.and_eq_false_iff, Bool.or_eq_false_iff, Int.not_le, Int.not_lt] at c1'
      refine RunC.skip ?_
      refine RunE.next ?_
      refine RunC.seq ?_
      refine RunC.region ?_
      refine RunL.val (Val.load_agg rfl (.tail _ (.head _)) ty_26 rfl) rfl rfl rfl ?_
      refine RunL.callP (isCall_func rfl ent_106) rfl rfl rfl (fun w hm => rAll_calls p hp q b o cap w (hS.mono (by decide) hm (by simp))) ?_
      refine RunL.new (New.alloc zero_23) rfl rfl rfl (fun b6 => ?_)
      refine RunL.sto (Sto.store rfl rfl .here ty_23 rfl rfl) rfl rfl ?_
      refine RunL.nil ?_
      refine RunE.next ?_
      refine RunC.seq ?_
      refine RunC.seq ?_
      refine RunC.region ?_
      refine RunL.val (Val.load_agg rfl (.head _) ty_23 rfl) rfl rfl rfl ?_
      refine RunL.callP (isCall_func rfl ent_98) rfl rfl rfl (fun w hm => rEmpty_calls (_, _) w) ?_
      refine RunL.nil ?_
      refine RunE.next ?_
      refine RunC.cond rfl ?_ ?_
      · intro c2
        have c2' := c2; clear c2
        try simp only [decide_eq_true_eq, decide_eq_false_iff_not, Bool.not_eq_true', Bool.not_eq_false', Bool.and_eq_true, Bool.or_eq_true, Bool.and_eq_false_iff, Bool.or_eq_false_iff, Int.not_le, Int.not_lt] at c2'
        refine RunC.seq ?_
        refine RunC.region ?_
        refine RunL.val (Val.build (parts := []) rfl zero_23 places_23 rfl) rfl rfl rfl ?_
        refine RunL.sto (Sto.store rfl rfl (.there .here) ty_23 rfl rfl) rfl rfl ?_
        refine RunL.val (Val.pure rfl) rfl rfl rfl ?_
        refine RunL.nil ?_
        refine RunE.next ?_
        refine RunC.ret ?_
        refine RunE.pass_ret ?_
        exact RunE.retP (.r2 rfl (.agg rfl (.tail _ (.head _)) ty_23 rfl) (.tmp rfl)) (by have c3 : isB (allS p) = false := c2'; simp [openR, c0', c1', c3, b2v])
      · intro c2
        have c2' := c2; clear c2
        try simp only [decide_eq_true_eq, decide_eq_false_iff_not, Bool.not_eq_true', Bool.not_eq_false', Bool.and_eq_true, Bool.or_eq_true, Bool.and_eq_false_iff, Bool.or_eq_false_iff, Int.not_le, Int.not_lt] at c2'
        refine RunC.skip ?_
        refine RunE.next ?_
        refine RunC.seq ?_
        refine RunC.region ?_
        refine RunL.val (Val.load_agg rfl (.head _) ty_23 rfl) rfl rfl rfl ?_
        refine RunL.sto (Sto.store rfl rfl (.there .here) ty_23 rfl rfl) rfl rfl ?_
        refine RunL.val (Val.pure rfl) rfl rfl rfl ?_
        refine RunL.nil ?_
        refine RunE.next ?_
        refine RunC.ret ?_
        exact RunE.retP (.r2 rfl (.agg rfl (.tail _ (.head _)) ty_23 rfl) (.tmp rfl)) (by have c3 : isB (allS p) = true := c2'; simp [openR, c0', c1', c3, b2v])
theorem rPower_calls (p : Pr) (q : Option Addr) (b o cap : Nat) (W : World) (hS : Sl W q b o 9 (p.things.map Th.cells)) (hl : p.things.length ≤ 100000000000) :
    Calls Try.prog 92 #[p.v q cap] W (Pure (.tuple #[b2v (powerR p).1, .int .i64 (powerR p).2]) W) := by
  refine calls_start Try.func92 rfl rfl ?_
  refine RunC.seq ?_
  refine RunC.region ?_
  refine RunL.new (New.box rfl) rfl rfl rfl (fun b1 => ?_)
  refine RunL.new (New.alloc zero_23) rfl rfl rfl (fun b2 => ?_)
  refine RunL.val (Val.pure rfl) rfl rfl rfl ?_
  refine RunL.nil ?_
  refine RunE.next ?_
  refine RunC.seq ?_
  refine RunC.region ?_
  refine RunL.val (Val.load_agg rfl (.tail _ (.head _)) ty_26 rfl) rfl rfl rfl ?_
  refine RunL.callP (isCall_func rfl ent_96) rfl rfl rfl (fun w hm => ropen_calls p _ q b o cap w (hS.mono (by decide) hm (by simp)) hl) ?_
  refine RunL.val (Val.pure rfl) rfl rfl rfl ?_
  refine RunL.val (Val.pure rfl) rfl rfl rfl ?_
  refine RunL.sto (Sto.store rfl rfl .here ty_23 rfl rfl) rfl rfl ?_
  refine RunL.val (Val.pure rfl) rfl rfl rfl ?_
  refine RunL.nil ?_
  refine RunE.next ?_
  refine RunC.ret ?_
  exact RunE.retP (.r2 rfl (.agg rfl (.head _) ty_23 rfl) (.tmp rfl)) (by first | rfl | simp)
end Go.Proofs.Ytjijeeadmhpfcaa
/- Walks of the reference of layer 1: Stands, Why, Distance. -/
set_option linter.unusedSimpArgs false
set_option linter.unusedVariables false
namespace Go.Proofs.Ytjijeeadmhpfcaa
open Go Go.Eng Go.Pw1

theorem rshown_calls (t : Th) (W : World) : Calls Try.prog 99 #[b2v (shift t), .agg #[.int .i64 0, .int .i64 2000]] W (Pure (b2v (shownS t)) W) := rcommon_calls (shift t) (0, 2000) W
theorem div_rng1 {a b : Int} (h0 : 0 ≤ a) (h1 : a ≤ 1000000000000) (hb : 0 < b) : -9223372036854775808 ≤ a / b + 1 ∧ a / b + 1 ≤ 9223372036854775807 := by
  have h2 := Int.ediv_nonneg h0 (Int.le_of_lt hb)
  have h3 := Int.ediv_le_self b h0
  omega
theorem rDist_calls (p : Pr) (n : Int) (q : Option Addr) (b o cap : Nat) (W : World) (hS : Sl W q b o 9 (p.things.map Th.cells)) (hl : p.things.length ≤ 100000000000) :
    Calls Try.prog 93 #[p.v q cap, .int .i64 n] W (Pure (.tuple #[b2v (distR p n).1, .int .i64 (distR p n).2]) W) := by
  obtain ⟨s, hs⟩ : ∃ s, openR p (thingR p n) = s := ⟨_, rfl⟩
  refine calls_start Try.func93 rfl rfl ?_
  refine RunC.seq ?_
  refine RunC.region ?_
  refine RunL.new (New.box rfl) rfl rfl rfl (fun b2 => ?_)
  refine RunL.new (New.alloc zero_23) rfl rfl rfl (fun b4 => ?_)
  refine RunL.val (Val.pure rfl) rfl rfl rfl ?_
  refine RunL.nil ?_
  refine RunE.next ?_
  refine RunC.seq ?_
  apply RunC.drawJ (J := J1 _ _ _ _ _ _) 10 fol_ (.cons .here rfl (.cons .here rfl .nil))
  · refine RunA.val (i := 0) rfl (by kernel_rfl) (by kernel_rfl) (Val.load_agg rfl (.tail _ (.head _)) ty_26 rfl) rfl rfl rfl (fun _ _ _ h => h) (.cons .here rfl (.cons .here rfl .nil)) rfl ?_
    refine RunA.val (i := 1) rfl (by kernel_rfl) (by kernel_rfl) (Val.load_agg rfl (.tail _ (.head _)) ty_26 rfl) rfl rfl rfl (fun _ _ _ h => h) (.cons .here rfl (.cons .here rfl .nil)) rfl ?_
    refine RunA.val (i := 2) rfl (by kernel_rfl) (by kernel_rfl) (Val.pure rfl) rfl rfl rfl (fun _ _ _ h => h) (.cons .here rfl (.cons .here rfl .nil)) rfl ?_
    refine RunA.all (rs := [3, 8]) (by kernel_rfl) (by simp) (by kernel_rfl) (fun m hm => ?_)
    simp only [List.mem_cons, List.not_mem_nil, or_false] at hm
    rcases hm with rfl | rfl
    · refine RunI.callP rfl (isCall_func rfl ent_97) rfl rfl rfl (fun w hm => rthing_calls p _ q cap hl w) (RunK.toA (.cons .here rfl (.cons .here rfl .nil)) (.cons .here rfl (.cons .here rfl .nil)) rfl ?_)
      refine RunA.all (rs := [4, 8]) (by kernel_rfl) (by simp) (by kernel_rfl) (fun m hm => ?_)
      simp only [List.mem_cons, List.not_mem_nil, or_false] at hm
      rcases hm with rfl | rfl
      · refine RunI.callP rfl (isCall_func rfl ent_96) rfl rfl rfl (fun w hm => ropen_calls p _ q b o cap w (hS.mono (by decide) hm (by simp)) hl) (RunK.toA (.cons .here rfl (.cons .here rfl .nil)) (.cons .here rfl (.cons .here rfl .nil)) rfl ?_)
        refine RunA.val (i := 5) rfl (by kernel_rfl) (by kernel_rfl) (Val.pure rfl) rfl rfl rfl (fun _ _ _ h => h) (.cons .here rfl (.cons .here rfl .nil)) rfl ?_
        refine RunA.val (i := 6) rfl (by kernel_rfl) (by kernel_rfl) (Val.pure rfl) rfl rfl rfl (fun _ _ _ h => h) (.cons .here rfl (.cons .here rfl .nil)) rfl ?_
        refine RunA.val (i := 7) rfl (by kernel_rfl) (by kernel_rfl) (Val.pure rfl) rfl rfl rfl (fun _ _ _ h => h) (.cons .here rfl (.cons .here rfl .nil)) rfl ?_
        refine RunA.one (i := 8) (by kernel_rfl) (by kernel_rfl) ?_
        refine RunI.new rfl (New.alloc zero_23) rfl rfl rfl (fun b6 => (RunK.toA (.cons (.there .here) rfl (.cons (.there .here) rfl .nil)) (.cons .here rfl (.cons .here rfl .nil)) rfl ?_))
        refine RunA.one (i := 9) (by kernel_rfl) (by kernel_rfl) ?_
        refine RunI.sto rfl (Sto.store rfl rfl .here ty_23 rfl rfl) rfl rfl (RunK.toA (.cons (.there .here) rfl (.cons (.there .here) rfl .nil)) (.cons .here rfl (.cons .here rfl .nil)) rfl ?_)
        refine RunA.toB (by kernel_rfl) ?_
        refine RunB.one (i := 10) (by kernel_rfl) ?_
        refine RunI.val rfl (Val.pure rfl) rfl rfl rfl (RunK.toB ?_)
        refine RunB.done (by kernel_rfl) ?_
        exact RunE.join1 b6 (Sub.refl _) (Pick.refl _)
      · refine RunI.new rfl (New.alloc zero_23) rfl rfl rfl (fun b6 => (RunK.toA (.cons (.there .here) rfl (.cons (.there .here) rfl .nil)) (.cons .here rfl (.cons .here rfl .nil)) rfl ?_))
        refine RunA.one (i := 4) (by kernel_rfl) (by kernel_rfl) ?_
        refine RunI.callP rfl (isCall_func rfl ent_96) rfl rfl rfl (fun w hm => ropen_calls p _ q b o cap w (hS.mono (by decide) hm (by simp)) hl) (RunK.toA (.cons (.there .here) rfl (.cons (.there .here) rfl .nil)) (.cons .here rfl (.cons .here rfl .nil)) rfl ?_)
        refine RunA.val (i := 5) rfl (by kernel_rfl) (by kernel_rfl) (Val.pure rfl) rfl rfl rfl (fun _ _ _ h => h) (.cons (.there .here) rfl (.cons (.there .here) rfl .nil)) rfl ?_
        refine RunA.val (i := 6) rfl (by kernel_rfl) (by kernel_rfl) (Val.pure rfl) rfl rfl rfl (fun _ _ _ h => h) (.cons (.there .here) rfl (.cons (.there .here) rfl .nil)) rfl ?_
        refine RunA.val (i := 7) rfl (by kernel_rfl) (by kernel_rfl) (Val.pure rfl) rfl rfl rfl (fun _ _ _ h => h) (.cons (.there .here) rfl (.cons (.there .here) rfl .nil)) rfl ?_
        refine RunA.one (i := 9) (by kernel_rfl) (by kernel_rfl) ?_
        refine RunI.sto rfl (Sto.store rfl rfl .here ty_23 rfl rfl) rfl rfl (RunK.toA (.cons (.there .here) rfl (.cons (.there .here) rfl .nil)) (.cons .here rfl (.cons .here rfl .nil)) rfl ?_)
        refine RunA.toB (by kernel_rfl) ?_
        refine RunB.one (i := 10) (by kernel_rfl) ?_
        refine RunI.val rfl (Val.pure rfl) rfl rfl rfl (RunK.toB ?_)
        refine RunB.done (by kernel_rfl) ?_
        exact RunE.join1 b6 (Sub.cons (t := 7) rfl (Sub.cons (t := 6) rfl (Sub.cons (t := 18) rfl (Sub.cons (t := 17) rfl (Sub.cons (t := 11) rfl (Sub.cons (t := 16) rfl (Sub.cons (t := 15) rfl (Sub.cons (t := 14) rfl (Sub.cons (t := 13) rfl (Sub.cons (t := 12) rfl (Sub.skip rfl (Sub.skip rfl (Sub.skip rfl (Sub.skip rfl (Sub.skip rfl (Sub.skip rfl (Sub.skip rfl (Sub.skip rfl (Sub.skip rfl (Sub.skip rfl (Sub.refl _))))))))))))))))))))) (.cons .here rfl (.cons .here rfl (.cons .here rfl .nil)))
    · refine RunI.new rfl (New.alloc zero_23) rfl rfl rfl (fun b6 => (RunK.toA (.cons (.there .here) rfl (.cons (.there .here) rfl .nil)) (.cons .here rfl (.cons .here rfl .nil)) rfl ?_))
      refine RunA.one (i := 3) (by kernel_rfl) (by kernel_rfl) ?_
      refine RunI.callP rfl (isCall_func rfl ent_97) rfl rfl rfl (fun w hm => rthing_calls p _ q cap hl w) (RunK.toA (.cons (.there .here) rfl (.cons (.there .here) rfl .nil)) (.cons .here rfl (.cons .here rfl .nil)) rfl ?_)
      refine RunA.one (i := 4) (by kernel_rfl) (by kernel_rfl) ?_
      refine RunI.callP rfl (isCall_func rfl ent_96) rfl rfl rfl (fun w hm => ropen_calls p _ q b o cap w (hS.mono (by decide) hm (by simp)) hl) (RunK.toA (.cons (.there .here) rfl (.cons (.there .here) rfl .nil)) (.cons .here rfl (.cons .here rfl .nil)) rfl ?_)
      refine RunA.val (i := 5) rfl (by kernel_rfl) (by kernel_rfl) (Val.pure rfl) rfl rfl rfl (fun _ _ _ h => h) (.cons (.there .here) rfl (.cons (.there .here) rfl .nil)) rfl ?_
      refine RunA.val (i := 6) rfl (by kernel_rfl) (by kernel_rfl) (Val.pure rfl) rfl rfl rfl (fun _ _ _ h => h) (.cons (.there .here) rfl (.cons (.there .here) rfl .nil)) rfl ?_
      refine RunA.val (i := 7) rfl (by kernel_rfl) (by kernel_rfl) (Val.pure rfl) rfl rfl rfl (fun _ _ _ h => h) (.cons (.there .here) rfl (.cons (.there .here) rfl .nil)) rfl ?_
      refine RunA.one (i := 9) (by kernel_rfl) (by kernel_rfl) ?_
      refine RunI.sto rfl (Sto.store rfl rfl .here ty_23 rfl rfl) rfl rfl (RunK.toA (.cons (.there .here) rfl (.cons (.there .here) rfl .nil)) (.cons .here rfl (.cons .here rfl .nil)) rfl ?_)
      refine RunA.toB (by kernel_rfl) ?_
      refine RunB.one (i := 10) (by kernel_rfl) ?_
      refine RunI.val rfl (Val.pure rfl) rfl rfl rfl (RunK.toB ?_)
      refine RunB.done (by kernel_rfl) ?_
      exact RunE.join1 b6 (Sub.cons (t := 7) rfl (Sub.cons (t := 6) rfl (Sub.cons (t := 18) rfl (Sub.cons (t := 17) rfl (Sub.cons (t := 11) rfl (Sub.cons (t := 16) rfl (Sub.cons (t := 15) rfl (Sub.cons (t := 14) rfl (Sub.cons (t := 13) rfl (Sub.cons (t := 12) rfl (Sub.skip rfl (Sub.skip rfl (Sub.skip rfl (Sub.skip rfl (Sub.skip rfl (Sub.skip rfl (Sub.skip rfl (Sub.skip rfl (Sub.skip rfl (Sub.skip rfl (Sub.refl _))))))))))))))))))))) (.cons .here rfl (.cons .here rfl (.cons .here rfl .nil)))
  refine J1.out (fun b6 => ?_)
  refine RunE.next ?_
  refine RunC.seq ?_
  refine RunC.seq ?_
  refine RunC.region ?_
  refine RunL.val (Val.pure rfl) rfl rfl rfl ?_
  refine RunL.val (Val.pure rfl) rfl rfl rfl ?_
  refine RunL.nil ?_
  refine RunE.next ?_
  refine RunC.cond rfl ?_ ?_
  · intro c0
    have c0' := c0; clear c0
    try simp only [decide_eq_true_eq, decide_eq_false_iff_not, Bool.not_eq_true', Bool.not_eq_false', Bool.and_eq_true, Bool.or_eq_true, Bool.and_eq_false_iff, Bool.or_eq_false_iff, Int.not_le, Int.not_lt] at c0'
    refine RunC.seq ?_
    refine RunC.region ?_
    refine RunL.val (Val.build (parts := []) rfl zero_23 places_23 rfl) rfl rfl rfl ?_
    refine RunL.val (Val.pure rfl) rfl rfl rfl ?_
    refine RunL.sto (Sto.store rfl rfl (.there .here) ty_23 rfl rfl) rfl rfl ?_
    refine RunL.val (Val.pure rfl) rfl rfl rfl ?_
    refine RunL.nil ?_
    refine RunE.next ?_
    refine RunC.ret ?_
    refine RunE.pass_ret ?_
    exact RunE.retP (.r2 rfl (.agg rfl (.tail _ (.head _)) ty_23 rfl) (.tmp rfl)) (by rw [hs] at c0' ⊢; simp [distR, hs, c0', b2v])
  · intro c0
    have c0' := c0; clear c0
    try simp only [decide_eq_true_eq, decide_eq_false_iff_not, Bool.not_eq_true', Bool.not_eq_false', Bool.and_eq_true, Bool.or_eq_true, Bool.and_eq_false_iff, Bool.or_eq_false_iff, Int.not_le, Int.not_lt] at c0'
    rw [hs] at c0'
    obtain ⟨hip, hv, hse, hb1, hb2, hb3⟩ := openR_bd hs c0'
    have hp := isPair_ok hip
    have n1 := hp.n1
    rw [hs]
    obtain ⟨k, rfl, hk⟩ := thingR_in hv
    obtain ⟨t, ht⟩ : ∃ t, p.things[k] = t := ⟨_, rfl⟩
    have hth := hp.ths _ (List.getElem_mem hk)
    rw [ht] at hth
    have htk := thingAt_eq hk ht
    have bd := hth.1
    have n2 := hp.n2
    have n3 := hp.n3
    refine RunC.skip ?_
    refine RunE.next ?_
    refine RunC.seq ?_
    refine RunC.region ?_
    refine RunL.val (Val.fieldAddr rfl fld_26_5) rfl rfl rfl ?_
    refine RunL.val (Val.load_one rfl (.tail _ (.tail _ (.head _))) ty_24 rfl) rfl rfl rfl ?_
    refine RunL.val (Val.pure rfl) rfl rfl rfl ?_
    refine RunL.val (Val.indexAddr_slp rfl rfl sl_24 (by omega) (by omega) (hS.ptrM hk)) rfl rfl rfl ?_
    refine RunL.val (Val.load_gen rfl (fun w hm => hS.loadX (by decide) hm (by simp) ty_54 hk ht)) rfl rfl rfl ?_
    refine RunL.new (New.alloc zero_54) rfl rfl rfl (fun b8 => ?_)
    refine RunL.sto (Sto.store rfl rfl .here ty_54 rfl rfl) rfl rfl ?_
    refine RunL.nil ?_
    refine RunE.next ?_
    refine RunC.seq ?_
    refine RunC.seq ?_
    refine RunC.draw 4 fol_ (.cons .here rfl (.cons .here rfl (.cons .here rfl (.cons .here rfl .nil)))) ?_
    refine RunA.val (i := 0) rfl (by kernel_rfl) (by kernel_rfl) (Val.load_agg rfl (.tail _ (.head _)) ty_23 rfl) rfl rfl rfl (fun _ _ _ h => h) (.cons .here rfl (.cons .here rfl (.cons .here rfl (.cons .here rfl .nil)))) rfl ?_
    refine RunA.val (i := 1) rfl (by kernel_rfl) (by kernel_rfl) (Val.load_agg rfl (.tail _ (.tail _ (.tail _ (.head _)))) ty_26 rfl) rfl rfl rfl (fun _ _ _ h => h) (.cons .here rfl (.cons .here rfl (.cons .here rfl (.cons .here rfl .nil)))) rfl ?_
    refine RunA.val (i := 2) rfl (by kernel_rfl) (by kernel_rfl) (Val.load_agg rfl (.head _) ty_54 rfl) rfl rfl rfl (fun _ _ _ h => h) (.cons .here rfl (.cons .here rfl (.cons .here rfl (.cons .here rfl .nil)))) rfl ?_
    refine RunA.one (i := 3) (by kernel_rfl) (by kernel_rfl) ?_
    refine RunI.callP rfl (isCall_func rfl ent_100) rfl rfl rfl (fun w hm => rPowers_calls p hp q cap t hth.1 hth.2 w) (RunK.toA (.cons .here rfl (.cons .here rfl (.cons .here rfl (.cons .here rfl .nil)))) (.cons .here rfl (.cons .here rfl (.cons .here rfl (.cons .here rfl .nil)))) rfl ?_)
    refine RunA.toB (by kernel_rfl) ?_
    refine RunB.one (i := 4) (by kernel_rfl) ?_
    refine RunI.callP rfl (isCall_func rfl ent_99) rfl rfl rfl (fun w hm => rcommon_calls (_, _) (_, _) w) (RunK.toB ?_)
    refine RunB.one (i := 5) (by kernel_rfl) ?_
    refine RunI.callP rfl (isCall_func rfl ent_98) rfl rfl rfl (fun w hm => rEmpty_calls (_, _) w) (RunK.toB ?_)
    refine RunB.done (by kernel_rfl) ?_
    refine RunE.next ?_
    refine RunC.cond rfl ?_ ?_
    · intro c1
      have c1' := c1; clear c1
      try simp only [decide_eq_true_eq, decide_eq_false_iff_not, Bool.not_eq_true', Bool.not_eq_false', Bool.and_eq_true, Bool.or_eq_true, Bool.and_eq_false_iff, Bool.or_eq_false_iff, Int.not_le, Int.not_lt] at c1'
      refine RunC.seq ?_
      refine RunC.region ?_
      refine RunL.val (Val.build (parts := []) rfl zero_23 places_23 rfl) rfl rfl rfl ?_
      refine RunL.sto (Sto.store rfl rfl (.there (.there .here)) ty_23 rfl rfl) rfl rfl ?_
      refine RunL.val (Val.pure rfl) rfl rfl rfl ?_
      refine RunL.nil ?_
      refine RunE.next ?_
      refine RunC.ret ?_
      refine RunE.pass_ret ?_
      exact RunE.retP (.r2 rfl (.agg rfl (.tail _ (.tail _ (.head _))) ty_23 rfl) (.tmp rfl)) (by have c : isB (nar s.1 (powersR p t)) = false := c1'; simp [distR, hs, c0', htk, c, b2v])
    · intro c1
      have c1' := c1; clear c1
      try simp only [decide_eq_true_eq, decide_eq_false_iff_not, Bool.not_eq_true', Bool.not_eq_false', Bool.and_eq_true, Bool.or_eq_true, Bool.and_eq_false_iff, Bool.or_eq_false_iff, Int.not_le, Int.not_lt] at c1'
      refine RunC.skip ?_
      refine RunE.next ?_
      refine RunC.seq ?_
      refine RunC.seq ?_
      refine RunC.region ?_
      refine RunL.val (Val.fieldAddr rfl fld_54_2) rfl rfl rfl ?_
      refine RunL.val (Val.load_one rfl (.head _) ty_3 rfl) rfl rfl rfl ?_
      refine RunL.val (Val.pure rfl) rfl rfl rfl ?_
      refine RunL.nil ?_
      refine RunE.next ?_
      refine RunC.cond rfl ?_ ?_
      · intro c2
        have c2' := c2; clear c2
        try simp only [decide_eq_true_eq, decide_eq_false_iff_not, Bool.not_eq_true', Bool.not_eq_false', Bool.and_eq_true, Bool.or_eq_true, Bool.and_eq_false_iff, Bool.or_eq_false_iff, Int.not_le, Int.not_lt] at c2'
        refine RunC.seq ?_
        refine RunC.region ?_
        refine RunL.val (Val.fieldAddr rfl fld_54_2) rfl rfl rfl ?_
        refine RunL.val (Val.load_one rfl (.head _) ty_3 rfl) rfl rfl rfl ?_
        refine RunL.val (Val.fieldAddr rfl fld_54_2) rfl rfl rfl ?_
        refine RunL.val (Val.load_one rfl (.head _) ty_3 rfl) rfl rfl rfl ?_
        refine RunL.val (Val.build (parts := [(0, .tmp 39), (1, .tmp 41)]) rfl zero_23 places_23 rfl) rfl rfl rfl ?_
        refine RunL.sto (Sto.store rfl rfl (.there (.there .here)) ty_23 rfl rfl) rfl rfl ?_
        refine RunL.val (Val.pure rfl) rfl rfl rfl ?_
        refine RunL.nil ?_
        refine RunE.next ?_
        refine RunC.ret ?_
        refine RunE.pass_ret ?_
        exact RunE.retP (.r2 rfl (.agg rfl (.tail _ (.tail _ (.head _))) ty_23 rfl) (.tmp rfl)) (by have c : isB (nar s.1 (powersR p t)) = true := c1'; simp [distR, hs, c0', htk, c, b2v, c2'])
      · intro c2
        have c2' := c2; clear c2
        try simp only [decide_eq_true_eq, decide_eq_false_iff_not, Bool.not_eq_true', Bool.not_eq_false', Bool.and_eq_true, Bool.or_eq_true, Bool.and_eq_false_iff, Bool.or_eq_false_iff, Int.not_le, Int.not_lt] at c2'
        have cB : isB (nar s.1 (powersR p t)) = true := c1'
        obtain ⟨cS, cL, cP⟩ := powersR_isB hb1 cB
        have sb := shown_bd cS
        refine RunC.skip ?_
        refine RunE.next ?_
        refine RunC.seq ?_
        refine RunC.region ?_
        refine RunL.val (Val.load_agg rfl (.head _) ty_54 rfl) rfl rfl rfl ?_
        refine RunL.callP (isCall_func rfl ent_101) rfl rfl rfl (fun w hm => rOf_calls t hth.1 w) ?_
        refine RunL.val (Val.build (parts := [(0, .const (.int .i64 0)), (1, .const (.int .i64 2000))]) rfl zero_23 places_23 rfl) rfl rfl rfl ?_
        refine RunL.callP (isCall_func rfl ent_99) rfl rfl rfl (fun w hm => rshown_calls t w) ?_
        refine RunL.new (New.alloc zero_23) rfl rfl rfl (fun b9 => ?_)
        refine RunL.sto (Sto.store rfl rfl .here ty_23 rfl rfl) rfl rfl ?_
        refine RunL.nil ?_
        refine RunE.next ?_
        refine RunC.seq ?_
        refine RunC.draw 14 fol_ (.cons .here rfl (.cons .here rfl (.cons .here rfl (.cons .here rfl (.cons .here rfl .nil))))) ?_
        refine RunA.val (i := 0) rfl (by kernel_rfl) (by kernel_rfl) (Val.fieldAddr rfl fld_26_3) rfl rfl rfl (fun _ _ _ h => h) (.cons .here rfl (.cons .here rfl (.cons .here rfl (.cons .here rfl (.cons .here rfl .nil))))) rfl ?_
        refine RunA.val (i := 1) rfl (by kernel_rfl) (by kernel_rfl) (Val.load_one rfl (.tail _ (.tail _ (.tail _ (.tail _ (.head _))))) ty_3 rfl) rfl rfl rfl (fun _ _ _ h => h) (.cons .here rfl (.cons .here rfl (.cons .here rfl (.cons .here rfl (.cons .here rfl .nil))))) rfl ?_
        refine RunA.val (i := 2) rfl (by kernel_rfl) (by kernel_rfl) (Val.fieldAddr rfl fld_23_0) rfl rfl rfl (fun _ _ _ h => h) (.cons .here rfl (.cons .here rfl (.cons .here rfl (.cons .here rfl (.cons .here rfl .nil))))) rfl ?_
        refine RunA.val (i := 3) rfl (by kernel_rfl) (by kernel_rfl) (Val.load_one rfl (.tail _ (.tail _ (.head _))) ty_3 rfl) rfl rfl rfl (fun _ _ _ h => h) (.cons .here rfl (.cons .here rfl (.cons .here rfl (.cons .here rfl (.cons .here rfl .nil))))) rfl ?_
        refine RunA.val (i := 4) rfl (by kernel_rfl) (by kernel_rfl) (Val.fieldAddr rfl fld_23_1) rfl rfl rfl (fun _ _ _ h => h) (.cons .here rfl (.cons .here rfl (.cons .here rfl (.cons .here rfl (.cons .here rfl .nil))))) rfl ?_
        refine RunA.val (i := 5) rfl (by kernel_rfl) (by kernel_rfl) (Val.load_one rfl (.head _) ty_3 rfl) rfl rfl rfl (fun _ _ _ h => h) (.cons .here rfl (.cons .here rfl (.cons .here rfl (.cons .here rfl (.cons .here rfl .nil))))) rfl ?_
        refine RunA.val (i := 6) rfl (by kernel_rfl) (by kernel_rfl) (Val.add rfl rfl (IntWalk.i64_in _ ⟨by omega, by omega⟩)) rfl rfl rfl (fun _ _ _ h => h) (.cons .here rfl (.cons .here rfl (.cons .here rfl (.cons .here rfl (.cons .here rfl .nil))))) rfl ?_
        refine RunA.val (i := 7) rfl (by kernel_rfl) (by kernel_rfl) (Val.quo rfl rfl (by omega) (by omega) (IntWalk.i64_in _ (div_rng (by omega) (by omega) (by omega)))) rfl rfl rfl (fun _ _ _ h => h) (.cons .here rfl (.cons .here rfl (.cons .here rfl (.cons .here rfl (.cons .here rfl .nil))))) rfl ?_
        refine RunA.val (i := 8) rfl (by kernel_rfl) (by kernel_rfl) (Val.add rfl rfl (IntWalk.i64_in _ (div_rng1 (by omega) (by omega) (by omega)))) rfl rfl rfl (fun _ _ _ h => h) (.cons .here rfl (.cons .here rfl (.cons .here rfl (.cons .here rfl (.cons .here rfl .nil))))) rfl ?_
        refine RunA.val (i := 9) rfl (by kernel_rfl) (by kernel_rfl) (Val.max rfl rfl) rfl rfl rfl (fun _ _ _ h => h) (.cons .here rfl (.cons .here rfl (.cons .here rfl (.cons .here rfl (.cons .here rfl .nil))))) rfl ?_
        refine RunA.val (i := 10) rfl (by kernel_rfl) (by kernel_rfl) (Val.fieldAddr rfl fld_26_4) rfl rfl rfl (fun _ _ _ h => h) (.cons .here rfl (.cons .here rfl (.cons .here rfl (.cons .here rfl (.cons .here rfl .nil))))) rfl ?_
        refine RunA.val (i := 11) rfl (by kernel_rfl) (by kernel_rfl) (Val.load_one rfl (.tail _ (.tail _ (.tail _ (.tail _ (.head _))))) ty_3 rfl) rfl rfl rfl (fun _ _ _ h => h) (.cons .here rfl (.cons .here rfl (.cons .here rfl (.cons .here rfl (.cons .here rfl .nil))))) rfl ?_
        refine RunA.val (i := 12) rfl (by kernel_rfl) (by kernel_rfl) (Val.build (parts := [(0, .tmp 56), (1, .tmp 58)]) rfl zero_23 places_23 rfl) rfl rfl rfl (fun _ _ _ h => h) (.cons .here rfl (.cons .here rfl (.cons .here rfl (.cons .here rfl (.cons .here rfl .nil))))) rfl ?_
        refine RunA.one (i := 13) (by kernel_rfl) (by kernel_rfl) ?_
        refine RunI.new rfl (New.alloc zero_23) rfl rfl rfl (fun b10 => (RunK.toA (.cons .here rfl (.cons .here rfl (.cons .here rfl (.cons .here rfl (.cons .here rfl (.cons .here rfl .nil)))))) (.cons (.there .here) rfl (.cons (.there .here) rfl (.cons (.there .here) rfl (.cons (.there .here) rfl (.cons (.there .here) rfl .nil))))) rfl ?_))
        refine RunA.toB (by kernel_rfl) ?_
        refine RunB.one (i := 14) (by kernel_rfl) ?_
        refine RunI.sto rfl (Sto.store rfl rfl .here ty_23 rfl rfl) rfl rfl (RunK.toB ?_)
        refine RunB.done (by kernel_rfl) ?_
        refine RunE.next ?_
        refine RunC.seq ?_
        refine RunC.seq ?_
        refine RunC.region ?_
        refine RunL.val (Val.fieldAddr rfl fld_23_0) rfl rfl rfl ?_
        refine RunL.val (Val.load_one rfl (.tail _ (.head _)) ty_3 rfl) rfl rfl rfl ?_
        refine RunL.val (Val.pure rfl) rfl rfl rfl ?_
        refine RunL.nil ?_
        refine RunE.next ?_
        refine RunC.cond rfl ?_ ?_
        · intro c3
          have c3' := c3; clear c3
          try simp only [decide_eq_true_eq, decide_eq_false_iff_not, Bool.not_eq_true', Bool.not_eq_false', Bool.and_eq_true, Bool.or_eq_true, Bool.and_eq_false_iff, Bool.or_eq_false_iff, Int.not_le, Int.not_lt] at c3'
          refine RunC.draw 7 fol_ (.cons .here rfl (.cons .here rfl (.cons .here rfl (.cons .here rfl (.cons .here rfl (.cons .here rfl .nil)))))) ?_
          refine RunA.val (i := 0) rfl (by kernel_rfl) (by kernel_rfl) (Val.fieldAddr rfl fld_23_1) rfl rfl rfl (fun _ _ _ h => h) (.cons .here rfl (.cons .here rfl (.cons .here rfl (.cons .here rfl (.cons .here rfl (.cons .here rfl .nil)))))) rfl ?_
          refine RunA.val (i := 1) rfl (by kernel_rfl) (by kernel_rfl) (Val.load_one rfl (.head _) ty_3 rfl) rfl rfl rfl (fun _ _ _ h => h) (.cons .here rfl (.cons .here rfl (.cons .here rfl (.cons .here rfl (.cons .here rfl (.cons .here rfl .nil)))))) rfl ?_
          refine RunA.val (i := 2) rfl (by kernel_rfl) (by kernel_rfl) (Val.fieldAddr rfl fld_23_1) rfl rfl rfl (fun _ _ _ h => h) (.cons .here rfl (.cons .here rfl (.cons .here rfl (.cons .here rfl (.cons .here rfl (.cons .here rfl .nil)))))) rfl ?_
          refine RunA.val (i := 3) rfl (by kernel_rfl) (by kernel_rfl) (Val.load_one rfl (.tail _ (.tail _ (.tail _ (.head _)))) ty_3 rfl) rfl rfl rfl (fun _ _ _ h => h) (.cons .here rfl (.cons .here rfl (.cons .here rfl (.cons .here rfl (.cons .here rfl (.cons .here rfl .nil)))))) rfl ?_
          refine RunA.val (i := 4) rfl (by kernel_rfl) (by kernel_rfl) (Val.fieldAddr rfl fld_23_0) rfl rfl rfl (fun _ _ _ h => h) (.cons .here rfl (.cons .here rfl (.cons .here rfl (.cons .here rfl (.cons .here rfl (.cons .here rfl .nil)))))) rfl ?_
          refine RunA.val (i := 5) rfl (by kernel_rfl) (by kernel_rfl) (Val.load_one rfl (.tail _ (.head _)) ty_3 rfl) rfl rfl rfl (fun _ _ _ h => h) (.cons .here rfl (.cons .here rfl (.cons .here rfl (.cons .here rfl (.cons .here rfl (.cons .here rfl .nil)))))) rfl ?_
          refine RunA.val (i := 6) rfl (by kernel_rfl) (by kernel_rfl) (Val.quo rfl rfl (by omega) (by omega) (IntWalk.i64_in _ (div_rng (by omega) (by omega) (by omega)))) rfl rfl rfl (fun _ _ _ h => h) (.cons .here rfl (.cons .here rfl (.cons .here rfl (.cons .here rfl (.cons .here rfl (.cons .here rfl .nil)))))) rfl ?_
          refine RunA.toB (by kernel_rfl) ?_
          refine RunB.one (i := 7) (by kernel_rfl) ?_
          refine RunI.val rfl (Val.min rfl rfl) rfl rfl rfl (RunK.toB ?_)
          refine RunB.one (i := 8) (by kernel_rfl) ?_
          refine RunI.val rfl (Val.fieldAddr rfl fld_23_1) rfl rfl rfl (RunK.toB ?_)
          refine RunB.one (i := 9) (by kernel_rfl) ?_
          refine RunI.sto rfl (Sto.store rfl rfl .here ty_3 rfl rfl) rfl rfl (RunK.toB ?_)
          refine RunB.done (by kernel_rfl) ?_
          refine RunE.next ?_
          refine RunC.seq ?_
          refine RunC.region ?_
          refine RunL.val (Val.load_agg rfl (.head _) ty_23 rfl) rfl rfl rfl ?_
          refine RunL.sto (Sto.store rfl rfl (.there (.there (.there (.there .here)))) ty_23 rfl rfl) rfl rfl ?_
          refine RunL.val (Val.pure rfl) rfl rfl rfl ?_
          refine RunL.nil ?_
          refine RunE.next ?_
          refine RunC.ret ?_
          exact RunE.retP (.r2 rfl (.agg rfl (.tail _ (.tail _ (.tail _ (.tail _ (.head _))))) ty_23 rfl) (.tmp rfl)) (by have c : isB (nar s.1 (powersR p t)) = true := c1'; simp [distR, hs, c0', htk, c, b2v, c2', c3'])
        · intro c3
          have c3' := c3; clear c3
          try simp only [decide_eq_true_eq, decide_eq_false_iff_not, Bool.not_eq_true', Bool.not_eq_false', Bool.and_eq_true, Bool.or_eq_true, Bool.and_eq_false_iff, Bool.or_eq_false_iff, Int.not_le, Int.not_lt] at c3'
          refine RunC.skip ?_
          refine RunE.next ?_
          refine RunC.seq ?_
          refine RunC.region ?_
          refine RunL.val (Val.load_agg rfl (.head _) ty_23 rfl) rfl rfl rfl ?_
          refine RunL.sto (Sto.store rfl rfl (.there (.there (.there (.there .here)))) ty_23 rfl rfl) rfl rfl ?_
          refine RunL.val (Val.pure rfl) rfl rfl rfl ?_
          refine RunL.nil ?_
          refine RunE.next ?_
          refine RunC.ret ?_
          exact RunE.retP (.r2 rfl (.agg rfl (.tail _ (.tail _ (.tail _ (.tail _ (.head _))))) ty_23 rfl) (.tmp rfl)) (by have c : isB (nar s.1 (powersR p t)) = true := c1'; simp [distR, hs, c0', htk, c, b2v, c2', Int.not_lt.2 c3'])
end Go.Proofs.Ytjijeeadmhpfcaa
/- Layer 1, the plain laws: what the package answers, the reference answers. -/
set_option linter.unusedSimpArgs false
set_option linter.unusedVariables false
namespace Go.Pw1
open Go Go.Eng

theorem openX_one (p : Pr) (n : Int) : openX p [n] = if isPair p then (if thingR p n then .ok () else .error 2) else .error 1 := by
  unfold openX thingR
  split
  · cases h : within n 0 ((p.things.length : Int) - 1) <;> simp [h]
  · rfl
theorem openX_two (p : Pr) (a b : Int) : openX p [a, b] = if isPair p then (if thingR p a && thingR p b then .ok () else .error 2) else .error 1 := by
  unfold openX thingR
  split
  · cases h : within a 0 ((p.things.length : Int) - 1) <;> cases h2 : within b 0 ((p.things.length : Int) - 1) <;> simp [h, h2]
  · rfl
theorem openX_nil (p : Pr) : openX p [] = if isPair p then .ok () else .error 1 := by simp [openX]
theorem shift_same (p : Pr) (n : Int) : shiftX p n = shiftR p n := by
  unfold shiftX shiftR
  rw [openX_one]
  cases isPair p <;> cases thingR p n <;> simp
theorem nearer_same (p : Pr) (a b : Int) : nearerX p a b = nearerR p a b := by
  unfold nearerX nearerR
  rw [openX_two]
  cases isPair p <;> cases (thingR p a && thingR p b) <;> simp
theorem truthsX_eq (p : Pr) (l : List Int) (h : openX p l = if isPair p then .ok () else .error 1) : truthsX p l = if isPair p then (if isB (allS p) then .ok (allS p) else .error 4) else .error 1 := by
  unfold truthsX
  rw [h]
  cases hp : isPair p with
  | false => simp
  | true => simp only [if_true]; exact lookX_eq (isPair_ok hp)
theorem power_same (p : Pr) : powerX p = powerR p := by
  unfold powerX powerR openR
  rw [truthsX_eq p [] (openX_nil p)]
  cases isPair p <;> cases isB (allS p) <;> simp
theorem stands_same (p : Pr) (far : Int) : standsX p far = standsR p far := by
  unfold standsX standsR openR
  rw [openX_nil]
  cases hp : isPair p with
  | false => simp
  | true =>
    simp only [if_true]
    rw [lookX_eq (isPair_ok hp)]
    cases within far p.near p.far <;> cases isB (allS p) <;> simp
theorem still_eq (p : Pr) (t : Th) (w : Int × Int) : (stillS p t w).2 = isB (nar w (powersR p t)) := by
  unfold stillS powersR
  split
  · rfl
  · have h : ¬ (max w.1 1 ≤ min w.2 0) := by omega
    exact (decide_eq_false h).symm
theorem still_nar {p : Pr} {t : Th} {w : Int × Int} (h : (stillS p t w).2 = true) : (stillS p t w).1 = nar w (powersR p t) := by
  unfold stillS powersR at *
  split
  · rfl
  · rename_i h1; rw [if_neg h1] at h; cases h
theorem allS_bd {p : Pr} (hp : p.Ok) : 1 ≤ (allS p).1 ∧ (allS p).2 ≤ 500000000 := by
  have hb := powers0_le hp
  have hle := allL_le p p.things (powers0 p)
  rw [show allL p (powers0 p) p.things = allS p from rfl] at hle
  omega
theorem truthsX_one (p : Pr) (n : Int) : truthsX p [n] = if isPair p then (if thingR p n then (if isB (allS p) then .ok (allS p) else .error 4) else .error 2) else .error 1 := by
  unfold truthsX
  rw [openX_one]
  cases hp : isPair p with
  | false => simp
  | true =>
    cases thingR p n with
    | false => simp
    | true => simp only [if_true]; exact lookX_eq (isPair_ok hp)
theorem whyS_eq (p : Pr) (t : Th) (w : Int × Int) : whyS p t w = if isB (nar w (powersR p t)) then 0 else if !levelS p t then 1 else if (shift t).2 < 0 then 2 else if 2000 < (shift t).1 ∨ w.2 < (shift t).1 * p.near then 3 else 4 := by
  unfold whyS
  rw [still_eq]
  split
  · rfl
  · simp only [idxF, id]
    cases levelS p t
    · simp
    · by_cases h2 : (shift t).2 < 0
      · simp [h2]
      · by_cases h3 : 2000 < (shift t).1 ∨ w.2 < (shift t).1 * p.near
        · simp [h2, h3]
        · simp [h2, h3]
theorem why_same (p : Pr) (n : Int) : whyX p n = whyR p n := by
  unfold whyX whyR openR
  rw [truthsX_one]
  cases isPair p with
  | false => simp
  | true =>
    cases thingR p n with
    | false => simp
    | true =>
      cases isB (allS p) with
      | false => simp
      | true =>
        simp only [if_true, whyS_eq, ne_eq, not_true_eq_false, if_false]
        split
        · rfl
        · split
          · rfl
          · split
            · rfl
            · split <;> rfl
theorem dist_same (p : Pr) (n : Int) : distX p n = distR p n := by
  unfold distX distR openR
  rw [truthsX_one]
  cases isPair p with
  | false => simp
  | true =>
    cases thingR p n with
    | false => simp
    | true =>
      cases isB (allS p) with
      | false => simp
      | true =>
        simp only [if_true, still_eq, ne_eq, not_true_eq_false, if_false]
        cases isB (nar (allS p) (powersR p (thingAt p n))) with
        | false => simp
        | true =>
          simp only [if_true]
          by_cases h : (thingAt p n).far = 0
          · by_cases h2 : 0 < (shownS (thingAt p n)).1
            · simp [h, h2, nar]
            · simp [h, h2, nar]
          · simp [h]
end Go.Pw1
/- Walks of the reference of layer 5: whether a glacier is one, and what is open. -/
set_option linter.unusedSimpArgs false
set_option linter.unusedVariables false
namespace Go.Proofs.Ytjijeeadmhpfcaa
open Go Go.Eng Go.Pw1

def glacierR (g : Gl) : Bool := isPair g.f && isPair g.s && decide ((g.f.things.length : Int) = (g.s.things.length : Int)) && within g.d1 0 65536 && within g.d2 (g.d1 + 1) 65536
theorem rGlacier_calls (g : Gl) (a : Ga) (W : World) (hG : GIn W g a) : Calls Try.prog 23 #[g.v a] W (Pure (.bool (glacierR g)) W) := by
  refine calls_start Try.func23 rfl rfl ?_
  refine RunC.seq ?_
  refine RunC.region ?_
  refine RunL.new (New.box rfl) rfl rfl rfl (fun b1 => ?_)
  refine RunL.val (Val.pure rfl) rfl rfl rfl ?_
  refine RunL.nil ?_
  refine RunE.next ?_
  refine RunC.seq ?_
  refine RunC.region ?_
  refine RunL.val (Val.fieldAddr rfl fld_28_0) rfl rfl rfl ?_
  refine RunL.val (Val.load_agg rfl (.head _) ty_26 rfl) rfl rfl rfl ?_
  refine RunL.callP (isCall_func rfl ent_60) rfl rfl rfl (fun w hm => rPair_calls g.f a.q1 a.b1 a.o1 a.c1 w (hG.mono hm).s1 hG.l1) ?_
  refine RunL.val (Val.pure rfl) rfl rfl rfl ?_
  refine RunL.andPart (dj := 6) (dp := 10) 4 rfl (fun g6 => by
    have g6' := g6
    try simp only [decide_eq_true_eq, decide_eq_false_iff_not, Bool.not_eq_true', Bool.not_eq_false', Bool.and_eq_true, Bool.or_eq_true, Bool.and_eq_false_iff, Bool.or_eq_false_iff, Int.not_le, Int.not_lt] at g6'
    refine RunL.val (Val.fieldAddr rfl fld_28_1) rfl rfl rfl ?_
    refine RunL.val (Val.load_agg rfl (.head _) ty_26 rfl) rfl rfl rfl ?_
    refine RunL.callP (isCall_func rfl ent_60) rfl rfl rfl (fun w hm => rPair_calls g.s a.q2 a.b2 a.o2 a.c2 w (hG.mono hm).s2 hG.l2) ?_
    refine RunL.val (Val.pure rfl) rfl rfl rfl ?_
    exact RunL.segEnd (Sub.cons rfl (Sub.skip rfl (Sub.skip rfl (Sub.skip rfl (Sub.skip rfl (Sub.same rfl (by rw [g6]) (Sub.refl _))))))) (List.Sublist.refl _)
  ) (fun g6 => by
    have g6' := g6
    try simp only [decide_eq_true_eq, decide_eq_false_iff_not, Bool.not_eq_true', Bool.not_eq_false', Bool.and_eq_true, Bool.or_eq_true, Bool.and_eq_false_iff, Bool.or_eq_false_iff, Int.not_le, Int.not_lt] at g6'
    iterate 3 refine RunL.no rfl rfl rfl ?_
    refine RunL.val (Val.pure rfl) rfl rfl rfl ?_
    exact RunL.segEnd (Sub.cons rfl (Sub.skip rfl (Sub.skip rfl (Sub.skip rfl (Sub.skip rfl (Sub.same rfl (by rw [g6]) (Sub.refl _))))))) (List.Sublist.refl _)
  ) ?_
  refine RunL.val (Val.pure rfl) rfl rfl rfl ?_
  refine RunL.andPart (dj := 11) (dp := 21) 10 rfl (fun g11 => by
    have g11' := g11
    try simp only [decide_eq_true_eq, decide_eq_false_iff_not, Bool.not_eq_true', Bool.not_eq_false', Bool.and_eq_true, Bool.or_eq_true, Bool.and_eq_false_iff, Bool.or_eq_false_iff, Int.not_le, Int.not_lt] at g11'
    refine RunL.val (Val.fieldAddr rfl fld_28_0) rfl rfl rfl ?_
    refine RunL.val (Val.fieldAddr rfl fld_26_5) rfl rfl rfl ?_
    refine RunL.val (Val.load_one rfl (.head _) ty_24 rfl) rfl rfl rfl ?_
    refine RunL.val (Val.len_sl rfl sl_24) rfl rfl rfl ?_
    refine RunL.val (Val.fieldAddr rfl fld_28_1) rfl rfl rfl ?_
    refine RunL.val (Val.fieldAddr rfl fld_26_5) rfl rfl rfl ?_
    refine RunL.val (Val.load_one rfl (.head _) ty_24 rfl) rfl rfl rfl ?_
    refine RunL.val (Val.len_sl rfl sl_24) rfl rfl rfl ?_
    refine RunL.val (Val.pure rfl) rfl rfl rfl ?_
    refine RunL.val (Val.pure rfl) rfl rfl rfl ?_
    exact RunL.segEnd (Sub.cons rfl (Sub.skip rfl (Sub.skip rfl (Sub.skip rfl (Sub.skip rfl (Sub.skip rfl (Sub.skip rfl (Sub.skip rfl (Sub.skip rfl (Sub.skip rfl (Sub.skip rfl (Sub.same rfl (by rw [g11]) (Sub.refl _))))))))))))) (List.Sublist.refl _)
  ) (fun g11 => by
    have g11' := g11
    try simp only [decide_eq_true_eq, decide_eq_false_iff_not, Bool.not_eq_true', Bool.not_eq_false', Bool.and_eq_true, Bool.or_eq_true, Bool.and_eq_false_iff, Bool.or_eq_false_iff, Int.not_le, Int.not_lt] at g11'
    iterate 9 refine RunL.no rfl rfl rfl ?_
    refine RunL.val (Val.pure rfl) rfl rfl rfl ?_
    exact RunL.segEnd (Sub.cons rfl (Sub.skip rfl (Sub.skip rfl (Sub.skip rfl (Sub.skip rfl (Sub.skip rfl (Sub.skip rfl (Sub.skip rfl (Sub.skip rfl (Sub.skip rfl (Sub.skip rfl (Sub.same rfl (by rw [g11]) (Sub.refl _))))))))))))) (List.Sublist.refl _)
  ) ?_
  refine RunL.val (Val.pure rfl) rfl rfl rfl ?_
  refine RunL.andPart (dj := 22) (dp := 26) 4 rfl (fun g22 => by
    have g22' := g22
    try simp only [decide_eq_true_eq, decide_eq_false_iff_not, Bool.not_eq_true', Bool.not_eq_false', Bool.and_eq_true, Bool.or_eq_true, Bool.and_eq_false_iff, Bool.or_eq_false_iff, Int.not_le, Int.not_lt] at g22'
    refine RunL.val (Val.fieldAddr rfl fld_28_2) rfl rfl rfl ?_
    refine RunL.val (Val.load_one rfl (.head _) ty_3 rfl) rfl rfl rfl ?_
    refine RunL.callP (isCall_func rfl ent_61) rfl rfl rfl (fun w hm => rin5_calls _ _ _ w) ?_
    refine RunL.val (Val.pure rfl) rfl rfl rfl ?_
    exact RunL.segEnd (Sub.cons rfl (Sub.skip rfl (Sub.skip rfl (Sub.skip rfl (Sub.skip rfl (Sub.same rfl (by rw [g22]) (Sub.refl _))))))) (List.Sublist.refl _)
  ) (fun g22 => by
    have g22' := g22
    try simp only [decide_eq_true_eq, decide_eq_false_iff_not, Bool.not_eq_true', Bool.not_eq_false', Bool.and_eq_true, Bool.or_eq_true, Bool.and_eq_false_iff, Bool.or_eq_false_iff, Int.not_le, Int.not_lt] at g22'
    iterate 3 refine RunL.no rfl rfl rfl ?_
    refine RunL.val (Val.pure rfl) rfl rfl rfl ?_
    exact RunL.segEnd (Sub.cons rfl (Sub.skip rfl (Sub.skip rfl (Sub.skip rfl (Sub.skip rfl (Sub.same rfl (by rw [g22]) (Sub.refl _))))))) (List.Sublist.refl _)
  ) ?_
  refine RunL.val (Val.pure rfl) rfl rfl rfl ?_
  refine RunL.andPart (dj := 27) (dp := 34) 7 rfl (fun g27 => by
    have g27' := g27
    try simp only [decide_eq_true_eq, decide_eq_false_iff_not, Bool.not_eq_true', Bool.not_eq_false', Bool.and_eq_true, Bool.or_eq_true, Bool.and_eq_false_iff, Bool.or_eq_false_iff, Int.not_le, Int.not_lt] at g27'
    refine RunL.val (Val.fieldAddr rfl fld_28_3) rfl rfl rfl ?_
    refine RunL.val (Val.load_one rfl (.head _) ty_3 rfl) rfl rfl rfl ?_
    refine RunL.val (Val.fieldAddr rfl fld_28_2) rfl rfl rfl ?_
    refine RunL.val (Val.load_one rfl (.head _) ty_3 rfl) rfl rfl rfl ?_
    simp only [within, Bool.and_eq_true, decide_eq_true_eq] at g27'
    refine RunL.val (Val.add rfl rfl (IntWalk.i64_in _ ⟨by omega, by omega⟩)) rfl rfl rfl ?_
    refine RunL.callP (isCall_func rfl ent_61) rfl rfl rfl (fun w hm => rin5_calls _ _ _ w) ?_
    refine RunL.val (Val.pure rfl) rfl rfl rfl ?_
    exact RunL.segEnd (Sub.cons rfl (Sub.skip rfl (Sub.skip rfl (Sub.skip rfl (Sub.skip rfl (Sub.skip rfl (Sub.skip rfl (Sub.skip rfl (Sub.same rfl (by rw [g27]) (Sub.refl _)))))))))) (List.Sublist.refl _)
  ) (fun g27 => by
    have g27' := g27
    try simp only [decide_eq_true_eq, decide_eq_false_iff_not, Bool.not_eq_true', Bool.not_eq_false', Bool.and_eq_true, Bool.or_eq_true, Bool.and_eq_false_iff, Bool.or_eq_false_iff, Int.not_le, Int.not_lt] at g27'
    iterate 6 refine RunL.no rfl rfl rfl ?_
    refine RunL.val (Val.pure rfl) rfl rfl rfl ?_
    exact RunL.segEnd (Sub.cons rfl (Sub.skip rfl (Sub.skip rfl (Sub.skip rfl (Sub.skip rfl (Sub.skip rfl (Sub.skip rfl (Sub.skip rfl (Sub.same rfl (by rw [g27]) (Sub.refl _)))))))))) (List.Sublist.refl _)
  ) ?_
  refine RunL.val (Val.pure rfl) rfl rfl rfl ?_
  refine RunL.nil ?_
  refine RunE.next ?_
  refine RunC.ret ?_
  exact RunE.retP (.r1 rfl (.tmp rfl)) (by first | rfl | simp)
def openR5 (g : Gl) (valid : Bool) : Int := if glacierR g then (if valid then (if (powerR g.f).2 = 0 then (powerR g.s).2 else (powerR g.f).2) else 2) else 1
theorem ropen5_calls (g : Gl) (a : Ga) (valid : Bool) (W : World) (hG : GIn W g a) : Calls Try.prog 75 #[g.v a, .bool valid] W (Pure (.int .i64 (openR5 g valid)) W) := by
  refine calls_start Try.func75 rfl rfl ?_
  refine RunC.seq ?_
  refine RunC.region ?_
  refine RunL.new (New.box rfl) rfl rfl rfl (fun b2 => ?_)
  refine RunL.val (Val.pure rfl) rfl rfl rfl ?_
  refine RunL.nil ?_
  refine RunE.next ?_
  refine RunC.seq ?_
  refine RunC.seq ?_
  refine RunC.region ?_
  refine RunL.val (Val.load_agg rfl (.head _) ty_28 rfl) rfl rfl rfl ?_
  refine RunL.callP (isCall_func rfl ent_23) rfl rfl rfl (fun w hm => rGlacier_calls g a w (hG.mono hm)) ?_
  refine RunL.val (Val.pure rfl) rfl rfl rfl ?_
  refine RunL.nil ?_
  refine RunE.next ?_
  refine RunC.cond rfl ?_ ?_
  · intro c0
    have c0' := c0; clear c0
    try simp only [decide_eq_true_eq, decide_eq_false_iff_not, Bool.not_eq_true', Bool.not_eq_false', Bool.and_eq_true, Bool.or_eq_true, Bool.and_eq_false_iff, Bool.or_eq_false_iff, Int.not_le, Int.not_lt] at c0'
    refine RunC.seq ?_
    refine RunC.region ?_
    refine RunL.val (Val.pure rfl) rfl rfl rfl ?_
    refine RunL.nil ?_
    refine RunE.next ?_
    refine RunC.ret ?_
    refine RunE.pass_ret ?_
    exact RunE.retP (.r1 rfl (.tmp rfl)) (by simp_all [openR5])
  · intro c0
    have c0' := c0; clear c0
    try simp only [decide_eq_true_eq, decide_eq_false_iff_not, Bool.not_eq_true', Bool.not_eq_false', Bool.and_eq_true, Bool.or_eq_true, Bool.and_eq_false_iff, Bool.or_eq_false_iff, Int.not_le, Int.not_lt] at c0'
    refine RunC.skip ?_
    refine RunE.next ?_
    refine RunC.seq ?_
    refine RunC.seq ?_
    refine RunC.region ?_
    refine RunL.val (Val.pure rfl) rfl rfl rfl ?_
    refine RunL.val (Val.pure rfl) rfl rfl rfl ?_
    refine RunL.nil ?_
    refine RunE.next ?_
    refine RunC.cond rfl ?_ ?_
    · intro c1
      have c1' := c1; clear c1
      try simp only [decide_eq_true_eq, decide_eq_false_iff_not, Bool.not_eq_true', Bool.not_eq_false', Bool.and_eq_true, Bool.or_eq_true, Bool.and_eq_false_iff, Bool.or_eq_false_iff, Int.not_le, Int.not_lt] at c1'
      refine RunC.seq ?_
      refine RunC.region ?_
      refine RunL.val (Val.pure rfl) rfl rfl rfl ?_
      refine RunL.nil ?_
      refine RunE.next ?_
      refine RunC.ret ?_
      refine RunE.pass_ret ?_
      exact RunE.retP (.r1 rfl (.tmp rfl)) (by simp_all [openR5])
    · intro c1
      have c1' := c1; clear c1
      try simp only [decide_eq_true_eq, decide_eq_false_iff_not, Bool.not_eq_true', Bool.not_eq_false', Bool.and_eq_true, Bool.or_eq_true, Bool.and_eq_false_iff, Bool.or_eq_false_iff, Int.not_le, Int.not_lt] at c1'
      refine RunC.skip ?_
      refine RunE.next ?_
      refine RunC.seq ?_
      refine RunC.region ?_
      refine RunL.val (Val.fieldAddr rfl fld_28_0) rfl rfl rfl ?_
      refine RunL.val (Val.load_agg rfl (.head _) ty_26 rfl) rfl rfl rfl ?_
      refine RunL.callP (isCall_func rfl ent_92) rfl rfl rfl (fun w hm => rPower_calls g.f a.q1 a.b1 a.o1 a.c1 w (hG.mono hm).s1 hG.l1) ?_
      iterate 3 refine RunL.val (Val.pure rfl) rfl rfl rfl ?_
      refine RunL.new (New.alloc zero_23) rfl rfl rfl (fun b5 => ?_)
      refine RunL.sto (Sto.store rfl rfl .here ty_23 rfl rfl) rfl rfl ?_
      refine RunL.val (Val.pure rfl) rfl rfl rfl ?_
      refine RunL.nil ?_
      refine RunE.next ?_
      refine RunC.seq ?_
      refine RunC.seq ?_
      refine RunC.region ?_
      refine RunL.val (Val.pure rfl) rfl rfl rfl ?_
      refine RunL.val (Val.pure rfl) rfl rfl rfl ?_
      refine RunL.nil ?_
      refine RunE.next ?_
      refine RunC.cond rfl ?_ ?_
      · intro c2
        have c2' := c2; clear c2
        try simp only [decide_eq_true_eq, decide_eq_false_iff_not, Bool.not_eq_true', Bool.not_eq_false', Bool.and_eq_true, Bool.or_eq_true, Bool.and_eq_false_iff, Bool.or_eq_false_iff, Int.not_le, Int.not_lt] at c2'
        refine RunC.seq ?_
        refine RunC.region ?_
        refine RunL.val (Val.pure rfl) rfl rfl rfl ?_
        refine RunL.val (Val.pure rfl) rfl rfl rfl ?_
        refine RunL.nil ?_
        refine RunE.next ?_
        refine RunC.ret ?_
        refine RunE.pass_ret ?_
        exact RunE.retP (.r1 rfl (.tmp rfl)) (by simp_all [openR5])
      · intro c2
        have c2' := c2; clear c2
        try simp only [decide_eq_true_eq, decide_eq_false_iff_not, Bool.not_eq_true', Bool.not_eq_false', Bool.and_eq_true, Bool.or_eq_true, Bool.and_eq_false_iff, Bool.or_eq_false_iff, Int.not_le, Int.not_lt] at c2'
        refine RunC.skip ?_
        refine RunE.next ?_
        refine RunC.seq ?_
        refine RunC.region ?_
        refine RunL.val (Val.fieldAddr rfl fld_28_1) rfl rfl rfl ?_
        refine RunL.val (Val.load_agg rfl (.tail _ (.head _)) ty_26 rfl) rfl rfl rfl ?_
        refine RunL.callP (isCall_func rfl ent_92) rfl rfl rfl (fun w hm => rPower_calls g.s a.q2 a.b2 a.o2 a.c2 w (hG.mono hm).s2 hG.l2) ?_
        iterate 4 refine RunL.val (Val.pure rfl) rfl rfl rfl ?_
        refine RunL.nil ?_
        refine RunE.next ?_
        refine RunC.seq ?_
        refine RunC.region ?_
        refine RunL.val (Val.pure rfl) rfl rfl rfl ?_
        refine RunL.val (Val.pure rfl) rfl rfl rfl ?_
        refine RunL.nil ?_
        refine RunE.next ?_
        refine RunC.ret ?_
        exact RunE.retP (.r1 rfl (.tmp rfl)) (by simp_all [openR5])
def seenR5 (g : Gl) (n : Int) : Bool := decide ((distR g.f n).2 = 0) && decide ((distR g.s n).2 = 0)
theorem rSeen5_calls (g : Gl) (a : Ga) (n : Int) (W : World) (hG : GIn W g a) : Calls Try.prog 76 #[g.v a, .int .i64 n] W (Pure (.tuple #[b2v (distR g.f n).1, b2v (distR g.s n).1, .bool (seenR5 g n)]) W) := by
  refine calls_start Try.func76 rfl rfl ?_
  refine RunC.seq ?_
  refine RunC.region ?_
  refine RunL.new (New.box rfl) rfl rfl rfl (fun b2 => ?_)
  refine RunL.new (New.alloc zero_23) rfl rfl rfl (fun b4 => ?_)
  refine RunL.new (New.alloc zero_23) rfl rfl rfl (fun b5 => ?_)
  refine RunL.val (Val.pure rfl) rfl rfl rfl ?_
  refine RunL.nil ?_
  refine RunE.next ?_
  refine RunC.seq ?_
  refine RunC.region ?_
  refine RunL.val (Val.fieldAddr rfl fld_28_0) rfl rfl rfl ?_
  refine RunL.val (Val.load_agg rfl (.tail _ (.tail _ (.head _))) ty_26 rfl) rfl rfl rfl ?_
  refine RunL.val (Val.pure rfl) rfl rfl rfl ?_
  refine RunL.callP (isCall_func rfl ent_93) rfl rfl rfl (fun w hm => rDist_calls g.f n a.q1 a.b1 a.o1 a.c1 w (hG.mono hm).s1 hG.l1) ?_
  iterate 3 refine RunL.val (Val.pure rfl) rfl rfl rfl ?_
  refine RunL.new (New.alloc zero_23) rfl rfl rfl (fun b7 => ?_)
  refine RunL.sto (Sto.store rfl rfl .here ty_23 rfl rfl) rfl rfl ?_
  refine RunL.val (Val.pure rfl) rfl rfl rfl ?_
  refine RunL.nil ?_
  refine RunE.next ?_
  refine RunC.seq ?_
  refine RunC.region ?_
  refine RunL.val (Val.fieldAddr rfl fld_28_1) rfl rfl rfl ?_
  refine RunL.val (Val.load_agg rfl (.tail _ (.tail _ (.tail _ (.head _)))) ty_26 rfl) rfl rfl rfl ?_
  refine RunL.val (Val.pure rfl) rfl rfl rfl ?_
  refine RunL.callP (isCall_func rfl ent_93) rfl rfl rfl (fun w hm => rDist_calls g.s n a.q2 a.b2 a.o2 a.c2 w (hG.mono hm).s2 hG.l2) ?_
  iterate 3 refine RunL.val (Val.pure rfl) rfl rfl rfl ?_
  refine RunL.new (New.alloc zero_23) rfl rfl rfl (fun b9 => ?_)
  refine RunL.sto (Sto.store rfl rfl .here ty_23 rfl rfl) rfl rfl ?_
  refine RunL.val (Val.pure rfl) rfl rfl rfl ?_
  refine RunL.nil ?_
  refine RunE.next ?_
  refine RunC.seq ?_
  refine RunC.draw 10 fol_ (.cons .here rfl (.cons .here rfl (.cons (.there (.there .here)) rfl .nil))) ?_
  refine RunA.val (i := 0) rfl (by kernel_rfl) (by kernel_rfl) (Val.load_agg rfl (.tail _ (.head _)) ty_23 rfl) rfl rfl rfl (fun _ _ _ h => h) (.cons .here rfl (.cons .here rfl (.cons (.there (.there .here)) rfl .nil))) rfl ?_
  refine RunA.val (i := 1) rfl (by kernel_rfl) (by kernel_rfl) (Val.load_agg rfl (.head _) ty_23 rfl) rfl rfl rfl (fun _ _ _ h => h) (.cons .here rfl (.cons .here rfl (.cons (.there (.there .here)) rfl .nil))) rfl ?_
  refine RunA.val (i := 2) rfl (by kernel_rfl) (by kernel_rfl) (Val.pure rfl) rfl rfl rfl (fun _ _ _ h => h) (.cons .here rfl (.cons .here rfl (.cons (.there (.there .here)) rfl .nil))) rfl ?_
  refine RunA.val (i := 3) rfl (by kernel_rfl) (by kernel_rfl) (Val.pure rfl) rfl rfl rfl (fun _ _ _ h => h) (.cons .here rfl (.cons .here rfl (.cons (.there (.there .here)) rfl .nil))) rfl ?_
  refine RunA.val (i := 4) rfl (by kernel_rfl) (by kernel_rfl) (Val.pure rfl) rfl rfl rfl (fun _ _ _ h => h) (.cons .here rfl (.cons .here rfl (.cons (.there (.there .here)) rfl .nil))) rfl ?_
  refine RunA.ways (dj := 29) rfl ?_ ?_
  · intro g29
    have g29' := g29; clear g29
    try simp only [decide_eq_true_eq, decide_eq_false_iff_not, Bool.not_eq_true', Bool.not_eq_false', Bool.and_eq_true, Bool.or_eq_true, Bool.and_eq_false_iff, Bool.or_eq_false_iff, Int.not_le, Int.not_lt] at g29'
    refine RunA.val (i := 5) rfl (by kernel_rfl) (by kernel_rfl) (Val.pure rfl) rfl rfl rfl (fun _ _ _ h => h) (.cons .here rfl (.cons .here rfl (.cons (.there (.there .here)) rfl .nil))) rfl ?_
    refine RunA.val (i := 6) rfl (by kernel_rfl) (by kernel_rfl) (Val.pure rfl) rfl rfl rfl (fun _ _ _ h => h) (.cons .here rfl (.cons .here rfl (.cons (.there (.there .here)) rfl .nil))) rfl ?_
    refine RunA.val (i := 7) rfl (by kernel_rfl) (by kernel_rfl) (Val.pure rfl) rfl rfl rfl (fun _ _ _ h => h) (.cons .here rfl (.cons .here rfl (.cons (.there (.there .here)) rfl .nil))) rfl ?_
    refine RunA.one (i := 8) (by kernel_rfl) (by kernel_rfl) ?_
    refine RunI.sto rfl (Sto.store rfl rfl (.there (.there (.there .here))) ty_23 rfl rfl) rfl rfl (RunK.toA (.cons .here rfl (.cons .here rfl (.cons (.there (.there .here)) rfl .nil))) (.cons .here rfl (.cons .here rfl (.cons .here rfl .nil))) rfl ?_)
    refine RunA.one (i := 9) (by kernel_rfl) (by kernel_rfl) ?_
    refine RunI.sto rfl (Sto.store rfl rfl (.there (.there .here)) ty_23 rfl rfl) rfl rfl (RunK.toA (.cons .here rfl (.cons .here rfl (.cons (.there (.there .here)) rfl .nil))) (.cons .here rfl (.cons .here rfl (.cons .here rfl .nil))) rfl ?_)
    refine RunA.toB (by kernel_rfl) ?_
    refine RunB.one (i := 10) (by kernel_rfl) ?_
    refine RunI.val rfl (Val.pure rfl) rfl rfl rfl (RunK.toB ?_)
    refine RunB.done (by kernel_rfl) ?_
    refine RunE.next ?_
    refine RunC.ret ?_
    exact RunE.retP (.r3 rfl (.agg rfl (.tail _ (.tail _ (.tail _ (.head _)))) ty_23 rfl) (.agg rfl (.tail _ (.tail _ (.head _))) ty_23 rfl) (.tmp rfl)) (by first | rfl | simp_all [seenR5, b2v])
  · intro g29
    have g29' := g29; clear g29
    try simp only [decide_eq_true_eq, decide_eq_false_iff_not, Bool.not_eq_true', Bool.not_eq_false', Bool.and_eq_true, Bool.or_eq_true, Bool.and_eq_false_iff, Bool.or_eq_false_iff, Int.not_le, Int.not_lt] at g29'
    refine RunA.no (i := 5) rfl (by kernel_rfl) (by kernel_rfl) rfl rfl rfl (fun _ _ _ h => h) (.cons .here rfl (.cons .here rfl (.cons (.there (.there .here)) rfl .nil))) rfl ?_
    refine RunA.no (i := 6) rfl (by kernel_rfl) (by kernel_rfl) rfl rfl rfl (fun _ _ _ h => h) (.cons .here rfl (.cons .here rfl (.cons (.there (.there .here)) rfl .nil))) rfl ?_
    refine RunA.val (i := 7) rfl (by kernel_rfl) (by kernel_rfl) (Val.pure rfl) rfl rfl rfl (fun _ _ _ h => h) (.cons .here rfl (.cons .here rfl (.cons (.there (.there .here)) rfl .nil))) rfl ?_
    refine RunA.one (i := 8) (by kernel_rfl) (by kernel_rfl) ?_
    refine RunI.sto rfl (Sto.store rfl rfl (.there (.there (.there .here))) ty_23 rfl rfl) rfl rfl (RunK.toA (.cons .here rfl (.cons .here rfl (.cons (.there (.there .here)) rfl .nil))) (.cons .here rfl (.cons .here rfl (.cons .here rfl .nil))) rfl ?_)
    refine RunA.one (i := 9) (by kernel_rfl) (by kernel_rfl) ?_
    refine RunI.sto rfl (Sto.store rfl rfl (.there (.there .here)) ty_23 rfl rfl) rfl rfl (RunK.toA (.cons .here rfl (.cons .here rfl (.cons (.there (.there .here)) rfl .nil))) (.cons .here rfl (.cons .here rfl (.cons .here rfl .nil))) rfl ?_)
    refine RunA.toB (by kernel_rfl) ?_
    refine RunB.one (i := 10) (by kernel_rfl) ?_
    refine RunI.val rfl (Val.pure rfl) rfl rfl rfl (RunK.toB ?_)
    refine RunB.done (by kernel_rfl) ?_
    refine RunE.next ?_
    refine RunC.ret ?_
    exact RunE.retP (.r3 rfl (.agg rfl (.tail _ (.tail _ (.tail _ (.head _)))) ty_23 rfl) (.agg rfl (.tail _ (.tail _ (.head _))) ty_23 rfl) (.tmp rfl)) (by first | rfl | simp_all [seenR5, b2v])
end Go.Proofs.Ytjijeeadmhpfcaa
/- Walks of the reference of layer 5: what is seen of a thing. -/
set_option linter.unusedSimpArgs false
set_option linter.unusedVariables false
namespace Go.Proofs.Ytjijeeadmhpfcaa
open Go Go.Eng Go.Pw1

def seeR5 (g : Gl) (n : Int) (valid : Bool) : Z2 × Int := if openR5 g (valid && isThingG g n) = 0 then (if seenR5 g n then (((distR g.f n).1, (distR g.s n).1), 0) else (((0, 0), (0, 0)), 11)) else (((0, 0), (0, 0)), openR5 g (valid && isThingG g n))
theorem rsee5_calls (g : Gl) (a : Ga) (n : Int) (valid : Bool) (W : World) (hG : GIn W g a) : Calls Try.prog 38 #[g.v a, .int .i64 n, .bool valid] W (Pure (.tuple #[b2v (seeR5 g n valid).1.1, b2v (seeR5 g n valid).1.2, .int .i64 (seeR5 g n valid).2]) W) := by
  have hl1 := hG.l1
  refine calls_start Try.func38 rfl rfl ?_
  refine RunC.seq ?_
  refine RunC.region ?_
  refine RunL.new (New.box rfl) rfl rfl rfl (fun b3 => ?_)
  refine RunL.new (New.alloc zero_23) rfl rfl rfl (fun b6 => ?_)
  refine RunL.new (New.alloc zero_23) rfl rfl rfl (fun b7 => ?_)
  refine RunL.val (Val.pure rfl) rfl rfl rfl ?_
  refine RunL.nil ?_
  refine RunE.next ?_
  refine RunC.seq ?_
  refine RunC.draw 11 fol_ (.cons .here rfl (.cons .here rfl (.cons .here rfl .nil))) ?_
  refine RunA.val (i := 0) rfl (by kernel_rfl) (by kernel_rfl) (Val.load_agg rfl (.tail _ (.tail _ (.head _))) ty_28 rfl) rfl rfl rfl (fun _ _ _ h => h) (.cons .here rfl (.cons .here rfl (.cons .here rfl .nil))) rfl ?_
  refine RunA.val (i := 1) rfl (by kernel_rfl) (by kernel_rfl) (Val.pure rfl) rfl rfl rfl (fun _ _ _ h => h) (.cons .here rfl (.cons .here rfl (.cons .here rfl .nil))) rfl ?_
  refine RunA.val (i := 2) rfl (by kernel_rfl) (by kernel_rfl) (Val.pure rfl) rfl rfl rfl (fun _ _ _ h => h) (.cons .here rfl (.cons .here rfl (.cons .here rfl .nil))) rfl ?_
  refine RunA.ways (dj := 15) rfl ?_ ?_
  · intro g15
    have g15' := g15; clear g15
    try simp only [decide_eq_true_eq, decide_eq_false_iff_not, Bool.not_eq_true', Bool.not_eq_false', Bool.and_eq_true, Bool.or_eq_true, Bool.and_eq_false_iff, Bool.or_eq_false_iff, Int.not_le, Int.not_lt] at g15'
    refine RunA.val (i := 3) rfl (by kernel_rfl) (by kernel_rfl) (Val.pure rfl) rfl rfl rfl (fun _ _ _ h => h) (.cons .here rfl (.cons .here rfl (.cons .here rfl .nil))) rfl ?_
    refine RunA.val (i := 4) rfl (by kernel_rfl) (by kernel_rfl) (Val.fieldAddr rfl fld_28_0) rfl rfl rfl (fun _ _ _ h => h) (.cons .here rfl (.cons .here rfl (.cons .here rfl .nil))) rfl ?_
    refine RunA.val (i := 5) rfl (by kernel_rfl) (by kernel_rfl) (Val.fieldAddr rfl fld_26_5) rfl rfl rfl (fun _ _ _ h => h) (.cons .here rfl (.cons .here rfl (.cons .here rfl .nil))) rfl ?_
    refine RunA.val (i := 6) rfl (by kernel_rfl) (by kernel_rfl) (Val.load_one rfl (.tail _ (.tail _ (.head _))) ty_24 rfl) rfl rfl rfl (fun _ _ _ h => h) (.cons .here rfl (.cons .here rfl (.cons .here rfl .nil))) rfl ?_
    refine RunA.val (i := 7) rfl (by kernel_rfl) (by kernel_rfl) (Val.len_sl rfl sl_24) rfl rfl rfl (fun _ _ _ h => h) (.cons .here rfl (.cons .here rfl (.cons .here rfl .nil))) rfl ?_
    refine RunA.val (i := 8) rfl (by kernel_rfl) (by kernel_rfl) (Val.sub' rfl rfl (IntWalk.i64_in _ ⟨by omega, by omega⟩)) rfl rfl rfl (fun _ _ _ h => h) (.cons .here rfl (.cons .here rfl (.cons .here rfl .nil))) rfl ?_
    refine RunA.one (i := 9) (by kernel_rfl) (by kernel_rfl) ?_
    refine RunI.callP rfl (isCall_func rfl ent_61) rfl rfl rfl (fun w hm => rin5_calls _ _ _ w) (RunK.toA (.cons .here rfl (.cons .here rfl (.cons .here rfl .nil))) (.cons .here rfl (.cons .here rfl (.cons .here rfl .nil))) rfl ?_)
    refine RunA.val (i := 10) rfl (by kernel_rfl) (by kernel_rfl) (Val.pure rfl) rfl rfl rfl (fun _ _ _ h => h) (.cons .here rfl (.cons .here rfl (.cons .here rfl .nil))) rfl ?_
    refine RunA.toB (by kernel_rfl) ?_
    refine RunB.one (i := 11) (by kernel_rfl) ?_
    refine RunI.callP rfl (isCall_func rfl ent_75) rfl rfl rfl (fun w hm => ropen5_calls g a _ w (hG.mono hm)) (RunK.toB ?_)
    refine RunB.one (i := 12) (by kernel_rfl) ?_
    refine RunI.val rfl (Val.pure rfl) rfl rfl rfl (RunK.toB ?_)
    refine RunB.done (by kernel_rfl) ?_
    refine RunE.next ?_
    refine RunC.seq ?_
    refine RunC.seq ?_
    refine RunC.region ?_
    refine RunL.val (Val.pure rfl) rfl rfl rfl ?_
    refine RunL.val (Val.pure rfl) rfl rfl rfl ?_
    refine RunL.nil ?_
    refine RunE.next ?_
    refine RunC.cond rfl ?_ ?_
    · intro c0
      have c0' := c0; clear c0
      try simp only [decide_eq_true_eq, decide_eq_false_iff_not, Bool.not_eq_true', Bool.not_eq_false', Bool.and_eq_true, Bool.or_eq_true, Bool.and_eq_false_iff, Bool.or_eq_false_iff, Int.not_le, Int.not_lt] at c0'
      refine RunC.seq ?_
      refine RunC.region ?_
      refine RunL.val (Val.build (parts := []) rfl zero_23 places_23 rfl) rfl rfl rfl ?_
      refine RunL.val (Val.build (parts := []) rfl zero_23 places_23 rfl) rfl rfl rfl ?_
      refine RunL.val (Val.pure rfl) rfl rfl rfl ?_
      refine RunL.sto (Sto.store rfl rfl (.there .here) ty_23 rfl rfl) rfl rfl ?_
      refine RunL.sto (Sto.store rfl rfl .here ty_23 rfl rfl) rfl rfl ?_
      refine RunL.val (Val.pure rfl) rfl rfl rfl ?_
      refine RunL.nil ?_
      refine RunE.next ?_
      refine RunC.ret ?_
      refine RunE.pass_ret ?_
      exact RunE.retP (.r3 rfl (.agg rfl (.tail _ (.head _)) ty_23 rfl) (.agg rfl (.head _) ty_23 rfl) (.tmp rfl)) (by simp_all [seeR5, isThingG, b2v])
    · intro c0
      have c0' := c0; clear c0
      try simp only [decide_eq_true_eq, decide_eq_false_iff_not, Bool.not_eq_true', Bool.not_eq_false', Bool.and_eq_true, Bool.or_eq_true, Bool.and_eq_false_iff, Bool.or_eq_false_iff, Int.not_le, Int.not_lt] at c0'
      refine RunC.skip ?_
      refine RunE.next ?_
      refine RunC.seq ?_
      refine RunC.region ?_
      refine RunL.val (Val.load_agg rfl (.tail _ (.tail _ (.head _))) ty_28 rfl) rfl rfl rfl ?_
      refine RunL.val (Val.pure rfl) rfl rfl rfl ?_
      refine RunL.callP (isCall_func rfl ent_76) rfl rfl rfl (fun w hm => rSeen5_calls g a n w (hG.mono hm)) ?_
      iterate 4 refine RunL.val (Val.pure rfl) rfl rfl rfl ?_
      refine RunL.new (New.alloc zero_23) rfl rfl rfl (fun b10 => ?_)
      refine RunL.new (New.alloc zero_23) rfl rfl rfl (fun b11 => ?_)
      refine RunL.sto (Sto.store rfl rfl (.there .here) ty_23 rfl rfl) rfl rfl ?_
      refine RunL.sto (Sto.store rfl rfl .here ty_23 rfl rfl) rfl rfl ?_
      refine RunL.val (Val.pure rfl) rfl rfl rfl ?_
      refine RunL.nil ?_
      refine RunE.next ?_
      refine RunC.seq ?_
      refine RunC.seq ?_
      refine RunC.region ?_
      refine RunL.val (Val.pure rfl) rfl rfl rfl ?_
      refine RunL.val (Val.pure rfl) rfl rfl rfl ?_
      refine RunL.nil ?_
      refine RunE.next ?_
      refine RunC.cond rfl ?_ ?_
      · intro c1
        have c1' := c1; clear c1
        try simp only [decide_eq_true_eq, decide_eq_false_iff_not, Bool.not_eq_true', Bool.not_eq_false', Bool.and_eq_true, Bool.or_eq_true, Bool.and_eq_false_iff, Bool.or_eq_false_iff, Int.not_le, Int.not_lt] at c1'
        refine RunC.seq ?_
        refine RunC.region ?_
        refine RunL.val (Val.build (parts := []) rfl zero_23 places_23 rfl) rfl rfl rfl ?_
        refine RunL.val (Val.build (parts := []) rfl zero_23 places_23 rfl) rfl rfl rfl ?_
        refine RunL.sto (Sto.store rfl rfl (.there (.there (.there .here))) ty_23 rfl rfl) rfl rfl ?_
        refine RunL.sto (Sto.store rfl rfl (.there (.there .here)) ty_23 rfl rfl) rfl rfl ?_
        refine RunL.val (Val.pure rfl) rfl rfl rfl ?_
        refine RunL.nil ?_
        refine RunE.next ?_
        refine RunC.ret ?_
        refine RunE.pass_ret ?_
        exact RunE.retP (.r3 rfl (.agg rfl (.tail _ (.tail _ (.tail _ (.head _)))) ty_23 rfl) (.agg rfl (.tail _ (.tail _ (.head _))) ty_23 rfl) (.tmp rfl)) (by simp_all [seeR5, isThingG, b2v])
      · intro c1
        have c1' := c1; clear c1
        try simp only [decide_eq_true_eq, decide_eq_false_iff_not, Bool.not_eq_true', Bool.not_eq_false', Bool.and_eq_true, Bool.or_eq_true, Bool.and_eq_false_iff, Bool.or_eq_false_iff, Int.not_le, Int.not_lt] at c1'
        refine RunC.skip ?_
        refine RunE.next ?_
        refine RunC.seq ?_
        refine RunC.draw 3 fol_ (.cons .here rfl (.cons .here rfl (.cons .here rfl (.cons (.there .here) rfl .nil)))) ?_
        refine RunA.val (i := 0) rfl (by kernel_rfl) (by kernel_rfl) (Val.load_agg rfl (.tail _ (.head _)) ty_23 rfl) rfl rfl rfl (fun _ _ _ h => h) (.cons .here rfl (.cons .here rfl (.cons .here rfl (.cons (.there .here) rfl .nil)))) rfl ?_
        refine RunA.val (i := 1) rfl (by kernel_rfl) (by kernel_rfl) (Val.load_agg rfl (.head _) ty_23 rfl) rfl rfl rfl (fun _ _ _ h => h) (.cons .here rfl (.cons .here rfl (.cons .here rfl (.cons (.there .here) rfl .nil)))) rfl ?_
        refine RunA.one (i := 2) (by kernel_rfl) (by kernel_rfl) ?_
        refine RunI.sto rfl (Sto.store rfl rfl (.there (.there (.there .here))) ty_23 rfl rfl) rfl rfl (RunK.toA (.cons .here rfl (.cons .here rfl (.cons .here rfl (.cons (.there .here) rfl .nil)))) (.cons .here rfl (.cons .here rfl (.cons .here rfl (.cons .here rfl .nil)))) rfl ?_)
        refine RunA.toB (by kernel_rfl) ?_
        refine RunB.one (i := 3) (by kernel_rfl) ?_
        refine RunI.sto rfl (Sto.store rfl rfl (.there (.there .here)) ty_23 rfl rfl) rfl rfl (RunK.toB ?_)
        refine RunB.one (i := 4) (by kernel_rfl) ?_
        refine RunI.val rfl (Val.pure rfl) rfl rfl rfl (RunK.toB ?_)
        refine RunB.done (by kernel_rfl) ?_
        refine RunE.next ?_
        refine RunC.ret ?_
        exact RunE.retP (.r3 rfl (.agg rfl (.tail _ (.tail _ (.tail _ (.head _)))) ty_23 rfl) (.agg rfl (.tail _ (.tail _ (.head _))) ty_23 rfl) (.tmp rfl)) (by simp_all [seeR5, isThingG, b2v])
  · intro g15
    have g15' := g15; clear g15
    try simp only [decide_eq_true_eq, decide_eq_false_iff_not, Bool.not_eq_true', Bool.not_eq_false', Bool.and_eq_true, Bool.or_eq_true, Bool.and_eq_false_iff, Bool.or_eq_false_iff, Int.not_le, Int.not_lt] at g15'
    refine RunA.no (i := 3) rfl (by kernel_rfl) (by kernel_rfl) rfl rfl rfl (fun _ _ _ h => h) (.cons .here rfl (.cons .here rfl (.cons .here rfl .nil))) rfl ?_
    refine RunA.no (i := 4) rfl (by kernel_rfl) (by kernel_rfl) rfl rfl rfl (fun _ _ _ h => h) (.cons .here rfl (.cons .here rfl (.cons .here rfl .nil))) rfl ?_
    refine RunA.no (i := 5) rfl (by kernel_rfl) (by kernel_rfl) rfl rfl rfl (fun _ _ _ h => h) (.cons .here rfl (.cons .here rfl (.cons .here rfl .nil))) rfl ?_
    refine RunA.no (i := 6) rfl (by kernel_rfl) (by kernel_rfl) rfl rfl rfl (fun _ _ _ h => h) (.cons .here rfl (.cons .here rfl (.cons .here rfl .nil))) rfl ?_
    refine RunA.no (i := 7) rfl (by kernel_rfl) (by kernel_rfl) rfl rfl rfl (fun _ _ _ h => h) (.cons .here rfl (.cons .here rfl (.cons .here rfl .nil))) rfl ?_
    refine RunA.no (i := 8) rfl (by kernel_rfl) (by kernel_rfl) rfl rfl rfl (fun _ _ _ h => h) (.cons .here rfl (.cons .here rfl (.cons .here rfl .nil))) rfl ?_
    refine RunA.one (i := 9) (by kernel_rfl) (by kernel_rfl) ?_
    refine RunI.no rfl rfl rfl rfl (RunK.toA (.cons .here rfl (.cons .here rfl (.cons .here rfl .nil))) (.cons .here rfl (.cons .here rfl (.cons .here rfl .nil))) rfl ?_)
    refine RunA.val (i := 10) rfl (by kernel_rfl) (by kernel_rfl) (Val.pure rfl) rfl rfl rfl (fun _ _ _ h => h) (.cons .here rfl (.cons .here rfl (.cons .here rfl .nil))) rfl ?_
    refine RunA.toB (by kernel_rfl) ?_
    refine RunB.one (i := 11) (by kernel_rfl) ?_
    refine RunI.callP rfl (isCall_func rfl ent_75) rfl rfl rfl (fun w hm => ropen5_calls g a _ w (hG.mono hm)) (RunK.toB ?_)
    refine RunB.one (i := 12) (by kernel_rfl) ?_
    refine RunI.val rfl (Val.pure rfl) rfl rfl rfl (RunK.toB ?_)
    refine RunB.done (by kernel_rfl) ?_
    refine RunE.next ?_
    refine RunC.seq ?_
    refine RunC.seq ?_
    refine RunC.region ?_
    refine RunL.val (Val.pure rfl) rfl rfl rfl ?_
    refine RunL.val (Val.pure rfl) rfl rfl rfl ?_
    refine RunL.nil ?_
    refine RunE.next ?_
    refine RunC.cond rfl ?_ ?_
    · intro c0
      have c0' := c0; clear c0
      try simp only [decide_eq_true_eq, decide_eq_false_iff_not, Bool.not_eq_true', Bool.not_eq_false', Bool.and_eq_true, Bool.or_eq_true, Bool.and_eq_false_iff, Bool.or_eq_false_iff, Int.not_le, Int.not_lt] at c0'
      refine RunC.seq ?_
      refine RunC.region ?_
      refine RunL.val (Val.build (parts := []) rfl zero_23 places_23 rfl) rfl rfl rfl ?_
      refine RunL.val (Val.build (parts := []) rfl zero_23 places_23 rfl) rfl rfl rfl ?_
      refine RunL.val (Val.pure rfl) rfl rfl rfl ?_
      refine RunL.sto (Sto.store rfl rfl (.there .here) ty_23 rfl rfl) rfl rfl ?_
      refine RunL.sto (Sto.store rfl rfl .here ty_23 rfl rfl) rfl rfl ?_
      refine RunL.val (Val.pure rfl) rfl rfl rfl ?_
      refine RunL.nil ?_
      refine RunE.next ?_
      refine RunC.ret ?_
      refine RunE.pass_ret ?_
      exact RunE.retP (.r3 rfl (.agg rfl (.tail _ (.head _)) ty_23 rfl) (.agg rfl (.head _) ty_23 rfl) (.tmp rfl)) (by simp_all [seeR5, isThingG, b2v])
    · intro c0
      have c0' := c0; clear c0
      try simp only [decide_eq_true_eq, decide_eq_false_iff_not, Bool.not_eq_true', Bool.not_eq_false', Bool.and_eq_true, Bool.or_eq_true, Bool.and_eq_false_iff, Bool.or_eq_false_iff, Int.not_le, Int.not_lt] at c0'
      refine RunC.skip ?_
      refine RunE.next ?_
      refine RunC.seq ?_
      refine RunC.region ?_
      refine RunL.val (Val.load_agg rfl (.tail _ (.tail _ (.head _))) ty_28 rfl) rfl rfl rfl ?_
      refine RunL.val (Val.pure rfl) rfl rfl rfl ?_
      refine RunL.callP (isCall_func rfl ent_76) rfl rfl rfl (fun w hm => rSeen5_calls g a n w (hG.mono hm)) ?_
      iterate 4 refine RunL.val (Val.pure rfl) rfl rfl rfl ?_
      refine RunL.new (New.alloc zero_23) rfl rfl rfl (fun b10 => ?_)
      refine RunL.new (New.alloc zero_23) rfl rfl rfl (fun b11 => ?_)
      refine RunL.sto (Sto.store rfl rfl (.there .here) ty_23 rfl rfl) rfl rfl ?_
      refine RunL.sto (Sto.store rfl rfl .here ty_23 rfl rfl) rfl rfl ?_
      refine RunL.val (Val.pure rfl) rfl rfl rfl ?_
      refine RunL.nil ?_
      refine RunE.next ?_
      refine RunC.seq ?_
      refine RunC.seq ?_
      refine RunC.region ?_
      refine RunL.val (Val.pure rfl) rfl rfl rfl ?_
      refine RunL.val (Val.pure rfl) rfl rfl rfl ?_
      refine RunL.nil ?_
      refine RunE.next ?_
      refine RunC.cond rfl ?_ ?_
      · intro c1
        have c1' := c1; clear c1
        try simp only [decide_eq_true_eq, decide_eq_false_iff_not, Bool.not_eq_true', Bool.not_eq_false', Bool.and_eq_true, Bool.or_eq_true, Bool.and_eq_false_iff, Bool.or_eq_false_iff, Int.not_le, Int.not_lt] at c1'
        refine RunC.seq ?_
        refine RunC.region ?_
        refine RunL.val (Val.build (parts := []) rfl zero_23 places_23 rfl) rfl rfl rfl ?_
        refine RunL.val (Val.build (parts := []) rfl zero_23 places_23 rfl) rfl rfl rfl ?_
        refine RunL.sto (Sto.store rfl rfl (.there (.there (.there .here))) ty_23 rfl rfl) rfl rfl ?_
        refine RunL.sto (Sto.store rfl rfl (.there (.there .here)) ty_23 rfl rfl) rfl rfl ?_
        refine RunL.val (Val.pure rfl) rfl rfl rfl ?_
        refine RunL.nil ?_
        refine RunE.next ?_
        refine RunC.ret ?_
        refine RunE.pass_ret ?_
        exact RunE.retP (.r3 rfl (.agg rfl (.tail _ (.tail _ (.tail _ (.head _)))) ty_23 rfl) (.agg rfl (.tail _ (.tail _ (.head _))) ty_23 rfl) (.tmp rfl)) (by simp_all [seeR5, isThingG, b2v])
      · intro c1
        have c1' := c1; clear c1
        try simp only [decide_eq_true_eq, decide_eq_false_iff_not, Bool.not_eq_true', Bool.not_eq_false', Bool.and_eq_true, Bool.or_eq_true, Bool.and_eq_false_iff, Bool.or_eq_false_iff, Int.not_le, Int.not_lt] at c1'
        refine RunC.skip ?_
        refine RunE.next ?_
        refine RunC.seq ?_
        refine RunC.draw 3 fol_ (.cons .here rfl (.cons .here rfl (.cons .here rfl (.cons (.there .here) rfl .nil)))) ?_
        refine RunA.val (i := 0) rfl (by kernel_rfl) (by kernel_rfl) (Val.load_agg rfl (.tail _ (.head _)) ty_23 rfl) rfl rfl rfl (fun _ _ _ h => h) (.cons .here rfl (.cons .here rfl (.cons .here rfl (.cons (.there .here) rfl .nil)))) rfl ?_
        refine RunA.val (i := 1) rfl (by kernel_rfl) (by kernel_rfl) (Val.load_agg rfl (.head _) ty_23 rfl) rfl rfl rfl (fun _ _ _ h => h) (.cons .here rfl (.cons .here rfl (.cons .here rfl (.cons (.there .here) rfl .nil)))) rfl ?_
        refine RunA.one (i := 2) (by kernel_rfl) (by kernel_rfl) ?_
        refine RunI.sto rfl (Sto.store rfl rfl (.there (.there (.there .here))) ty_23 rfl rfl) rfl rfl (RunK.toA (.cons .here rfl (.cons .here rfl (.cons .here rfl (.cons (.there .here) rfl .nil)))) (.cons .here rfl (.cons .here rfl (.cons .here rfl (.cons .here rfl .nil)))) rfl ?_)
        refine RunA.toB (by kernel_rfl) ?_
        refine RunB.one (i := 3) (by kernel_rfl) ?_
        refine RunI.sto rfl (Sto.store rfl rfl (.there (.there .here)) ty_23 rfl rfl) rfl rfl (RunK.toB ?_)
        refine RunB.one (i := 4) (by kernel_rfl) ?_
        refine RunI.val rfl (Val.pure rfl) rfl rfl rfl (RunK.toB ?_)
        refine RunB.done (by kernel_rfl) ?_
        refine RunE.next ?_
        refine RunC.ret ?_
        exact RunE.retP (.r3 rfl (.agg rfl (.tail _ (.tail _ (.tail _ (.head _)))) ty_23 rfl) (.agg rfl (.tail _ (.tail _ (.head _))) ty_23 rfl) (.tmp rfl)) (by simp_all [seeR5, isThingG, b2v])
end Go.Proofs.Ytjijeeadmhpfcaa
/- Walks of the reference of layer 5: Moved, High, Heights, Sank, Rate, Day; they are what the package returns. -/
set_option linter.unusedSimpArgs false
set_option linter.unusedVariables false
namespace Go.Pw1
open Go Go.Eng
theorem powerX_cases (p : Pr) : ((powerX p).2 = 1 ∧ isPair p = false) ∨ ((powerX p).2 = 0 ∧ isPair p = true) ∨ ((powerX p).2 = 4 ∧ isPair p = true) := by
  rw [power_same]
  unfold powerR openR
  cases isPair p <;> cases isB (allS p) <;> simp
end Go.Pw1
namespace Go.Proofs.Ytjijeeadmhpfcaa
open Go Go.Eng Go.Pw1

theorem glacierR_eq (g : Gl) : glacierR g = (fitG g && !decide ((powerX g.f).2 = 1) && !decide ((powerX g.s).2 = 1)) := by
  have e : (within g.d2 (g.d1 + 1) 65536 && within g.d1 0 65536) = (within g.d1 0 65536 && within g.d2 0 65536 && decide (g.d1 < g.d2)) := by
    rw [Bool.eq_iff_iff]
    simp only [within, Bool.and_eq_true, decide_eq_true_eq]
    omega
  unfold glacierR fitG
  rcases powerX_cases g.f with ⟨h1, h2⟩ | ⟨h1, h2⟩ | ⟨h1, h2⟩ <;> rcases powerX_cases g.s with ⟨h3, h4⟩ | ⟨h3, h4⟩ | ⟨h3, h4⟩ <;> simp only [h1, h2, h3, h4] <;> (rw [Bool.eq_iff_iff] at e ⊢; simp [Bool.and_eq_true] at e ⊢; try (constructor <;> intro h <;> simp_all))
theorem openR5_eq (g : Gl) (v : Bool) : openG g v = if openR5 g v = 0 then .ok () else .error (openR5 g v) := by
  unfold openG openR5
  rw [← glacierR_eq, ← power_same, ← power_same]
  cases glacierR g with
  | false => simp
  | true =>
    cases v with
    | false => simp
    | true =>
      simp only [if_true]
      by_cases h1 : (powerX g.f).2 = 0 <;> by_cases h2 : (powerX g.s).2 = 0 <;> simp [h1, h2]
theorem open_err0 {g : Gl} {v : Bool} {k : Int} (h : openG g v = .error k) : k ≠ 0 := by
  rw [openR5_eq] at h
  split at h
  · cases h
  · rename_i h2
    intro e
    exact h2 ((Except.error.inj h).trans e)
theorem seenR5_eq (g : Gl) (n : Int) : seenR5 g n = seenG g n := by
  unfold seenR5 seenG
  rw [dist_same, dist_same]
/-- What is seen of a thing. -/
def seeG (g : Gl) (n : Int) : Z2 × Int := askG g n id ((0, 0), (0, 0))
theorem see_same (g : Gl) (n : Int) : seeR5 g n true = seeG g n := by
  unfold seeR5 seeG askG
  rw [openR5_eq, seenR5_eq, Bool.true_and]
  by_cases h : openR5 g (isThingG g n) = 0
  · rw [if_pos h, if_pos h]
    show _ = if seenG g n = true then (farG g n, (0 : Int)) else _
    unfold farG
    rw [dist_same, dist_same]
  · rw [if_neg h, if_neg h]
theorem ask_see {α : Type} (g : Gl) (n : Int) (f : Z2 → α) (none : α) : askG g n f none = if (seeG g n).2 = 0 then (f (seeG g n).1, 0) else (none, (seeG g n).2) := by
  unfold seeG askG
  cases h : openG g (isThingG g n) with
  | ok u => simp only; split <;> simp
  | error k =>
    simp [open_err0 h]
theorem seeG_ok {g : Gl} {n : Int} (h : (seeG g n).2 = 0) : openG g (isThingG g n) = .ok () ∧ seenG g n = true ∧ (seeG g n).1 = farG g n := by
  unfold seeG askG at h ⊢
  cases h2 : openG g (isThingG g n) with
  | ok u =>
    rw [h2] at h
    simp only at h ⊢
    split
    · refine ⟨?_, by assumption, ?_⟩ <;> first | rfl | trivial
    · rename_i h3; rw [if_neg h3] at h; cases h
  | error k =>
    exfalso
    rw [h2] at h
    simp only at h
    exact open_err0 h2 h
theorem seeG_zok (g : Gl) (n : Int) : Zok (seeG g n).1 := by
  by_cases h : (seeG g n).2 = 0
  · rw [(seeG_ok h).2.2]; exact farG_ok g n
  · have := ask_see g n id ((0, 0), (0, 0))
    rw [if_neg h] at this
    have e : (seeG g n).1 = ((0, 0), (0, 0)) := congrArg Prod.fst this
    rw [e]; unfold Zok; simp
theorem rsee_calls (g : Gl) (a : Ga) (n : Int) (W : World) (hG : GIn W g a) : Calls Try.prog 38 #[g.v a, .int .i64 n, .bool true] W (Pure (.tuple #[b2v (seeG g n).1.1, b2v (seeG g n).1.2, .int .i64 (seeG g n).2]) W) := by
  rw [← see_same]
  exact rsee5_calls g a n true W hG
theorem rday5_calls (g : Gl) (a : Ga) (p q goal : Int) (W : World) (hp : 0 ≤ p ∧ p ≤ 1100000000) (hq : 0 ≤ q ∧ q ≤ 1100000000) (hg : 0 ≤ goal ∧ goal ≤ 1100000000) (hd : 0 ≤ g.d1 ∧ g.d1 < g.d2 ∧ g.d2 ≤ 65536) :
    Calls Try.prog 30 #[g.v a, .int .i64 p, .int .i64 q, .int .i64 goal] W (Pure (.int .i64 (dayG g p q goal)) W) := by
  refine calls_start Try.func30 rfl rfl ?_
  refine RunC.seq ?_
  refine RunC.region ?_
  refine RunL.new (New.box rfl) rfl rfl rfl (fun b4 => ?_)
  refine RunL.val (Val.pure rfl) rfl rfl rfl ?_
  refine RunL.nil ?_
  refine RunE.next ?_
  refine RunC.seq ?_
  refine RunC.seq ?_
  refine RunC.region ?_
  iterate 3 refine RunL.val (Val.pure rfl) rfl rfl rfl ?_
  refine RunL.nil ?_
  refine RunE.next ?_
  refine RunC.cond rfl ?_ ?_
  · intro c0
    have c0' := c0; clear c0
    try simp only [decide_eq_true_eq, decide_eq_false_iff_not, Bool.not_eq_true', Bool.not_eq_false', Bool.and_eq_true, Bool.or_eq_true, Bool.and_eq_false_iff, Bool.or_eq_false_iff, Int.not_le, Int.not_lt] at c0'
    refine RunC.seq ?_
    refine RunC.region ?_
    refine RunL.val (Val.fieldAddr rfl fld_28_3) rfl rfl rfl ?_
    refine RunL.val (Val.load_one rfl (.head _) ty_3 rfl) rfl rfl rfl ?_
    refine RunL.val (Val.pure rfl) rfl rfl rfl ?_
    refine RunL.nil ?_
    refine RunE.next ?_
    refine RunC.ret ?_
    refine RunE.pass_ret ?_
    exact RunE.retP (.r1 rfl (.tmp rfl)) (by simp only [dayG]; rw [if_pos c0'])
  · intro c0
    have c0' := c0; clear c0
    try simp only [decide_eq_true_eq, decide_eq_false_iff_not, Bool.not_eq_true', Bool.not_eq_false', Bool.and_eq_true, Bool.or_eq_true, Bool.and_eq_false_iff, Bool.or_eq_false_iff, Int.not_le, Int.not_lt] at c0'
    refine RunC.skip ?_
    refine RunE.next ?_
    refine RunC.seq ?_
    refine RunC.seq ?_
    refine RunC.region ?_
    iterate 3 refine RunL.val (Val.pure rfl) rfl rfl rfl ?_
    refine RunL.nil ?_
    refine RunE.next ?_
    refine RunC.cond rfl ?_ ?_
    · intro c1
      have c1' := c1; clear c1
      try simp only [decide_eq_true_eq, decide_eq_false_iff_not, Bool.not_eq_true', Bool.not_eq_false', Bool.and_eq_true, Bool.or_eq_true, Bool.and_eq_false_iff, Bool.or_eq_false_iff, Int.not_le, Int.not_lt] at c1'
      refine RunC.seq ?_
      refine RunC.region ?_
      refine RunL.val (Val.pure rfl) rfl rfl rfl ?_
      refine RunL.nil ?_
      refine RunE.next ?_
      refine RunC.ret ?_
      refine RunE.pass_ret ?_
      exact RunE.retP (.r1 rfl (.tmp rfl)) (by simp only [dayG]; rw [if_neg (by omega), if_pos c1'])
    · intro c1
      have c1' := c1; clear c1
      try simp only [decide_eq_true_eq, decide_eq_false_iff_not, Bool.not_eq_true', Bool.not_eq_false', Bool.and_eq_true, Bool.or_eq_true, Bool.and_eq_false_iff, Bool.or_eq_false_iff, Int.not_le, Int.not_lt] at c1'
      refine RunC.skip ?_
      refine RunE.next ?_
      refine RunC.seq ?_
      refine RunC.draw 15 fol_ (.cons .here rfl .nil) ?_
      have hm1 := mul_bd (a := q - goal) (b := g.d2 - g.d1) (A := 1100000000) (B := 65536) (by omega) (by omega) (by omega) (by omega)
      have hu := ediv_bd (a := -((q - goal) * (g.d2 - g.d1))) (b := p - q) (M := 80000000000000) (by omega) (by omega)
      refine RunA.val (i := 0) rfl (by kernel_rfl) (by kernel_rfl) (Val.fieldAddr rfl fld_28_3) rfl rfl rfl (fun _ _ _ h => h) (.cons .here rfl .nil) rfl ?_
      refine RunA.val (i := 1) rfl (by kernel_rfl) (by kernel_rfl) (Val.load_one rfl (.head _) ty_3 rfl) rfl rfl rfl (fun _ _ _ h => h) (.cons .here rfl .nil) rfl ?_
      refine RunA.val (i := 2) rfl (by kernel_rfl) (by kernel_rfl) (Val.pure rfl) rfl rfl rfl (fun _ _ _ h => h) (.cons .here rfl .nil) rfl ?_
      refine RunA.val (i := 3) rfl (by kernel_rfl) (by kernel_rfl) (Val.pure rfl) rfl rfl rfl (fun _ _ _ h => h) (.cons .here rfl .nil) rfl ?_
      refine RunA.val (i := 4) rfl (by kernel_rfl) (by kernel_rfl) (Val.sub' rfl rfl (IntWalk.i64_in _ ⟨by omega, by omega⟩)) rfl rfl rfl (fun _ _ _ h => h) (.cons .here rfl .nil) rfl ?_
      refine RunA.val (i := 5) rfl (by kernel_rfl) (by kernel_rfl) (Val.fieldAddr rfl fld_28_3) rfl rfl rfl (fun _ _ _ h => h) (.cons .here rfl .nil) rfl ?_
      refine RunA.val (i := 6) rfl (by kernel_rfl) (by kernel_rfl) (Val.load_one rfl (.head _) ty_3 rfl) rfl rfl rfl (fun _ _ _ h => h) (.cons .here rfl .nil) rfl ?_
      refine RunA.val (i := 7) rfl (by kernel_rfl) (by kernel_rfl) (Val.fieldAddr rfl fld_28_2) rfl rfl rfl (fun _ _ _ h => h) (.cons .here rfl .nil) rfl ?_
      refine RunA.val (i := 8) rfl (by kernel_rfl) (by kernel_rfl) (Val.load_one rfl (.head _) ty_3 rfl) rfl rfl rfl (fun _ _ _ h => h) (.cons .here rfl .nil) rfl ?_
      refine RunA.val (i := 9) rfl (by kernel_rfl) (by kernel_rfl) (Val.sub' rfl rfl (IntWalk.i64_in _ ⟨by omega, by omega⟩)) rfl rfl rfl (fun _ _ _ h => h) (.cons .here rfl .nil) rfl ?_
      refine RunA.val (i := 10) rfl (by kernel_rfl) (by kernel_rfl) (Val.mul rfl rfl (IntWalk.i64_in _ ⟨by omega, by omega⟩)) rfl rfl rfl (fun _ _ _ h => h) (.cons .here rfl .nil) rfl ?_
      refine RunA.val (i := 11) rfl (by kernel_rfl) (by kernel_rfl) (Val.pure rfl) rfl rfl rfl (fun _ _ _ h => h) (.cons .here rfl .nil) rfl ?_
      refine RunA.val (i := 12) rfl (by kernel_rfl) (by kernel_rfl) (Val.pure rfl) rfl rfl rfl (fun _ _ _ h => h) (.cons .here rfl .nil) rfl ?_
      refine RunA.val (i := 13) rfl (by kernel_rfl) (by kernel_rfl) (Val.sub' rfl rfl (IntWalk.i64_in _ ⟨by omega, by omega⟩)) rfl rfl rfl (fun _ _ _ h => h) (.cons .here rfl .nil) rfl ?_
      refine RunA.one (i := 14) (by kernel_rfl) (by kernel_rfl) ?_
      refine RunI.callP rfl (isCall_func rfl ent_50) rfl rfl rfl (fun w hm => rup_calls _ _ (by omega) (by omega) (by omega) w) (RunK.toA (.cons .here rfl .nil) (.cons .here rfl .nil) rfl ?_)
      refine RunA.toB (by kernel_rfl) ?_
      refine RunB.one (i := 15) (by kernel_rfl) ?_
      refine RunI.val rfl (Val.add rfl rfl (IntWalk.i64_in _ ⟨by omega, by omega⟩)) rfl rfl rfl (RunK.toB ?_)
      refine RunB.one (i := 16) (by kernel_rfl) ?_
      refine RunI.val rfl (Val.pure rfl) rfl rfl rfl (RunK.toB ?_)
      refine RunB.done (by kernel_rfl) ?_
      refine RunE.next ?_
      refine RunC.seq ?_
      refine RunC.seq ?_
      refine RunC.region ?_
      refine RunL.val (Val.pure rfl) rfl rfl rfl ?_
      refine RunL.val (Val.pure rfl) rfl rfl rfl ?_
      refine RunL.nil ?_
      refine RunE.next ?_
      refine RunC.cond rfl ?_ ?_
      · intro c2
        have c2' := c2; clear c2
        try simp only [decide_eq_true_eq, decide_eq_false_iff_not, Bool.not_eq_true', Bool.not_eq_false', Bool.and_eq_true, Bool.or_eq_true, Bool.and_eq_false_iff, Bool.or_eq_false_iff, Int.not_le, Int.not_lt] at c2'
        refine RunC.seq ?_
        refine RunC.region ?_
        refine RunL.val (Val.pure rfl) rfl rfl rfl ?_
        refine RunL.nil ?_
        refine RunE.next ?_
        refine RunC.ret ?_
        refine RunE.pass_ret ?_
        exact RunE.retP (.r1 rfl (.tmp rfl)) (by simp only [dayG]; rw [if_neg (by omega), if_neg (by omega), if_pos c2'])
      · intro c2
        have c2' := c2; clear c2
        try simp only [decide_eq_true_eq, decide_eq_false_iff_not, Bool.not_eq_true', Bool.not_eq_false', Bool.and_eq_true, Bool.or_eq_true, Bool.and_eq_false_iff, Bool.or_eq_false_iff, Int.not_le, Int.not_lt] at c2'
        refine RunC.skip ?_
        refine RunE.next ?_
        refine RunC.seq ?_
        refine RunC.region ?_
        refine RunL.val (Val.pure rfl) rfl rfl rfl ?_
        refine RunL.val (Val.pure rfl) rfl rfl rfl ?_
        refine RunL.nil ?_
        refine RunE.next ?_
        refine RunC.ret ?_
        exact RunE.retP (.r1 rfl (.tmp rfl)) (by simp only [dayG]; rw [if_neg (by omega), if_neg (by omega), if_neg (by omega)])
end Go.Proofs.Ytjijeeadmhpfcaa
/- The engine: arguments that are read as data, by their shapes; and a law's statement out of its walk. No program is in sight. -/
namespace Go.Eng
open Go Go.RowKit Go.ChangeShapes Go.WideShapes Go.ChangeAt

/-- A type's shape: numbers, truth values, texts, structs of these, and slices of them. -/
inductive Sh where
  | int (k : IntKind)
  | bool
  | str
  | st (l : List Sh)
  | sl (e : Sh)
mutual
def Sh.size : Sh → Nat
  | .st l => sizes l
  | _ => 1
def sizes : List Sh → Nat
  | [] => 0
  | s :: l => s.size + sizes l
end
def offsB (P : Program) : Nat → List Field → List Sh → Bool
  | _, [], [] => true
  | o, f :: fs, s :: l => f.offset == o && P.cellsOf f.type == s.size && offsB P (o + s.size) fs l
  | _, _, _ => false
def shapeB (P : Program) : Nat → TypeId → Option Sh
  | 0, _ => none
  | n + 1, t => match P.underlying t with
    | some .bool => some .bool
    | some (.int k) => some (.int k)
    | some .string => some .str
    | some (.slice e) => match shapeB P n e with
      | some s => if P.cellsOf e = s.size ∧ 0 < s.size then some (.sl s) else none
      | none => none
    | some (.struct fs) => match fs.toList.mapM (fun f => shapeB P n f.type) with
      | some l => if offsB P 0 fs.toList l = true ∧ P.cellsOf t = sizes l then some (.st l) else none
      | none => none
    | _ => none

/-- Cells that read as a shape. -/
inductive Rd (w : World) : Sh → List Value → Prop
  | int {k : IntKind} {n : Int} (h : (Lit.int k n).wf = true) : Rd w (.int k) [.int k n]
  | bool {b : Bool} : Rd w .bool [.bool b]
  | str {s : ByteArray} (h : s.size ≤ maxLen) : Rd w .str [.string s]
  | rec0 : Rd w (.st []) []
  | recS {s : Sh} {l : List Sh} {cs ds : List Value} (h : Rd w s cs) (hl : Rd w (.st l) ds) : Rd w (.st (s :: l)) (cs ++ ds)
  | slNil {e : Sh} : Rd w (.sl e) [.slice none 0 0]
  | sl {e : Sh} {a : Addr} {cap : Nat} {xs : List (List Value)} (h : Sl w (some a) a.block a.off e.size xs) (hl : xs.length ≤ cap) (hc : cap ≤ maxLen) (hx : ∀ x ∈ xs, Rd w e x) : Rd w (.sl e) [.slice (some a) xs.length cap]
def Sh.val : Sh → List Value → Value
  | .st _, cs => .agg cs.toArray
  | _, cs => cs.headD undef
inductive RdAll (w : World) : List Sh → List Value → Prop
  | nil : RdAll w [] []
  | cons {s : Sh} {l : List Sh} {cs : List Value} {vs : List Value} (h : Rd w s cs) (hl : RdAll w l vs) : RdAll w (s :: l) (s.val cs :: vs)

theorem list_of {α : Type} {p : Nat → α → Prop} : ∀ n : Nat, (∀ i, i < n → ∃ x, p i x) → ∃ xs : List α, xs.length = n ∧ ∀ i (h : i < xs.length), p i xs[i]
  | 0, _ => ⟨[], rfl, fun i h => by simp at h⟩
  | n + 1, h => by
    obtain ⟨xs, hl, hx⟩ := list_of n (fun i hi => h i (by omega))
    obtain ⟨x, hp⟩ := h n (by omega)
    refine ⟨xs ++ [x], by simp [hl], fun i hi => ?_⟩
    rw [List.getElem_append]
    split
    · exact hx i _
    · simp only [List.length_append, List.length_singleton] at hi
      obtain rfl : i = n := by omega
      simpa using hp

section
variable {H : Type} {enc : TypeId × Value → H} {P : Program} {w : World} {base : Nat} {spare : Nat → Bool} {held : Bool}
theorem rd_fields {cs : List Value} : ∀ (fs : List Field) (l : List Sh) (o : Nat), offsB P o fs l = true → (∀ (i : Nat) (f : Field) (s : Sh), fs[i]? = some f → l[i]? = some s → Rd w s ((cs.drop f.offset).take (P.cellsOf f.type))) → cs.length = o + sizes l → Rd w (.st l) (cs.drop o)
  | [], [], o, _, _, hl => by rw [List.drop_of_length_le (by simp [sizes] at hl; omega)]; exact .rec0
  | [], _ :: _, _, h, _, _ => by simp [offsB] at h
  | _ :: _, [], _, h, _, _ => by simp [offsB] at h
  | f :: fs, s :: l, o, h, hr, hl => by
    simp only [offsB, Bool.and_eq_true, beq_iff_eq] at h
    obtain ⟨⟨h1, h2⟩, h3⟩ := h
    have r0 := hr 0 f s rfl rfl
    rw [h1, h2] at r0
    have r1 := rd_fields fs l (o + s.size) h3 (fun i f' s' hf hs => hr (i + 1) f' s' (by simpa using hf) (by simpa using hs)) (by simp only [sizes] at hl; omega)
    have e : cs.drop o = (cs.drop o).take s.size ++ cs.drop (o + s.size) := by
      rw [← List.drop_drop, List.take_append_drop]
    rw [e]
    exact .recS r0 r1
theorem rd_of : ∀ (n fuel : Nat) (t : TypeId) (sh : Sh) (cs : List Value) (x : DataW H × List MemPlace), shapeB P n t = some sh → DataW.trod enc P w base spare held fuel t cs = some x → Rd w sh cs := by
  intro n
  induction n with
  | zero => intro fuel t sh cs x hs; cases hs
  | succ n ih =>
    intro fuel t sh cs x hs h
    unfold shapeB at hs
    split at hs
    · rename_i hu
      cases hs
      cases fuel with
      | zero => simp [DataW.trod] at h
      | succ fuel =>
        unfold DataW.trod at h
        rw [hu] at h
        split at h <;> simp_all <;> exact .bool
    · rename_i k hu
      cases hs
      cases fuel with
      | zero => simp [DataW.trod] at h
      | succ fuel =>
        unfold DataW.trod at h
        rw [hu] at h
        split at h <;> simp_all
        rename_i h1
        obtain ⟨rfl, rfl⟩ := h1
        exact .int h.1.2
    · rename_i hu
      cases hs
      cases fuel with
      | zero => simp [DataW.trod] at h
      | succ fuel =>
        unfold DataW.trod at h
        rw [hu] at h
        split at h <;> simp_all
        exact .str h.1
    · rename_i e hu
      split at hs
      · rename_i s he
        split at hs
        · rename_i hc
          cases hs
          rcases Deep.open_slice hu h with ⟨rfl, _⟩ | ⟨a, len, cap, m, n', D, Pl, rfl, hb, hl, hm, hmm, hx, hi⟩
          · exact .slNil
          · have hle : len ≤ m := by rw [hmm]; split <;> omega
            obtain ⟨xs, hxl, hxs⟩ := list_of (p := fun i cs' => w.cells? base (a.add (i * P.cellsOf e)) (P.cellsOf e) = some cs' ∧ DataW.trod enc P w base spare held n' e cs' = some (D i, Pl i)) len (fun i h => hi i (by omega))
            subst hxl
            refine .sl ⟨fun hne => ?_, fun x hx => ?_, fun i hi j hj => ?_⟩ hl hm (fun x hx => ?_)
            · have h0 : 0 < xs.length := List.length_pos_iff.2 hne
              obtain ⟨_, h2, h3⟩ := World.cells?_some (hxs 0 h0).1
              have h4 := h3 0 (by omega)
              rw [List.getElem?_eq_getElem (by omega)] at h4
              have h5 := World.cell?_spot h4
              obtain ⟨b, o, sp⟩ := a
              simp only [Nat.zero_mul, Addr.add, if_true] at h5
              rw [h5]
            · obtain ⟨i, hi, rfl⟩ := List.getElem_of_mem hx
              have := (World.cells?_some (hxs i hi).1).2.1
              omega
            · obtain ⟨_, h2, h3⟩ := World.cells?_some (hxs i hi).1
              rw [hc.1] at h2 h3
              have h4 := h3 j hj
              rw [← h4]
              have hsp : a.spot = none := by
                obtain ⟨_, h2', h3'⟩ := World.cells?_some (hxs 0 (by omega)).1
                have h4' := h3' 0 (by omega)
                rw [List.getElem?_eq_getElem (by omega)] at h4'
                have h5 := World.cell?_spot h4'
                simpa [Addr.add] using h5
              obtain ⟨b, o, sp⟩ := a
              simp only at hsp
              subst hsp
              congr 1
              unfold Addr.add
              by_cases hz : i * s.size = 0 <;> by_cases hz2 : j = 0 <;> simp [hz, hz2]
            · obtain ⟨i, hi, rfl⟩ := List.getElem_of_mem hx
              exact ih _ _ _ _ _ he (hxs i hi).2
        · cases hs
      · cases hs
    · rename_i fs hu
      split at hs
      · rename_i l he
        split at hs
        · rename_i hc
          cases hs
          obtain ⟨xs, n', _, _, hlen, hxl, hf⟩ := DataW.trod_struct hu h
          have hll : ∀ (i : Nat) (f : Field) (s : Sh), fs.toList[i]? = some f → l[i]? = some s → shapeB P n f.type = some s := by
            clear hc hf hxl
            generalize fs.toList = fl at he
            induction fl generalizing l with
            | nil => intro i f s h; simp at h
            | cons f0 fl ihf =>
              simp only [List.mapM_cons, Option.bind_eq_bind, Option.bind_eq_some_iff, Option.pure_def, Option.some.injEq] at he
              obtain ⟨s0, h0, l0, hl0, rfl⟩ := he
              intro i f s hi hs
              cases i with
              | zero => simp at hi hs; subst hi; subst hs; exact h0
              | succ i => exact ihf l0 hl0 i f s (by simpa using hi) (by simpa using hs)
          have := rd_fields (cs := cs) fs.toList l 0 hc.1 (fun i f s hi hs => by
            have h1 := hf i f (by simpa using hi)
            have hlt : i < fs.size := by have := (List.getElem?_eq_some_iff.1 hi).1; simpa using this
            rw [List.getElem?_eq_getElem (by omega)] at h1
            exact ih _ _ _ _ _ (hll i f s hi hs) h1) (by omega)
          simpa using this
        · cases hs
      · cases hs
    · cases hs
theorem val_of {n : Nat} {r : Reach} {b0 : Nat} {t : TypeId} {sh : Sh} {v : Value} (hs : shapeB P n t = some sh) (hv : Value.okWide P w r b0 t v) : v = sh.val v.cells.toList := by
  cases n with
  | zero => cases hs
  | succ n =>
    unfold shapeB at hs
    split at hs
    · rename_i hu; cases hs; obtain ⟨b, rfl⟩ := okWide_bool hu hv; rfl
    · rename_i hu; cases hs; obtain ⟨b, rfl⟩ := okWide_int hu hv; rfl
    · rename_i hu; cases hs; obtain ⟨b, rfl⟩ := okWide_string hu hv; rfl
    · rename_i hu
      obtain ⟨a, l, c, rfl⟩ := okWide_slice hu hv
      split at hs
      · split at hs
        · cases hs; rfl
        · cases hs
      · cases hs
    · rename_i hu
      obtain ⟨cs, rfl, _⟩ := okWide_struct hu hv
      split at hs
      · split at hs
        · cases hs; simp [Sh.val, Value.cells]
        · cases hs
      · cases hs
    · cases hs
theorem rdAll_of {n : Nat} {r : Reach} {b0 : Nat} : ∀ {ts : List TypeId} {shs : List Sh} {vs : List Value} {ds : List (DataW H)} {ps : List MemPlace}, ts.mapM (shapeB P n) = some shs →
    (∀ (j : Nat) t v, ts[j]? = some t → vs[j]? = some v → Value.okWide P w r b0 t v) → DataW.TrodAll enc P w base spare held ts vs ds ps → RdAll w shs vs
  | [], shs, vs, ds, ps, hs, _, h => by
    obtain ⟨rfl, _, _⟩ := trodAll_nil h
    simp at hs; subst hs; exact .nil
  | t :: ts, shs, vs, ds, ps, hs, hv, h => by
    obtain ⟨v, vs', d, ds', p, q, rfl, rfl, rfl, h0, hr⟩ := trodAll_cons h
    simp only [List.mapM_cons, Option.bind_eq_bind, Option.bind_eq_some_iff, Option.pure_def, Option.some.injEq] at hs
    obtain ⟨s0, hs0, l0, hl0, rfl⟩ := hs
    obtain ⟨fuel, hf⟩ := h0
    have hr' := rd_of n fuel t s0 _ _ hs0 hf
    have hv0 := val_of hs0 (hv 0 t v rfl rfl)
    have ih := rdAll_of hl0 (fun j t' v' hj hv' => hv (j + 1) t' v' (by simpa using hj) (by simpa using hv')) hr
    rw [hv0]
    exact .cons hr' ih
end

/-! ### The law's statement -/
theorem trodAll_below {H : Type} {enc : TypeId × Value → H} {P : Program} (hl : laidOutB P = true) {W W' : World} (hb : Below W.heap.size W W') : ∀ {ts : List TypeId} {vs : List Value} {ds : List (DataW H)} {ps : List MemPlace},
    ts.all (fun t => P.readableRec t && decide (t < P.types.size)) = true → DataW.TrodAll enc P W 0 (fun _ => true) true ts vs ds ps → DataW.TrodAll enc P W' 0 (fun b => decide (b < W.heap.size)) true ts vs ds ps
  | [], [], [], _, _, h => h
  | [], _ :: _, _, _, _, h => h.elim
  | [], [], _ :: _, _, _, h => h.elim
  | _ :: _, [], _, _, _, h => h.elim
  | _ :: _, _ :: _, [], _, _, h => h.elim
  | t :: ts, v :: vs, d :: ds, ps, hp, h => by
    obtain ⟨p, q, h0, hr, rfl⟩ := h
    simp only [List.all_cons, Bool.and_eq_true, decide_eq_true_eq] at hp
    have hlt : ∀ x ∈ p, x.block < W.heap.size := by obtain ⟨m, hm⟩ := h0; exact DataW.trod_lt m _ _ _ hm
    exact ⟨p, q, Below.trod hl hp.1.1 hp.1.2 h0 hb hlt, trodAll_below hl hb (by simpa [List.all_eq_true] using hp.2) hr, rfl⟩

theorem law_contract {H : Type} {enc : TypeId × Value → H} {P : Program} {f : Func} {s : ChangeSpec} {n : Nat} {shs : List Sh} {tb : TypeId} {F : FuncId} (hl : laidOutB P = true) (hsh : f.params.toList.mapM (shapeB P n) = some shs)
    (hp : f.params.toList.all (fun t => P.readableRec t && decide (t < P.types.size)) = true) (hr : f.resultTypes = #[tb]) (hb : P.underlying tb = some .bool) (hvars : s.vars = [])
    (hfn : ∀ ds : List (DataW H), ds.length = f.params.toList.length → s.fn H (ds ++ []) = { results := [.lit (.bool true)], args := ds })
    (walk : ∀ (W : World) (vs : List Value), RdAll W shs vs → Calls P F vs.toArray W (Pure (.bool true) W))
    {W : World} {base : Nat} {args : Array Value} {ds gs : List (DataW H)} {before : List MemPlace} (hval : ∀ (j : Nat) t v, f.params[j]? = some t → args[j]? = some v → Value.okWide P W .any base t v)
    (hW : DataW.Whole enc P f.params.toList s.vars false W args.toList ds gs before) :
    Calls P F args W fun e W' => ∃ v, e = .returned v ∧ s.post enc P f false true false false W args v W' := by
  have hW' := hW
  obtain ⟨p, q, hA, hV, rfl, hfz, hnd⟩ := hW
  rw [hvars] at hV
  obtain ⟨rfl, rfl⟩ := trodVars_none hV
  have hrd : RdAll W shs args.toList := rdAll_of hsh (fun j t v hj hv => hval j t v (by simpa using hj) (by simpa using hv)) hA
  have hlen : ds.length = f.params.toList.length := by
    clear hW' hval hrd hfn hp hsh hfz hnd hV
    generalize f.params.toList = ts at hA
    generalize args.toList = vs at hA
    induction ts generalizing vs ds p with
    | nil => obtain ⟨_, rfl, _⟩ := trodAll_nil hA; rfl
    | cons t ts ih =>
      obtain ⟨v, vs', d, ds', p, q, rfl, rfl, rfl, h0, hr⟩ := trodAll_cons hA
      simp [ih _ _ hr]
  refine (walk W args.toList hrd).mono fun e W' ⟨he, hm⟩ => ?_
  subst he
  have bel := hm.below
  refine ⟨_, rfl, ds, [], p ++ [], [], p, [], hW', ?_, ?_, ?_, bel.frame _, fun h => by cases h⟩
  · rw [hfn ds hlen, hr]
    exact trodAll_mk1 (shut_bool hb _)
  · rw [hfn ds hlen]
    exact trodAll_below hl bel hp hA
  · rw [hvars, hfn ds hlen]
    rfl
end Go.Eng
/- What the arguments of the laws read as: pairs and glaciers. -/
set_option linter.unusedSimpArgs false
set_option linter.unusedVariables false
namespace Go.Proofs.Ytjijeeadmhpfcaa
open Go Go.Eng Go.Pw1

abbrev spSh : Sh := .st [.int .i64, .int .i64]
abbrev plSh : Sh := .st [spSh, spSh]
abbrev thSh : Sh := .st [plSh, plSh, .int .i64]
abbrev prSh : Sh := .st [spSh, spSh, .int .i64, .int .i64, .int .i64, .sl thSh]
theorem rd_sp {w : World} {cs : List Value} (h : Rd w spSh cs) : ∃ s : Sp, cs = [.int .i64 s.lo, .int .i64 s.hi] := by
  cases h with
  | recS h1 h2 =>
    cases h1
    cases h2 with
    | recS h3 h4 =>
      cases h3
      cases h4
      exact ⟨⟨_, _⟩, rfl⟩
theorem rd_pl {w : World} {cs : List Value} (h : Rd w plSh cs) : ∃ s t : Sp, cs = [.int .i64 s.lo, .int .i64 s.hi, .int .i64 t.lo, .int .i64 t.hi] := by
  cases h with
  | recS h1 h2 =>
    obtain ⟨s, rfl⟩ := rd_sp h1
    cases h2 with
    | recS h3 h4 =>
      obtain ⟨t, rfl⟩ := rd_sp h3
      cases h4
      exact ⟨s, t, rfl⟩
theorem rd_th {w : World} {cs : List Value} (h : Rd w thSh cs) : ∃ t : Th, cs = t.cells := by
  cases h with
  | recS h1 h2 =>
    obtain ⟨a, b, rfl⟩ := rd_pl h1
    cases h2 with
    | recS h3 h4 =>
      obtain ⟨c, d, rfl⟩ := rd_pl h3
      cases h4 with
      | recS h5 h6 =>
        cases h5
        cases h6
        exact ⟨⟨a, b, c, d, _⟩, rfl⟩
theorem rows_of {α : Type} {f : α → List Value} : ∀ {xs : List (List Value)}, (∀ x ∈ xs, ∃ a, x = f a) → ∃ l : List α, xs = l.map f
  | [], _ => ⟨[], rfl⟩
  | x :: xs, h => by
    obtain ⟨a, rfl⟩ := h x (by simp)
    obtain ⟨l, rfl⟩ := rows_of (xs := xs) (fun y hy => h y (List.mem_cons_of_mem _ hy))
    exact ⟨a :: l, rfl⟩
/-- A pair that came in. -/
structure In (w : World) (p : Pr) (q : Option Addr) (b o cap : Nat) : Prop where
  s : Sl w q b o 9 (p.things.map Th.cells)
  n : q = none → p.things.length = 0 ∧ cap = 0
theorem rd_pr {w : World} {cs : List Value} (h : Rd w prSh cs) : ∃ (p : Pr) (q : Option Addr) (b o cap : Nat), cs = p.cells q cap ∧ In w p q b o cap := by
  cases h with
  | recS h1 h2 =>
  obtain ⟨f, rfl⟩ := rd_sp h1
  cases h2 with
  | recS h1 h2 =>
  obtain ⟨g, rfl⟩ := rd_sp h1
  cases h2 with
  | recS h1 h2 =>
  cases h1
  cases h2 with
  | recS h1 h2 =>
  cases h1
  cases h2 with
  | recS h1 h2 =>
  cases h1
  cases h2 with
  | recS h1 h2 =>
  cases h2
  cases h1 with
  | slNil => exact ⟨⟨f, g, _, _, _, []⟩, none, 0, 0, 0, rfl, ⟨Sl.emp, fun _ => ⟨rfl, rfl⟩⟩⟩
  | sl hs hl hc hx =>
    obtain ⟨ts, rfl⟩ := rows_of (f := Th.cells) (fun x hx' => rd_th (hx x hx'))
    exact ⟨⟨f, g, _, _, _, ts⟩, some _, _, _, _, by rw [List.length_map]; rfl, ⟨hs, fun h => by cases h⟩⟩
abbrev glSh : Sh := .st [prSh, prSh, .int .i64, .int .i64]
/-- A glacier's slices. -/
structure GSl (w : World) (g : Gl) (a : Ga) : Prop where
  s1 : Sl w a.q1 a.b1 a.o1 9 (g.f.things.map Th.cells)
  s2 : Sl w a.q2 a.b2 a.o2 9 (g.s.things.map Th.cells)
  n1 : a.q1 = none → g.f.things.length = 0 ∧ a.c1 = 0
  n2 : a.q2 = none → g.s.things.length = 0 ∧ a.c2 = 0
theorem GSl.mono {W w : World} {g : Gl} {a : Ga} {news : Blks} (h : GSl W g a) (hm : Mem W [] news w) : GSl w g a := ⟨h.s1.mono (by decide) hm (by simp), h.s2.mono (by decide) hm (by simp), h.n1, h.n2⟩
theorem rd_gl {w : World} {cs : List Value} (h : Rd w glSh cs) : ∃ (g : Gl) (a : Ga), cs = g.cells a ∧ GSl w g a := by
  cases h with
  | recS h1 h2 =>
  obtain ⟨f, q1, b1, o1, c1, rfl, hf⟩ := rd_pr h1
  cases h2 with
  | recS h1 h2 =>
  obtain ⟨s, q2, b2, o2, c2, rfl, hs⟩ := rd_pr h1
  cases h2 with
  | recS h1 h2 =>
  cases h1
  cases h2 with
  | recS h1 h2 =>
  cases h1
  cases h2
  exact ⟨⟨f, s, _, _⟩, ⟨q1, b1, o1, c1, q2, b2, o2, c2⟩, rfl, ⟨hf.s, hs.s, hf.n, hs.n⟩⟩
end Go.Proofs.Ytjijeeadmhpfcaa
/- Walks of the laws of layer 5: great, alive; YearsThings, YearsNames. -/
set_option linter.unusedSimpArgs false
set_option linter.unusedVariables false
namespace Go.Proofs.Ytjijeeadmhpfcaa
open Go Go.Eng Go.Pw1

def greatG (g : Gl) (most : Int) : Bool := decide (30 < (g.f.things.length : Int)) || decide (30 < (g.s.things.length : Int)) || (decide (most < (g.f.things.length : Int)) && glacierR g)
theorem great_calls (g : Gl) (a : Ga) (most : Int) (W : World) (hS : GSl W g a) : Calls Try.prog 9 #[g.v a, .int .i64 most] W (Pure (.bool (greatG g most)) W) := by
  refine calls_start Try.func9 rfl rfl ?_
  refine RunC.seq ?_
  refine RunC.region ?_
  refine RunL.new (New.box rfl) rfl rfl rfl (fun b2 => ?_)
  refine RunL.val (Val.pure rfl) rfl rfl rfl ?_
  refine RunL.nil ?_
  refine RunE.next ?_
  refine RunC.seq ?_
  refine RunC.region ?_
  refine RunL.val (Val.fieldAddr rfl fld_28_0) rfl rfl rfl ?_
  refine RunL.val (Val.fieldAddr rfl fld_26_5) rfl rfl rfl ?_
  refine RunL.val (Val.load_one rfl (.head _) ty_24 rfl) rfl rfl rfl ?_
  refine RunL.val (Val.len_sl rfl sl_24) rfl rfl rfl ?_
  refine RunL.val (Val.pure rfl) rfl rfl rfl ?_
  refine RunL.val (Val.pure rfl) rfl rfl rfl ?_
  refine RunL.orPart (dj := 10) (dp := 16) 6 rfl (fun g10 => by
    have g10' := g10
    try simp only [decide_eq_true_eq, decide_eq_false_iff_not, Bool.not_eq_true', Bool.not_eq_false', Bool.and_eq_true, Bool.or_eq_true, Bool.and_eq_false_iff, Bool.or_eq_false_iff, Int.not_le, Int.not_lt] at g10'
    refine RunL.val (Val.fieldAddr rfl fld_28_1) rfl rfl rfl ?_
    refine RunL.val (Val.fieldAddr rfl fld_26_5) rfl rfl rfl ?_
    refine RunL.val (Val.load_one rfl (.head _) ty_24 rfl) rfl rfl rfl ?_
    refine RunL.val (Val.len_sl rfl sl_24) rfl rfl rfl ?_
    refine RunL.val (Val.pure rfl) rfl rfl rfl ?_
    refine RunL.val (Val.pure rfl) rfl rfl rfl ?_
    exact RunL.segEnd (Sub.cons rfl (Sub.skip rfl (Sub.skip rfl (Sub.skip rfl (Sub.skip rfl (Sub.skip rfl (Sub.skip rfl (Sub.same rfl (by rw [g10]) (Sub.refl _))))))))) (List.Sublist.refl _)
  ) (fun g10 => by
    have g10' := g10
    try simp only [decide_eq_true_eq, decide_eq_false_iff_not, Bool.not_eq_true', Bool.not_eq_false', Bool.and_eq_true, Bool.or_eq_true, Bool.and_eq_false_iff, Bool.or_eq_false_iff, Int.not_le, Int.not_lt] at g10'
    iterate 5 refine RunL.no rfl rfl rfl ?_
    refine RunL.val (Val.pure rfl) rfl rfl rfl ?_
    exact RunL.segEnd (Sub.cons rfl (Sub.skip rfl (Sub.skip rfl (Sub.skip rfl (Sub.skip rfl (Sub.skip rfl (Sub.skip rfl (Sub.same rfl (by rw [g10]) (Sub.refl _))))))))) (List.Sublist.refl _)
  ) ?_
  refine RunL.val (Val.pure rfl) rfl rfl rfl ?_
  refine RunL.orPart (dj := 17) (dp := 28) (x := decide (most < (g.f.things.length : Int)) && glacierR g) 11 rfl (fun g17 => by
    have g17' := g17
    try simp only [decide_eq_true_eq, decide_eq_false_iff_not, Bool.not_eq_true', Bool.not_eq_false', Bool.and_eq_true, Bool.or_eq_true, Bool.and_eq_false_iff, Bool.or_eq_false_iff, Int.not_le, Int.not_lt] at g17'
    refine RunL.val (Val.fieldAddr rfl fld_28_0) rfl rfl rfl ?_
    refine RunL.val (Val.fieldAddr rfl fld_26_5) rfl rfl rfl ?_
    refine RunL.val (Val.load_one rfl (.head _) ty_24 rfl) rfl rfl rfl ?_
    refine RunL.val (Val.len_sl rfl sl_24) rfl rfl rfl ?_
    iterate 3 refine RunL.val (Val.pure rfl) rfl rfl rfl ?_
    refine RunL.andPart (dj := 24) (dp := 27) 3 rfl (fun g24 => by
      have g24' := g24
      try simp only [decide_eq_true_eq, decide_eq_false_iff_not, Bool.not_eq_true', Bool.not_eq_false', Bool.and_eq_true, Bool.or_eq_true, Bool.and_eq_false_iff, Bool.or_eq_false_iff, Int.not_le, Int.not_lt] at g24'
      refine RunL.val (Val.load_agg rfl (.head _) ty_28 rfl) rfl rfl rfl ?_
      refine RunL.callP (isCall_func rfl ent_23) rfl rfl rfl (fun w hm => rGlacier_calls g a w ⟨(hS.mono hm).s1, (hS.mono hm).s2, by omega, by omega⟩) ?_
      refine RunL.val (Val.pure rfl) rfl rfl rfl ?_
      exact RunL.segEnd (Sub.cons rfl (Sub.skip rfl (Sub.skip rfl (Sub.skip rfl (Sub.same rfl (by rw [g24]) (Sub.refl _)))))) (List.Sublist.refl _)
    ) (fun g24 => by
      have g24' := g24
      try simp only [decide_eq_true_eq, decide_eq_false_iff_not, Bool.not_eq_true', Bool.not_eq_false', Bool.and_eq_true, Bool.or_eq_true, Bool.and_eq_false_iff, Bool.or_eq_false_iff, Int.not_le, Int.not_lt] at g24'
      refine RunL.no rfl rfl rfl ?_
      refine RunL.no rfl rfl rfl ?_
      refine RunL.val (Val.pure rfl) rfl rfl rfl ?_
      exact RunL.segEnd (Sub.cons rfl (Sub.skip rfl (Sub.skip rfl (Sub.skip rfl (Sub.same rfl (by rw [g24]) (Sub.refl _)))))) (List.Sublist.refl _)
    ) ?_
    refine RunL.val (Val.pure rfl) rfl rfl rfl ?_
    exact RunL.segEnd (Sub.cons rfl (Sub.skip rfl (Sub.skip rfl (Sub.skip rfl (Sub.skip rfl (Sub.skip rfl (Sub.skip rfl (Sub.skip rfl (Sub.skip rfl (Sub.skip rfl (Sub.same rfl (by rw [g17]) (Sub.refl _)))))))))))) (List.Sublist.refl _)
  ) (fun g17 => by
    have g17' := g17
    try simp only [decide_eq_true_eq, decide_eq_false_iff_not, Bool.not_eq_true', Bool.not_eq_false', Bool.and_eq_true, Bool.or_eq_true, Bool.and_eq_false_iff, Bool.or_eq_false_iff, Int.not_le, Int.not_lt] at g17'
    iterate 10 refine RunL.no rfl rfl rfl ?_
    refine RunL.val (Val.pure rfl) rfl rfl rfl ?_
    exact RunL.segEnd (Sub.cons rfl (Sub.skip rfl (Sub.skip rfl (Sub.skip rfl (Sub.skip rfl (Sub.skip rfl (Sub.skip rfl (Sub.skip rfl (Sub.skip rfl (Sub.skip rfl (Sub.skip rfl (Sub.skip rfl (Sub.same rfl (by rw [g17]) (Sub.refl _)))))))))))))) (List.Sublist.refl _)
  ) ?_
  refine RunL.val (Val.pure rfl) rfl rfl rfl ?_
  refine RunL.nil ?_
  refine RunE.next ?_
  refine RunC.ret ?_
  exact RunE.retP (.r1 rfl (.tmp rfl)) (by first | rfl | simp)
theorem great_no {g : Gl} {most : Int} (h : greatG g most = false) {W : World} {a : Ga} (hS : GSl W g a) : GIn W g a ∧ g.f.things.length ≤ 30 ∧ g.s.things.length ≤ 30 := by
  simp only [greatG, Bool.or_eq_false_iff, decide_eq_false_iff_not] at h
  have h1 := h.1.1
  have h2 := h.1.2
  exact ⟨⟨hS.s1, hS.s2, by omega, by omega⟩, by omega, by omega⟩
theorem aMoved1 (b c : Nat) (W : World) (h1 : W.heap[b]? = some (viewO 50)) (h2 : W.heap[c]? = some (viewO 60)) : Calls Try.prog 11 #[sampleG.v (sampleA b c), .int .i64 (1)] W (Pure (.tuple #[.agg #[.int .i64 (-2001), .int .i64 (-856)], .int .i64 (0)]) W) := by
  have h3 := yMoved_calls sampleG (sampleA b c) (1) W (sample_in h1 h2)
  rwa [show gMoved sampleG 1 = ((-2001, -856), 0) by kernel_rfl] at h3
theorem aHeights1 (b c : Nat) (W : World) (h1 : W.heap[b]? = some (viewO 50)) (h2 : W.heap[c]? = some (viewO 60)) : Calls Try.prog 13 #[sampleG.v (sampleA b c), .int .i64 (1)] W (Pure (.tuple #[.agg #[.int .i64 (10), .int .i64 (13)], .agg #[.int .i64 (9), .int .i64 (11)], .int .i64 (0)]) W) := by
  have h3 := yHeights_calls sampleG (sampleA b c) (1) W (sample_in h1 h2)
  rwa [show gHeights sampleG 1 = (((10, 13), (9, 11)), 0) by kernel_rfl] at h3
theorem aSank1 (b c : Nat) (W : World) (h1 : W.heap[b]? = some (viewO 50)) (h2 : W.heap[c]? = some (viewO 60)) : Calls Try.prog 15 #[sampleG.v (sampleA b c), .int .i64 (1)] W (Pure (.tuple #[.agg #[.int .i64 (-1), .int .i64 (4)], .int .i64 (0)]) W) := by
  have h3 := ySank_calls sampleG (sampleA b c) (1) W (sample_in h1 h2)
  rwa [show gSank sampleG 1 = ((-1, 4), 0) by kernel_rfl] at h3
theorem aRate1 (b c : Nat) (W : World) (h1 : W.heap[b]? = some (viewO 50)) (h2 : W.heap[c]? = some (viewO 60)) : Calls Try.prog 17 #[sampleG.v (sampleA b c), .int .i64 (1)] W (Pure (.tuple #[.agg #[.int .i64 (-7304), .int .i64 (-3124)], .int .i64 (0)]) W) := by
  have h3 := yRate_calls sampleG (sampleA b c) (1) W (sample_in h1 h2)
  rwa [show gRate sampleG 1 = ((-7304, -3124), 0) by kernel_rfl] at h3
theorem aStays (b c : Nat) (W : World) (h1 : W.heap[b]? = some (viewO 50)) (h2 : W.heap[c]? = some (viewO 60)) : Calls Try.prog 24 #[sampleG.v (sampleA b c)] W (Pure (.tuple #[.int .i64 (1), .int .i64 (1), .int .i64 (0)]) W) := by
  have h3 := yStays_calls sampleG (sampleA b c)  W (sample_in h1 h2)
  rwa [show gStays sampleG = ((1, 1), 0) by kernel_rfl] at h3
theorem aFastest (b c : Nat) (W : World) (h1 : W.heap[b]? = some (viewO 50)) (h2 : W.heap[c]? = some (viewO 60)) : Calls Try.prog 25 #[sampleG.v (sampleA b c)] W (Pure (.tuple #[.int .i64 (2), .int .i64 (0)]) W) := by
  have h3 := yFastest_calls sampleG (sampleA b c)  W (sample_in h1 h2)
  rwa [show gFastest sampleG = (2, 0) by kernel_rfl] at h3
theorem aAlike900 (b c : Nat) (W : World) (h1 : W.heap[b]? = some (viewO 50)) (h2 : W.heap[c]? = some (viewO 60)) : Calls Try.prog 20 #[sampleG.v (sampleA b c), .int .i64 (900)] W (Pure (.tuple #[.int .i64 (3), .int .i64 (0)]) W) := by
  have h3 := yAlike_calls sampleG (sampleA b c) (900) W (sample_in h1 h2)
  rwa [show gAlike sampleG 900 = (3, 0) by kernel_rfl] at h3
theorem aArrives18 (b c : Nat) (W : World) (h1 : W.heap[b]? = some (viewO 50)) (h2 : W.heap[c]? = some (viewO 60)) : Calls Try.prog 21 #[sampleG.v (sampleA b c), .int .i64 (1), .int .i64 (8000)] W (Pure (.tuple #[.int .i64 (212), .int .i64 (286), .int .i64 (0)]) W) := by
  have h3 := yArrives_calls sampleG (sampleA b c) (1) (8000) W (sample_in h1 h2)
  rwa [show gArrives sampleG 1 8000 = ((212, 286), 0) by kernel_rfl] at h3
theorem aMoved0 (b c : Nat) (W : World) (h1 : W.heap[b]? = some (viewO 50)) (h2 : W.heap[c]? = some (viewO 60)) : Calls Try.prog 11 #[sampleG.v (sampleA b c), .int .i64 (0)] W (Pure (.tuple #[.agg #[.int .i64 (0), .int .i64 (0)], .int .i64 (0)]) W) := by
  have h3 := yMoved_calls sampleG (sampleA b c) (0) W (sample_in h1 h2)
  rwa [show gMoved sampleG 0 = ((0, 0), 0) by kernel_rfl] at h3
theorem aMoved2 (b c : Nat) (W : World) (h1 : W.heap[b]? = some (viewO 50)) (h2 : W.heap[c]? = some (viewO 60)) : Calls Try.prog 11 #[sampleG.v (sampleA b c), .int .i64 (2)] W (Pure (.tuple #[.agg #[.int .i64 (0), .int .i64 (0)], .int .i64 (11)]) W) := by
  have h3 := yMoved_calls sampleG (sampleA b c) (2) W (sample_in h1 h2)
  rwa [show gMoved sampleG 2 = ((0, 0), 11) by kernel_rfl] at h3
theorem aAlike0 (b c : Nat) (W : World) (h1 : W.heap[b]? = some (viewO 50)) (h2 : W.heap[c]? = some (viewO 60)) : Calls Try.prog 20 #[sampleG.v (sampleA b c), .int .i64 (0)] W (Pure (.tuple #[.int .i64 (1), .int .i64 (0)]) W) := by
  have h3 := yAlike_calls sampleG (sampleA b c) (0) W (sample_in h1 h2)
  rwa [show gAlike sampleG 0 = (1, 0) by kernel_rfl] at h3
theorem aArrives19 (b c : Nat) (W : World) (h1 : W.heap[b]? = some (viewO 50)) (h2 : W.heap[c]? = some (viewO 60)) : Calls Try.prog 21 #[sampleG.v (sampleA b c), .int .i64 (1), .int .i64 (9000)] W (Pure (.tuple #[.int .i64 (200), .int .i64 (200), .int .i64 (0)]) W) := by
  have h3 := yArrives_calls sampleG (sampleA b c) (1) (9000) W (sample_in h1 h2)
  rwa [show gArrives sampleG 1 9000 = ((200, 200), 0) by kernel_rfl] at h3
theorem aArrives0 (b c : Nat) (W : World) (h1 : W.heap[b]? = some (viewO 50)) (h2 : W.heap[c]? = some (viewO 60)) : Calls Try.prog 21 #[sampleG.v (sampleA b c), .int .i64 (0), .int .i64 (2999)] W (Pure (.tuple #[.int .i64 (0), .int .i64 (0), .int .i64 (4)]) W) := by
  have h3 := yArrives_calls sampleG (sampleA b c) (0) (2999) W (sample_in h1 h2)
  rwa [show gArrives sampleG 0 2999 = ((0, 0), 4) by kernel_rfl] at h3
theorem alive_calls (W : World) : Calls Try.prog 10 #[] W (Pure (.bool true) W) := by
  refine calls_start Try.func10 rfl rfl ?_
  refine RunC.seq ?_
  refine RunC.region ?_
  refine RunL.val (Val.pure rfl) rfl rfl rfl ?_
  refine RunL.nil ?_
  refine RunE.next ?_
  refine RunC.seq ?_
  refine RunC.region ?_
  refine RunL.callN (isCall_func rfl ent_19) rfl rfl rfl (fun w hm => sample5_calls w) (fun b21 => ?_)
  refine RunL.callP (isCall_func rfl ent_11) rfl rfl rfl (fun w hm => aMoved1 b21.1 b21.2 w (hm.at (.head _)) (hm.at (.tail _ (.head _)))) ?_
  iterate 3 refine RunL.val (Val.pure rfl) rfl rfl rfl ?_
  refine RunL.new (New.alloc zero_23) rfl rfl rfl (fun b1 => ?_)
  refine RunL.sto (Sto.store rfl rfl .here ty_23 rfl rfl) rfl rfl ?_
  refine RunL.val (Val.pure rfl) rfl rfl rfl ?_
  refine RunL.nil ?_
  refine RunE.next ?_
  refine RunC.seq ?_
  refine RunC.region ?_
  refine RunL.callN (isCall_func rfl ent_19) rfl rfl rfl (fun w hm => sample5_calls w) (fun b26 => ?_)
  refine RunL.callP (isCall_func rfl ent_13) rfl rfl rfl (fun w hm => aHeights1 b26.1 b26.2 w (hm.at (.head _)) (hm.at (.tail _ (.head _)))) ?_
  iterate 4 refine RunL.val (Val.pure rfl) rfl rfl rfl ?_
  refine RunL.new (New.alloc zero_23) rfl rfl rfl (fun b3 => ?_)
  refine RunL.new (New.alloc zero_23) rfl rfl rfl (fun b4 => ?_)
  refine RunL.sto (Sto.store rfl rfl (.there .here) ty_23 rfl rfl) rfl rfl ?_
  refine RunL.sto (Sto.store rfl rfl .here ty_23 rfl rfl) rfl rfl ?_
  refine RunL.val (Val.pure rfl) rfl rfl rfl ?_
  refine RunL.nil ?_
  refine RunE.next ?_
  refine RunC.seq ?_
  refine RunC.region ?_
  refine RunL.callN (isCall_func rfl ent_19) rfl rfl rfl (fun w hm => sample5_calls w) (fun b32 => ?_)
  refine RunL.callP (isCall_func rfl ent_15) rfl rfl rfl (fun w hm => aSank1 b32.1 b32.2 w (hm.at (.head _)) (hm.at (.tail _ (.head _)))) ?_
  iterate 3 refine RunL.val (Val.pure rfl) rfl rfl rfl ?_
  refine RunL.new (New.alloc zero_23) rfl rfl rfl (fun b6 => ?_)
  refine RunL.sto (Sto.store rfl rfl .here ty_23 rfl rfl) rfl rfl ?_
  refine RunL.val (Val.pure rfl) rfl rfl rfl ?_
  refine RunL.nil ?_
  refine RunE.next ?_
  refine RunC.seq ?_
  refine RunC.region ?_
  refine RunL.callN (isCall_func rfl ent_19) rfl rfl rfl (fun w hm => sample5_calls w) (fun b37 => ?_)
  refine RunL.callP (isCall_func rfl ent_17) rfl rfl rfl (fun w hm => aRate1 b37.1 b37.2 w (hm.at (.head _)) (hm.at (.tail _ (.head _)))) ?_
  iterate 3 refine RunL.val (Val.pure rfl) rfl rfl rfl ?_
  refine RunL.new (New.alloc zero_23) rfl rfl rfl (fun b8 => ?_)
  refine RunL.sto (Sto.store rfl rfl .here ty_23 rfl rfl) rfl rfl ?_
  refine RunL.val (Val.pure rfl) rfl rfl rfl ?_
  refine RunL.nil ?_
  refine RunE.next ?_
  refine RunC.seq ?_
  refine RunC.region ?_
  refine RunL.callN (isCall_func rfl ent_19) rfl rfl rfl (fun w hm => sample5_calls w) (fun b42 => ?_)
  refine RunL.callP (isCall_func rfl ent_24) rfl rfl rfl (fun w hm => aStays b42.1 b42.2 w (hm.at (.head _)) (hm.at (.tail _ (.head _)))) ?_
  iterate 7 refine RunL.val (Val.pure rfl) rfl rfl rfl ?_
  refine RunL.nil ?_
  refine RunE.next ?_
  refine RunC.seq ?_
  refine RunC.region ?_
  refine RunL.callN (isCall_func rfl ent_19) rfl rfl rfl (fun w hm => sample5_calls w) (fun b48 => ?_)
  refine RunL.callP (isCall_func rfl ent_25) rfl rfl rfl (fun w hm => aFastest b48.1 b48.2 w (hm.at (.head _)) (hm.at (.tail _ (.head _)))) ?_
  iterate 5 refine RunL.val (Val.pure rfl) rfl rfl rfl ?_
  refine RunL.nil ?_
  refine RunE.next ?_
  refine RunC.seq ?_
  refine RunC.region ?_
  refine RunL.callN (isCall_func rfl ent_19) rfl rfl rfl (fun w hm => sample5_calls w) (fun b53 => ?_)
  refine RunL.callP (isCall_func rfl ent_20) rfl rfl rfl (fun w hm => aAlike900 b53.1 b53.2 w (hm.at (.head _)) (hm.at (.tail _ (.head _)))) ?_
  iterate 5 refine RunL.val (Val.pure rfl) rfl rfl rfl ?_
  refine RunL.nil ?_
  refine RunE.next ?_
  refine RunC.seq ?_
  refine RunC.region ?_
  refine RunL.callN (isCall_func rfl ent_19) rfl rfl rfl (fun w hm => sample5_calls w) (fun b58 => ?_)
  refine RunL.callP (isCall_func rfl ent_21) rfl rfl rfl (fun w hm => aArrives18 b58.1 b58.2 w (hm.at (.head _)) (hm.at (.tail _ (.head _)))) ?_
  iterate 7 refine RunL.val (Val.pure rfl) rfl rfl rfl ?_
  refine RunL.nil ?_
  refine RunE.next ?_
  refine RunC.seq ?_
  refine RunC.seq ?_
  refine RunC.draw 24 fol_ (.cons .here rfl (.cons .here rfl (.cons .here rfl (.cons .here rfl (.cons .here rfl (.cons .here rfl (.cons .here rfl (.cons .here rfl (.cons .here rfl (.cons .here rfl (.cons .here rfl (.cons .here rfl (.cons .here rfl (.cons .here rfl (.cons .here rfl (.cons .here rfl (.cons .here rfl (.cons .here rfl (.cons .here rfl (.cons .here rfl (.cons .here rfl .nil))))))))))))))))))))) ?_
  refine RunA.val (i := 0) rfl (by kernel_rfl) (by kernel_rfl) (Val.load_agg rfl (.tail _ (.tail _ (.tail _ (.tail _ (.tail _ (.tail _ (.tail _ (.tail _ (.tail _ (.tail _ (.tail _ (.tail _ (.tail _ (.tail _ (.tail _ (.tail _ (.tail _ (.tail _ (.head _))))))))))))))))))) ty_23 rfl) rfl rfl rfl (fun _ _ _ h => h) (.cons .here rfl (.cons .here rfl (.cons .here rfl (.cons .here rfl (.cons .here rfl (.cons .here rfl (.cons .here rfl (.cons .here rfl (.cons .here rfl (.cons .here rfl (.cons .here rfl (.cons .here rfl (.cons .here rfl (.cons .here rfl (.cons .here rfl (.cons .here rfl (.cons .here rfl (.cons .here rfl (.cons .here rfl (.cons .here rfl (.cons .here rfl .nil))))))))))))))))))))) rfl ?_
  refine RunA.one (i := 1) (by kernel_rfl) (by kernel_rfl) ?_
  refine RunI.callP rfl (isCall_func rfl ent_22) rfl rfl rfl (fun w hm => lspan5_calls _ _ w) (RunK.toA (.cons .here rfl (.cons .here rfl (.cons .here rfl (.cons .here rfl (.cons .here rfl (.cons .here rfl (.cons .here rfl (.cons .here rfl (.cons .here rfl (.cons .here rfl (.cons .here rfl (.cons .here rfl (.cons .here rfl (.cons .here rfl (.cons .here rfl (.cons .here rfl (.cons .here rfl (.cons .here rfl (.cons .here rfl (.cons .here rfl (.cons .here rfl .nil))))))))))))))))))))) (.cons .here rfl (.cons .here rfl (.cons .here rfl (.cons .here rfl (.cons .here rfl (.cons .here rfl (.cons .here rfl (.cons .here rfl (.cons .here rfl (.cons .here rfl (.cons .here rfl (.cons .here rfl (.cons .here rfl (.cons .here rfl (.cons .here rfl (.cons .here rfl (.cons .here rfl (.cons .here rfl (.cons .here rfl (.cons .here rfl (.cons .here rfl .nil))))))))))))))))))))) rfl ?_)
  refine RunA.val (i := 2) rfl (by kernel_rfl) (by kernel_rfl) (Val.neq_pair rfl rfl pair_23) rfl rfl rfl (fun _ _ _ h => h) (.cons .here rfl (.cons .here rfl (.cons .here rfl (.cons .here rfl (.cons .here rfl (.cons .here rfl (.cons .here rfl (.cons .here rfl (.cons .here rfl (.cons .here rfl (.cons .here rfl (.cons .here rfl (.cons .here rfl (.cons .here rfl (.cons .here rfl (.cons .here rfl (.cons .here rfl (.cons .here rfl (.cons .here rfl (.cons .here rfl (.cons .here rfl .nil))))))))))))))))))))) rfl ?_
  refine RunA.val (i := 3) rfl (by kernel_rfl) (by kernel_rfl) (Val.pure rfl) rfl rfl rfl (fun _ _ _ h => h) (.cons .here rfl (.cons .here rfl (.cons .here rfl (.cons .here rfl (.cons .here rfl (.cons .here rfl (.cons .here rfl (.cons .here rfl (.cons .here rfl (.cons .here rfl (.cons .here rfl (.cons .here rfl (.cons .here rfl (.cons .here rfl (.cons .here rfl (.cons .here rfl (.cons .here rfl (.cons .here rfl (.cons .here rfl (.cons .here rfl (.cons .here rfl .nil))))))))))))))))))))) rfl ?_
  refine RunA.sure (dj := 66) false rfl (by simp) ?_
  refine RunA.val (i := 4) rfl (by kernel_rfl) (by kernel_rfl) (Val.pure rfl) rfl rfl rfl (fun _ _ _ h => h) (.cons .here rfl (.cons .here rfl (.cons .here rfl (.cons .here rfl (.cons .here rfl (.cons .here rfl (.cons .here rfl (.cons .here rfl (.cons .here rfl (.cons .here rfl (.cons .here rfl (.cons .here rfl (.cons .here rfl (.cons .here rfl (.cons .here rfl (.cons .here rfl (.cons .here rfl (.cons .here rfl (.cons .here rfl (.cons .here rfl (.cons .here rfl .nil))))))))))))))))))))) rfl ?_
  refine RunA.val (i := 5) rfl (by kernel_rfl) (by kernel_rfl) (Val.pure rfl) rfl rfl rfl (fun _ _ _ h => h) (.cons .here rfl (.cons .here rfl (.cons .here rfl (.cons .here rfl (.cons .here rfl (.cons .here rfl (.cons .here rfl (.cons .here rfl (.cons .here rfl (.cons .here rfl (.cons .here rfl (.cons .here rfl (.cons .here rfl (.cons .here rfl (.cons .here rfl (.cons .here rfl (.cons .here rfl (.cons .here rfl (.cons .here rfl (.cons .here rfl (.cons .here rfl .nil))))))))))))))))))))) rfl ?_
  refine RunA.val (i := 6) rfl (by kernel_rfl) (by kernel_rfl) (Val.pure rfl) rfl rfl rfl (fun _ _ _ h => h) (.cons .here rfl (.cons .here rfl (.cons .here rfl (.cons .here rfl (.cons .here rfl (.cons .here rfl (.cons .here rfl (.cons .here rfl (.cons .here rfl (.cons .here rfl (.cons .here rfl (.cons .here rfl (.cons .here rfl (.cons .here rfl (.cons .here rfl (.cons .here rfl (.cons .here rfl (.cons .here rfl (.cons .here rfl (.cons .here rfl (.cons .here rfl .nil))))))))))))))))))))) rfl ?_
  refine RunA.val (i := 7) rfl (by kernel_rfl) (by kernel_rfl) (Val.pure rfl) rfl rfl rfl (fun _ _ _ h => h) (.cons .here rfl (.cons .here rfl (.cons .here rfl (.cons .here rfl (.cons .here rfl (.cons .here rfl (.cons .here rfl (.cons .here rfl (.cons .here rfl (.cons .here rfl (.cons .here rfl (.cons .here rfl (.cons .here rfl (.cons .here rfl (.cons .here rfl (.cons .here rfl (.cons .here rfl (.cons .here rfl (.cons .here rfl (.cons .here rfl (.cons .here rfl .nil))))))))))))))))))))) rfl ?_
  refine RunA.sure (dj := 70) false rfl (by simp) ?_
  refine RunA.val (i := 8) rfl (by kernel_rfl) (by kernel_rfl) (Val.load_agg rfl (.tail _ (.tail _ (.tail _ (.tail _ (.tail _ (.tail _ (.tail _ (.tail _ (.tail _ (.tail _ (.tail _ (.tail _ (.tail _ (.tail _ (.tail _ (.head _)))))))))))))))) ty_23 rfl) rfl rfl rfl (fun _ _ _ h => h) (.cons .here rfl (.cons .here rfl (.cons .here rfl (.cons .here rfl (.cons .here rfl (.cons .here rfl (.cons .here rfl (.cons .here rfl (.cons .here rfl (.cons .here rfl (.cons .here rfl (.cons .here rfl (.cons .here rfl (.cons .here rfl (.cons .here rfl (.cons .here rfl (.cons .here rfl (.cons .here rfl (.cons .here rfl (.cons .here rfl (.cons .here rfl .nil))))))))))))))))))))) rfl ?_
  refine RunA.one (i := 9) (by kernel_rfl) (by kernel_rfl) ?_
  refine RunI.callP rfl (isCall_func rfl ent_22) rfl rfl rfl (fun w hm => lspan5_calls _ _ w) (RunK.toA (.cons .here rfl (.cons .here rfl (.cons .here rfl (.cons .here rfl (.cons .here rfl (.cons .here rfl (.cons .here rfl (.cons .here rfl (.cons .here rfl (.cons .here rfl (.cons .here rfl (.cons .here rfl (.cons .here rfl (.cons .here rfl (.cons .here rfl (.cons .here rfl (.cons .here rfl (.cons .here rfl (.cons .here rfl (.cons .here rfl (.cons .here rfl .nil))))))))))))))))))))) (.cons .here rfl (.cons .here rfl (.cons .here rfl (.cons .here rfl (.cons .here rfl (.cons .here rfl (.cons .here rfl (.cons .here rfl (.cons .here rfl (.cons .here rfl (.cons .here rfl (.cons .here rfl (.cons .here rfl (.cons .here rfl (.cons .here rfl (.cons .here rfl (.cons .here rfl (.cons .here rfl (.cons .here rfl (.cons .here rfl (.cons .here rfl .nil))))))))))))))))))))) rfl ?_)
  refine RunA.val (i := 10) rfl (by kernel_rfl) (by kernel_rfl) (Val.neq_pair rfl rfl pair_23) rfl rfl rfl (fun _ _ _ h => h) (.cons .here rfl (.cons .here rfl (.cons .here rfl (.cons .here rfl (.cons .here rfl (.cons .here rfl (.cons .here rfl (.cons .here rfl (.cons .here rfl (.cons .here rfl (.cons .here rfl (.cons .here rfl (.cons .here rfl (.cons .here rfl (.cons .here rfl (.cons .here rfl (.cons .here rfl (.cons .here rfl (.cons .here rfl (.cons .here rfl (.cons .here rfl .nil))))))))))))))))))))) rfl ?_
  refine RunA.val (i := 11) rfl (by kernel_rfl) (by kernel_rfl) (Val.pure rfl) rfl rfl rfl (fun _ _ _ h => h) (.cons .here rfl (.cons .here rfl (.cons .here rfl (.cons .here rfl (.cons .here rfl (.cons .here rfl (.cons .here rfl (.cons .here rfl (.cons .here rfl (.cons .here rfl (.cons .here rfl (.cons .here rfl (.cons .here rfl (.cons .here rfl (.cons .here rfl (.cons .here rfl (.cons .here rfl (.cons .here rfl (.cons .here rfl (.cons .here rfl (.cons .here rfl .nil))))))))))))))))))))) rfl ?_
  refine RunA.val (i := 12) rfl (by kernel_rfl) (by kernel_rfl) (Val.pure rfl) rfl rfl rfl (fun _ _ _ h => h) (.cons .here rfl (.cons .here rfl (.cons .here rfl (.cons .here rfl (.cons .here rfl (.cons .here rfl (.cons .here rfl (.cons .here rfl (.cons .here rfl (.cons .here rfl (.cons .here rfl (.cons .here rfl (.cons .here rfl (.cons .here rfl (.cons .here rfl (.cons .here rfl (.cons .here rfl (.cons .here rfl (.cons .here rfl (.cons .here rfl (.cons .here rfl .nil))))))))))))))))))))) rfl ?_
  refine RunA.sure (dj := 75) false rfl (by simp) ?_
  refine RunA.val (i := 13) rfl (by kernel_rfl) (by kernel_rfl) (Val.load_agg rfl (.tail _ (.tail _ (.tail _ (.tail _ (.tail _ (.tail _ (.tail _ (.tail _ (.tail _ (.tail _ (.tail _ (.tail _ (.tail _ (.tail _ (.head _))))))))))))))) ty_23 rfl) rfl rfl rfl (fun _ _ _ h => h) (.cons .here rfl (.cons .here rfl (.cons .here rfl (.cons .here rfl (.cons .here rfl (.cons .here rfl (.cons .here rfl (.cons .here rfl (.cons .here rfl (.cons .here rfl (.cons .here rfl (.cons .here rfl (.cons .here rfl (.cons .here rfl (.cons .here rfl (.cons .here rfl (.cons .here rfl (.cons .here rfl (.cons .here rfl (.cons .here rfl (.cons .here rfl .nil))))))))))))))))))))) rfl ?_
  refine RunA.one (i := 14) (by kernel_rfl) (by kernel_rfl) ?_
  refine RunI.callP rfl (isCall_func rfl ent_22) rfl rfl rfl (fun w hm => lspan5_calls _ _ w) (RunK.toA (.cons .here rfl (.cons .here rfl (.cons .here rfl (.cons .here rfl (.cons .here rfl (.cons .here rfl (.cons .here rfl (.cons .here rfl (.cons .here rfl (.cons .here rfl (.cons .here rfl (.cons .here rfl (.cons .here rfl (.cons .here rfl (.cons .here rfl (.cons .here rfl (.cons .here rfl (.cons .here rfl (.cons .here rfl (.cons .here rfl (.cons .here rfl .nil))))))))))))))))))))) (.cons .here rfl (.cons .here rfl (.cons .here rfl (.cons .here rfl (.cons .here rfl (.cons .here rfl (.cons .here rfl (.cons .here rfl (.cons .here rfl (.cons .here rfl (.cons .here rfl (.cons .here rfl (.cons .here rfl (.cons .here rfl (.cons .here rfl (.cons .here rfl (.cons .here rfl (.cons .here rfl (.cons .here rfl (.cons .here rfl (.cons .here rfl .nil))))))))))))))))))))) rfl ?_)
  refine RunA.val (i := 15) rfl (by kernel_rfl) (by kernel_rfl) (Val.neq_pair rfl rfl pair_23) rfl rfl rfl (fun _ _ _ h => h) (.cons .here rfl (.cons .here rfl (.cons .here rfl (.cons .here rfl (.cons .here rfl (.cons .here rfl (.cons .here rfl (.cons .here rfl (.cons .here rfl (.cons .here rfl (.cons .here rfl (.cons .here rfl (.cons .here rfl (.cons .here rfl (.cons .here rfl (.cons .here rfl (.cons .here rfl (.cons .here rfl (.cons .here rfl (.cons .here rfl (.cons .here rfl .nil))))))))))))))))))))) rfl ?_
  refine RunA.val (i := 16) rfl (by kernel_rfl) (by kernel_rfl) (Val.pure rfl) rfl rfl rfl (fun _ _ _ h => h) (.cons .here rfl (.cons .here rfl (.cons .here rfl (.cons .here rfl (.cons .here rfl (.cons .here rfl (.cons .here rfl (.cons .here rfl (.cons .here rfl (.cons .here rfl (.cons .here rfl (.cons .here rfl (.cons .here rfl (.cons .here rfl (.cons .here rfl (.cons .here rfl (.cons .here rfl (.cons .here rfl (.cons .here rfl (.cons .here rfl (.cons .here rfl .nil))))))))))))))))))))) rfl ?_
  refine RunA.val (i := 17) rfl (by kernel_rfl) (by kernel_rfl) (Val.pure rfl) rfl rfl rfl (fun _ _ _ h => h) (.cons .here rfl (.cons .here rfl (.cons .here rfl (.cons .here rfl (.cons .here rfl (.cons .here rfl (.cons .here rfl (.cons .here rfl (.cons .here rfl (.cons .here rfl (.cons .here rfl (.cons .here rfl (.cons .here rfl (.cons .here rfl (.cons .here rfl (.cons .here rfl (.cons .here rfl (.cons .here rfl (.cons .here rfl (.cons .here rfl (.cons .here rfl .nil))))))))))))))))))))) rfl ?_
  refine RunA.sure (dj := 80) false rfl (by simp) ?_
  refine RunA.val (i := 18) rfl (by kernel_rfl) (by kernel_rfl) (Val.pure rfl) rfl rfl rfl (fun _ _ _ h => h) (.cons .here rfl (.cons .here rfl (.cons .here rfl (.cons .here rfl (.cons .here rfl (.cons .here rfl (.cons .here rfl (.cons .here rfl (.cons .here rfl (.cons .here rfl (.cons .here rfl (.cons .here rfl (.cons .here rfl (.cons .here rfl (.cons .here rfl (.cons .here rfl (.cons .here rfl (.cons .here rfl (.cons .here rfl (.cons .here rfl (.cons .here rfl .nil))))))))))))))))))))) rfl ?_
  refine RunA.val (i := 19) rfl (by kernel_rfl) (by kernel_rfl) (Val.pure rfl) rfl rfl rfl (fun _ _ _ h => h) (.cons .here rfl (.cons .here rfl (.cons .here rfl (.cons .here rfl (.cons .here rfl (.cons .here rfl (.cons .here rfl (.cons .here rfl (.cons .here rfl (.cons .here rfl (.cons .here rfl (.cons .here rfl (.cons .here rfl (.cons .here rfl (.cons .here rfl (.cons .here rfl (.cons .here rfl (.cons .here rfl (.cons .here rfl (.cons .here rfl (.cons .here rfl .nil))))))))))))))))))))) rfl ?_
  refine RunA.val (i := 20) rfl (by kernel_rfl) (by kernel_rfl) (Val.pure rfl) rfl rfl rfl (fun _ _ _ h => h) (.cons .here rfl (.cons .here rfl (.cons .here rfl (.cons .here rfl (.cons .here rfl (.cons .here rfl (.cons .here rfl (.cons .here rfl (.cons .here rfl (.cons .here rfl (.cons .here rfl (.cons .here rfl (.cons .here rfl (.cons .here rfl (.cons .here rfl (.cons .here rfl (.cons .here rfl (.cons .here rfl (.cons .here rfl (.cons .here rfl (.cons .here rfl .nil))))))))))))))))))))) rfl ?_
  refine RunA.val (i := 21) rfl (by kernel_rfl) (by kernel_rfl) (Val.pure rfl) rfl rfl rfl (fun _ _ _ h => h) (.cons .here rfl (.cons .here rfl (.cons .here rfl (.cons .here rfl (.cons .here rfl (.cons .here rfl (.cons .here rfl (.cons .here rfl (.cons .here rfl (.cons .here rfl (.cons .here rfl (.cons .here rfl (.cons .here rfl (.cons .here rfl (.cons .here rfl (.cons .here rfl (.cons .here rfl (.cons .here rfl (.cons .here rfl (.cons .here rfl (.cons .here rfl .nil))))))))))))))))))))) rfl ?_
  refine RunA.sure (dj := 84) false rfl (by simp) ?_
  refine RunA.val (i := 22) rfl (by kernel_rfl) (by kernel_rfl) (Val.load_agg rfl (.tail _ (.tail _ (.tail _ (.tail _ (.tail _ (.tail _ (.tail _ (.tail _ (.tail _ (.tail _ (.tail _ (.head _)))))))))))) ty_23 rfl) rfl rfl rfl (fun _ _ _ h => h) (.cons .here rfl (.cons .here rfl (.cons .here rfl (.cons .here rfl (.cons .here rfl (.cons .here rfl (.cons .here rfl (.cons .here rfl (.cons .here rfl (.cons .here rfl (.cons .here rfl (.cons .here rfl (.cons .here rfl (.cons .here rfl (.cons .here rfl (.cons .here rfl (.cons .here rfl (.cons .here rfl (.cons .here rfl (.cons .here rfl (.cons .here rfl .nil))))))))))))))))))))) rfl ?_
  refine RunA.one (i := 23) (by kernel_rfl) (by kernel_rfl) ?_
  refine RunI.callP rfl (isCall_func rfl ent_22) rfl rfl rfl (fun w hm => lspan5_calls _ _ w) (RunK.toA (.cons .here rfl (.cons .here rfl (.cons .here rfl (.cons .here rfl (.cons .here rfl (.cons .here rfl (.cons .here rfl (.cons .here rfl (.cons .here rfl (.cons .here rfl (.cons .here rfl (.cons .here rfl (.cons .here rfl (.cons .here rfl (.cons .here rfl (.cons .here rfl (.cons .here rfl (.cons .here rfl (.cons .here rfl (.cons .here rfl (.cons .here rfl .nil))))))))))))))))))))) (.cons .here rfl (.cons .here rfl (.cons .here rfl (.cons .here rfl (.cons .here rfl (.cons .here rfl (.cons .here rfl (.cons .here rfl (.cons .here rfl (.cons .here rfl (.cons .here rfl (.cons .here rfl (.cons .here rfl (.cons .here rfl (.cons .here rfl (.cons .here rfl (.cons .here rfl (.cons .here rfl (.cons .here rfl (.cons .here rfl (.cons .here rfl .nil))))))))))))))))))))) rfl ?_)
  refine RunA.toB (by kernel_rfl) ?_
  refine RunB.one (i := 24) (by kernel_rfl) ?_
  refine RunI.val rfl (Val.neq_pair rfl rfl pair_23) rfl rfl rfl (RunK.toB ?_)
  refine RunB.one (i := 25) (by kernel_rfl) ?_
  refine RunI.val rfl (Val.pure rfl) rfl rfl rfl (RunK.toB ?_)
  refine RunB.one (i := 26) (by kernel_rfl) ?_
  refine RunI.val rfl (Val.pure rfl) rfl rfl rfl (RunK.toB ?_)
  refine RunB.sure (dj := 89) false rfl (by simp) ?_
  refine RunB.one (i := 27) (by kernel_rfl) ?_
  refine RunI.val rfl (Val.pure rfl) rfl rfl rfl (RunK.toB ?_)
  refine RunB.one (i := 28) (by kernel_rfl) ?_
  refine RunI.val rfl (Val.pure rfl) rfl rfl rfl (RunK.toB ?_)
  refine RunB.one (i := 29) (by kernel_rfl) ?_
  refine RunI.val rfl (Val.pure rfl) rfl rfl rfl (RunK.toB ?_)
  refine RunB.done (by kernel_rfl) ?_
  refine RunE.next ?_
  refine RunC.cond rfl (fun h => absurd h (by simp)) ?_
  intro c0
  clear c0
  refine RunC.skip ?_
  refine RunE.next ?_
  refine RunC.seq ?_
  refine RunC.draw 2 fol_ (.cons .here rfl (.cons .here rfl (.cons .here rfl (.cons .here rfl (.cons .here rfl (.cons .here rfl (.cons .here rfl (.cons .here rfl (.cons .here rfl (.cons .here rfl (.cons .here rfl (.cons .here rfl (.cons .here rfl (.cons .here rfl (.cons .here rfl (.cons .here rfl (.cons .here rfl (.cons .here rfl (.cons .here rfl (.cons .here rfl (.cons .here rfl .nil))))))))))))))))))))) ?_
  refine RunA.val (i := 0) rfl (by kernel_rfl) (by kernel_rfl) (Val.load_agg rfl (.tail _ (.tail _ (.tail _ (.tail _ (.tail _ (.tail _ (.tail _ (.tail _ (.head _))))))))) ty_23 rfl) rfl rfl rfl (fun _ _ _ h => h) (.cons .here rfl (.cons .here rfl (.cons .here rfl (.cons .here rfl (.cons .here rfl (.cons .here rfl (.cons .here rfl (.cons .here rfl (.cons .here rfl (.cons .here rfl (.cons .here rfl (.cons .here rfl (.cons .here rfl (.cons .here rfl (.cons .here rfl (.cons .here rfl (.cons .here rfl (.cons .here rfl (.cons .here rfl (.cons .here rfl (.cons .here rfl .nil))))))))))))))))))))) rfl ?_
  refine RunA.one (i := 1) (by kernel_rfl) (by kernel_rfl) ?_
  refine RunI.callP rfl (isCall_func rfl ent_22) rfl rfl rfl (fun w hm => lspan5_calls _ _ w) (RunK.toA (.cons .here rfl (.cons .here rfl (.cons .here rfl (.cons .here rfl (.cons .here rfl (.cons .here rfl (.cons .here rfl (.cons .here rfl (.cons .here rfl (.cons .here rfl (.cons .here rfl (.cons .here rfl (.cons .here rfl (.cons .here rfl (.cons .here rfl (.cons .here rfl (.cons .here rfl (.cons .here rfl (.cons .here rfl (.cons .here rfl (.cons .here rfl .nil))))))))))))))))))))) (.cons .here rfl (.cons .here rfl (.cons .here rfl (.cons .here rfl (.cons .here rfl (.cons .here rfl (.cons .here rfl (.cons .here rfl (.cons .here rfl (.cons .here rfl (.cons .here rfl (.cons .here rfl (.cons .here rfl (.cons .here rfl (.cons .here rfl (.cons .here rfl (.cons .here rfl (.cons .here rfl (.cons .here rfl (.cons .here rfl (.cons .here rfl .nil))))))))))))))))))))) rfl ?_)
  refine RunA.toB (by kernel_rfl) ?_
  refine RunB.one (i := 2) (by kernel_rfl) ?_
  refine RunI.val rfl (Val.eql_pair rfl rfl pair_23) rfl rfl rfl (RunK.toB ?_)
  refine RunB.one (i := 3) (by kernel_rfl) ?_
  refine RunI.val rfl (Val.pure rfl) rfl rfl rfl (RunK.toB ?_)
  refine RunB.sure (dj := 96) true rfl (by simp) ?_
  refine RunB.one (i := 4) (by kernel_rfl) ?_
  refine RunI.val rfl (Val.pure rfl) rfl rfl rfl (RunK.toB ?_)
  refine RunB.one (i := 5) (by kernel_rfl) ?_
  refine RunI.val rfl (Val.pure rfl) rfl rfl rfl (RunK.toB ?_)
  refine RunB.one (i := 6) (by kernel_rfl) ?_
  refine RunI.val rfl (Val.pure rfl) rfl rfl rfl (RunK.toB ?_)
  refine RunB.one (i := 7) (by kernel_rfl) ?_
  refine RunI.val rfl (Val.pure rfl) rfl rfl rfl (RunK.toB ?_)
  refine RunB.sure (dj := 100) true rfl (by simp) ?_
  refine RunB.one (i := 8) (by kernel_rfl) ?_
  refine RunI.val rfl (Val.pure rfl) rfl rfl rfl (RunK.toB ?_)
  refine RunB.one (i := 9) (by kernel_rfl) ?_
  refine RunI.val rfl (Val.pure rfl) rfl rfl rfl (RunK.toB ?_)
  refine RunB.one (i := 10) (by kernel_rfl) ?_
  refine RunI.val rfl (Val.pure rfl) rfl rfl rfl (RunK.toB ?_)
  refine RunB.one (i := 11) (by kernel_rfl) ?_
  refine RunI.val rfl (Val.pure rfl) rfl rfl rfl (RunK.toB ?_)
  refine RunB.sure (dj := 104) true rfl (by simp) ?_
  refine RunB.one (i := 12) (by kernel_rfl) ?_
  refine RunI.val rfl (Val.pure rfl) rfl rfl rfl (RunK.toB ?_)
  refine RunB.one (i := 13) (by kernel_rfl) ?_
  refine RunI.val rfl (Val.pure rfl) rfl rfl rfl (RunK.toB ?_)
  refine RunB.one (i := 14) (by kernel_rfl) ?_
  refine RunI.val rfl (Val.pure rfl) rfl rfl rfl (RunK.toB ?_)
  refine RunB.one (i := 15) (by kernel_rfl) ?_
  refine RunI.val rfl (Val.pure rfl) rfl rfl rfl (RunK.toB ?_)
  refine RunB.sure (dj := 108) true rfl (by simp) ?_
  refine RunB.one (i := 16) (by kernel_rfl) ?_
  refine RunI.val rfl (Val.pure rfl) rfl rfl rfl (RunK.toB ?_)
  refine RunB.one (i := 17) (by kernel_rfl) ?_
  refine RunI.val rfl (Val.pure rfl) rfl rfl rfl (RunK.toB ?_)
  refine RunB.one (i := 18) (by kernel_rfl) ?_
  refine RunI.val rfl (Val.pure rfl) rfl rfl rfl (RunK.toB ?_)
  refine RunB.one (i := 19) (by kernel_rfl) ?_
  refine RunI.val rfl (Val.pure rfl) rfl rfl rfl (RunK.toB ?_)
  refine RunB.sure (dj := 112) true rfl (by simp) ?_
  refine RunB.one (i := 20) (by kernel_rfl) ?_
  refine RunI.val rfl (Val.pure rfl) rfl rfl rfl (RunK.toB ?_)
  refine RunB.one (i := 21) (by kernel_rfl) ?_
  refine RunI.val rfl (Val.pure rfl) rfl rfl rfl (RunK.toB ?_)
  refine RunB.one (i := 22) (by kernel_rfl) ?_
  refine RunI.val rfl (Val.pure rfl) rfl rfl rfl (RunK.toB ?_)
  refine RunB.one (i := 23) (by kernel_rfl) ?_
  refine RunI.val rfl (Val.pure rfl) rfl rfl rfl (RunK.toB ?_)
  refine RunB.sure (dj := 116) true rfl (by simp) ?_
  refine RunB.one (i := 24) (by kernel_rfl) ?_
  refine RunI.val rfl (Val.pure rfl) rfl rfl rfl (RunK.toB ?_)
  refine RunB.one (i := 25) (by kernel_rfl) ?_
  refine RunI.val rfl (Val.pure rfl) rfl rfl rfl (RunK.toB ?_)
  refine RunB.one (i := 26) (by kernel_rfl) ?_
  refine RunI.val rfl (Val.pure rfl) rfl rfl rfl (RunK.toB ?_)
  refine RunB.one (i := 27) (by kernel_rfl) ?_
  refine RunI.val rfl (Val.pure rfl) rfl rfl rfl (RunK.toB ?_)
  refine RunB.sure (dj := 120) true rfl (by simp) ?_
  refine RunB.one (i := 28) (by kernel_rfl) ?_
  refine RunI.val rfl (Val.pure rfl) rfl rfl rfl (RunK.toB ?_)
  refine RunB.one (i := 29) (by kernel_rfl) ?_
  refine RunI.val rfl (Val.pure rfl) rfl rfl rfl (RunK.toB ?_)
  refine RunB.one (i := 30) (by kernel_rfl) ?_
  refine RunI.val rfl (Val.pure rfl) rfl rfl rfl (RunK.toB ?_)
  refine RunB.one (i := 31) (by kernel_rfl) ?_
  refine RunI.val rfl (Val.pure rfl) rfl rfl rfl (RunK.toB ?_)
  refine RunB.sure (dj := 124) true rfl (by simp) ?_
  refine RunB.one (i := 32) (by kernel_rfl) ?_
  refine RunI.val rfl (Val.pure rfl) rfl rfl rfl (RunK.toB ?_)
  refine RunB.one (i := 33) (by kernel_rfl) ?_
  refine RunI.val rfl (Val.pure rfl) rfl rfl rfl (RunK.toB ?_)
  refine RunB.one (i := 34) (by kernel_rfl) ?_
  refine RunI.val rfl (Val.pure rfl) rfl rfl rfl (RunK.toB ?_)
  refine RunB.one (i := 35) (by kernel_rfl) ?_
  refine RunI.val rfl (Val.pure rfl) rfl rfl rfl (RunK.toB ?_)
  refine RunB.sure (dj := 128) true rfl (by simp) ?_
  refine RunB.one (i := 36) (by kernel_rfl) ?_
  refine RunI.val rfl (Val.pure rfl) rfl rfl rfl (RunK.toB ?_)
  refine RunB.one (i := 37) (by kernel_rfl) ?_
  refine RunI.val rfl (Val.pure rfl) rfl rfl rfl (RunK.toB ?_)
  refine RunB.one (i := 38) (by kernel_rfl) ?_
  refine RunI.val rfl (Val.pure rfl) rfl rfl rfl (RunK.toB ?_)
  refine RunB.one (i := 39) (by kernel_rfl) ?_
  refine RunI.val rfl (Val.pure rfl) rfl rfl rfl (RunK.toB ?_)
  refine RunB.sure (dj := 132) true rfl (by simp) ?_
  refine RunB.one (i := 40) (by kernel_rfl) ?_
  refine RunI.val rfl (Val.pure rfl) rfl rfl rfl (RunK.toB ?_)
  refine RunB.one (i := 41) (by kernel_rfl) ?_
  refine RunI.val rfl (Val.pure rfl) rfl rfl rfl (RunK.toB ?_)
  refine RunB.one (i := 42) (by kernel_rfl) ?_
  refine RunI.val rfl (Val.pure rfl) rfl rfl rfl (RunK.toB ?_)
  refine RunB.one (i := 43) (by kernel_rfl) ?_
  refine RunI.val rfl (Val.pure rfl) rfl rfl rfl (RunK.toB ?_)
  refine RunB.sure (dj := 136) true rfl (by simp) ?_
  refine RunB.one (i := 44) (by kernel_rfl) ?_
  refine RunI.val rfl (Val.pure rfl) rfl rfl rfl (RunK.toB ?_)
  refine RunB.one (i := 45) (by kernel_rfl) ?_
  refine RunI.val rfl (Val.pure rfl) rfl rfl rfl (RunK.toB ?_)
  refine RunB.one (i := 46) (by kernel_rfl) ?_
  refine RunI.val rfl (Val.pure rfl) rfl rfl rfl (RunK.toB ?_)
  refine RunB.one (i := 47) (by kernel_rfl) ?_
  refine RunI.val rfl (Val.pure rfl) rfl rfl rfl (RunK.toB ?_)
  refine RunB.done (by kernel_rfl) ?_
  refine RunE.next ?_
  refine RunC.ret ?_
  exact RunE.retP (.r1 rfl (.tmp rfl)) (by first | rfl | simp)
theorem names_calls (W : World) : Calls Try.prog 4 #[] W (Pure (.bool true) W) := by
  refine calls_start Try.func4 rfl rfl ?_
  refine RunC.seq ?_
  refine RunC.region ?_
  refine RunL.val (Val.pure rfl) rfl rfl rfl ?_
  refine RunL.nil ?_
  refine RunE.next ?_
  refine RunC.seq ?_
  refine RunC.region ?_
  refine RunL.callN (isCall_func rfl ent_19) rfl rfl rfl (fun w hm => sample5_calls w) (fun b14 => ?_)
  refine RunL.callP (isCall_func rfl ent_11) rfl rfl rfl (fun w hm => aMoved0 b14.1 b14.2 w (hm.at (.head _)) (hm.at (.tail _ (.head _)))) ?_
  iterate 3 refine RunL.val (Val.pure rfl) rfl rfl rfl ?_
  refine RunL.new (New.alloc zero_23) rfl rfl rfl (fun b1 => ?_)
  refine RunL.sto (Sto.store rfl rfl .here ty_23 rfl rfl) rfl rfl ?_
  refine RunL.val (Val.pure rfl) rfl rfl rfl ?_
  refine RunL.nil ?_
  refine RunE.next ?_
  refine RunC.seq ?_
  refine RunC.region ?_
  refine RunL.callN (isCall_func rfl ent_19) rfl rfl rfl (fun w hm => sample5_calls w) (fun b19 => ?_)
  refine RunL.callP (isCall_func rfl ent_11) rfl rfl rfl (fun w hm => aMoved2 b19.1 b19.2 w (hm.at (.head _)) (hm.at (.tail _ (.head _)))) ?_
  iterate 3 refine RunL.val (Val.pure rfl) rfl rfl rfl ?_
  refine RunL.new (New.alloc zero_23) rfl rfl rfl (fun b3 => ?_)
  refine RunL.sto (Sto.store rfl rfl .here ty_23 rfl rfl) rfl rfl ?_
  refine RunL.val (Val.pure rfl) rfl rfl rfl ?_
  refine RunL.nil ?_
  refine RunE.next ?_
  refine RunC.seq ?_
  refine RunC.region ?_
  refine RunL.callN (isCall_func rfl ent_19) rfl rfl rfl (fun w hm => sample5_calls w) (fun b24 => ?_)
  refine RunL.callP (isCall_func rfl ent_20) rfl rfl rfl (fun w hm => aAlike0 b24.1 b24.2 w (hm.at (.head _)) (hm.at (.tail _ (.head _)))) ?_
  iterate 5 refine RunL.val (Val.pure rfl) rfl rfl rfl ?_
  refine RunL.nil ?_
  refine RunE.next ?_
  refine RunC.seq ?_
  refine RunC.region ?_
  refine RunL.callN (isCall_func rfl ent_19) rfl rfl rfl (fun w hm => sample5_calls w) (fun b29 => ?_)
  refine RunL.callP (isCall_func rfl ent_21) rfl rfl rfl (fun w hm => aArrives19 b29.1 b29.2 w (hm.at (.head _)) (hm.at (.tail _ (.head _)))) ?_
  iterate 7 refine RunL.val (Val.pure rfl) rfl rfl rfl ?_
  refine RunL.nil ?_
  refine RunE.next ?_
  refine RunC.seq ?_
  refine RunC.region ?_
  refine RunL.callN (isCall_func rfl ent_19) rfl rfl rfl (fun w hm => sample5_calls w) (fun b35 => ?_)
  refine RunL.callP (isCall_func rfl ent_21) rfl rfl rfl (fun w hm => aArrives0 b35.1 b35.2 w (hm.at (.head _)) (hm.at (.tail _ (.head _)))) ?_
  iterate 7 refine RunL.val (Val.pure rfl) rfl rfl rfl ?_
  refine RunL.nil ?_
  refine RunE.next ?_
  refine RunC.seq ?_
  refine RunC.draw 6 fol_ (.cons .here rfl (.cons .here rfl (.cons .here rfl (.cons .here rfl (.cons .here rfl (.cons .here rfl (.cons .here rfl (.cons .here rfl (.cons .here rfl (.cons .here rfl (.cons .here rfl (.cons .here rfl .nil)))))))))))) ?_
  refine RunA.val (i := 0) rfl (by kernel_rfl) (by kernel_rfl) (Val.pure rfl) rfl rfl rfl (fun _ _ _ h => h) (.cons .here rfl (.cons .here rfl (.cons .here rfl (.cons .here rfl (.cons .here rfl (.cons .here rfl (.cons .here rfl (.cons .here rfl (.cons .here rfl (.cons .here rfl (.cons .here rfl (.cons .here rfl .nil)))))))))))) rfl ?_
  refine RunA.sure (dj := 40) true rfl (by simp) ?_
  refine RunA.one (i := 1) (by kernel_rfl) (by kernel_rfl) ?_
  refine RunI.callP rfl (isCall_func rfl ent_10) rfl rfl rfl (fun w hm => alive_calls w) (RunK.toA (.cons .here rfl (.cons .here rfl (.cons .here rfl (.cons .here rfl (.cons .here rfl (.cons .here rfl (.cons .here rfl (.cons .here rfl (.cons .here rfl (.cons .here rfl (.cons .here rfl (.cons .here rfl .nil)))))))))))) (.cons .here rfl (.cons .here rfl (.cons .here rfl (.cons .here rfl (.cons .here rfl (.cons .here rfl (.cons .here rfl (.cons .here rfl (.cons .here rfl (.cons .here rfl (.cons .here rfl (.cons .here rfl .nil)))))))))))) rfl ?_)
  refine RunA.val (i := 2) rfl (by kernel_rfl) (by kernel_rfl) (Val.pure rfl) rfl rfl rfl (fun _ _ _ h => h) (.cons .here rfl (.cons .here rfl (.cons .here rfl (.cons .here rfl (.cons .here rfl (.cons .here rfl (.cons .here rfl (.cons .here rfl (.cons .here rfl (.cons .here rfl (.cons .here rfl (.cons .here rfl .nil)))))))))))) rfl ?_
  refine RunA.val (i := 3) rfl (by kernel_rfl) (by kernel_rfl) (Val.pure rfl) rfl rfl rfl (fun _ _ _ h => h) (.cons .here rfl (.cons .here rfl (.cons .here rfl (.cons .here rfl (.cons .here rfl (.cons .here rfl (.cons .here rfl (.cons .here rfl (.cons .here rfl (.cons .here rfl (.cons .here rfl (.cons .here rfl .nil)))))))))))) rfl ?_
  refine RunA.sure (dj := 43) true rfl (by simp) ?_
  refine RunA.val (i := 4) rfl (by kernel_rfl) (by kernel_rfl) (Val.load_agg rfl (.tail _ (.tail _ (.tail _ (.tail _ (.tail _ (.tail _ (.tail _ (.tail _ (.tail _ (.head _)))))))))) ty_23 rfl) rfl rfl rfl (fun _ _ _ h => h) (.cons .here rfl (.cons .here rfl (.cons .here rfl (.cons .here rfl (.cons .here rfl (.cons .here rfl (.cons .here rfl (.cons .here rfl (.cons .here rfl (.cons .here rfl (.cons .here rfl (.cons .here rfl .nil)))))))))))) rfl ?_
  refine RunA.one (i := 5) (by kernel_rfl) (by kernel_rfl) ?_
  refine RunI.callP rfl (isCall_func rfl ent_22) rfl rfl rfl (fun w hm => lspan5_calls _ _ w) (RunK.toA (.cons .here rfl (.cons .here rfl (.cons .here rfl (.cons .here rfl (.cons .here rfl (.cons .here rfl (.cons .here rfl (.cons .here rfl (.cons .here rfl (.cons .here rfl (.cons .here rfl (.cons .here rfl .nil)))))))))))) (.cons .here rfl (.cons .here rfl (.cons .here rfl (.cons .here rfl (.cons .here rfl (.cons .here rfl (.cons .here rfl (.cons .here rfl (.cons .here rfl (.cons .here rfl (.cons .here rfl (.cons .here rfl .nil)))))))))))) rfl ?_)
  refine RunA.toB (by kernel_rfl) ?_
  refine RunB.one (i := 6) (by kernel_rfl) ?_
  refine RunI.val rfl (Val.eql_pair rfl rfl pair_23) rfl rfl rfl (RunK.toB ?_)
  refine RunB.one (i := 7) (by kernel_rfl) ?_
  refine RunI.val rfl (Val.pure rfl) rfl rfl rfl (RunK.toB ?_)
  refine RunB.one (i := 8) (by kernel_rfl) ?_
  refine RunI.val rfl (Val.pure rfl) rfl rfl rfl (RunK.toB ?_)
  refine RunB.sure (dj := 48) true rfl (by simp) ?_
  refine RunB.one (i := 9) (by kernel_rfl) ?_
  refine RunI.val rfl (Val.pure rfl) rfl rfl rfl (RunK.toB ?_)
  refine RunB.one (i := 10) (by kernel_rfl) ?_
  refine RunI.val rfl (Val.pure rfl) rfl rfl rfl (RunK.toB ?_)
  refine RunB.one (i := 11) (by kernel_rfl) ?_
  refine RunI.val rfl (Val.pure rfl) rfl rfl rfl (RunK.toB ?_)
  refine RunB.one (i := 12) (by kernel_rfl) ?_
  refine RunI.val rfl (Val.pure rfl) rfl rfl rfl (RunK.toB ?_)
  refine RunB.sure (dj := 52) true rfl (by simp) ?_
  refine RunB.one (i := 13) (by kernel_rfl) ?_
  refine RunI.val rfl (Val.pure rfl) rfl rfl rfl (RunK.toB ?_)
  refine RunB.one (i := 14) (by kernel_rfl) ?_
  refine RunI.val rfl (Val.pure rfl) rfl rfl rfl (RunK.toB ?_)
  refine RunB.one (i := 15) (by kernel_rfl) ?_
  refine RunI.val rfl (Val.pure rfl) rfl rfl rfl (RunK.toB ?_)
  refine RunB.one (i := 16) (by kernel_rfl) ?_
  refine RunI.val rfl (Val.pure rfl) rfl rfl rfl (RunK.toB ?_)
  refine RunB.sure (dj := 56) true rfl (by simp) ?_
  refine RunB.one (i := 17) (by kernel_rfl) ?_
  refine RunI.val rfl (Val.pure rfl) rfl rfl rfl (RunK.toB ?_)
  refine RunB.one (i := 18) (by kernel_rfl) ?_
  refine RunI.val rfl (Val.pure rfl) rfl rfl rfl (RunK.toB ?_)
  refine RunB.one (i := 19) (by kernel_rfl) ?_
  refine RunI.val rfl (Val.pure rfl) rfl rfl rfl (RunK.toB ?_)
  refine RunB.one (i := 20) (by kernel_rfl) ?_
  refine RunI.val rfl (Val.pure rfl) rfl rfl rfl (RunK.toB ?_)
  refine RunB.sure (dj := 60) true rfl (by simp) ?_
  refine RunB.one (i := 21) (by kernel_rfl) ?_
  refine RunI.val rfl (Val.pure rfl) rfl rfl rfl (RunK.toB ?_)
  refine RunB.one (i := 22) (by kernel_rfl) ?_
  refine RunI.val rfl (Val.pure rfl) rfl rfl rfl (RunK.toB ?_)
  refine RunB.one (i := 23) (by kernel_rfl) ?_
  refine RunI.val rfl (Val.pure rfl) rfl rfl rfl (RunK.toB ?_)
  refine RunB.one (i := 24) (by kernel_rfl) ?_
  refine RunI.val rfl (Val.pure rfl) rfl rfl rfl (RunK.toB ?_)
  refine RunB.sure (dj := 64) true rfl (by simp) ?_
  refine RunB.one (i := 25) (by kernel_rfl) ?_
  refine RunI.val rfl (Val.pure rfl) rfl rfl rfl (RunK.toB ?_)
  refine RunB.one (i := 26) (by kernel_rfl) ?_
  refine RunI.val rfl (Val.pure rfl) rfl rfl rfl (RunK.toB ?_)
  refine RunB.one (i := 27) (by kernel_rfl) ?_
  refine RunI.val rfl (Val.pure rfl) rfl rfl rfl (RunK.toB ?_)
  refine RunB.one (i := 28) (by kernel_rfl) ?_
  refine RunI.val rfl (Val.pure rfl) rfl rfl rfl (RunK.toB ?_)
  refine RunB.sure (dj := 68) true rfl (by simp) ?_
  refine RunB.one (i := 29) (by kernel_rfl) ?_
  refine RunI.val rfl (Val.pure rfl) rfl rfl rfl (RunK.toB ?_)
  refine RunB.one (i := 30) (by kernel_rfl) ?_
  refine RunI.val rfl (Val.pure rfl) rfl rfl rfl (RunK.toB ?_)
  refine RunB.one (i := 31) (by kernel_rfl) ?_
  refine RunI.val rfl (Val.pure rfl) rfl rfl rfl (RunK.toB ?_)
  refine RunB.one (i := 32) (by kernel_rfl) ?_
  refine RunI.val rfl (Val.pure rfl) rfl rfl rfl (RunK.toB ?_)
  refine RunB.sure (dj := 72) true rfl (by simp) ?_
  refine RunB.one (i := 33) (by kernel_rfl) ?_
  refine RunI.val rfl (Val.pure rfl) rfl rfl rfl (RunK.toB ?_)
  refine RunB.one (i := 34) (by kernel_rfl) ?_
  refine RunI.val rfl (Val.pure rfl) rfl rfl rfl (RunK.toB ?_)
  refine RunB.one (i := 35) (by kernel_rfl) ?_
  refine RunI.val rfl (Val.pure rfl) rfl rfl rfl (RunK.toB ?_)
  refine RunB.one (i := 36) (by kernel_rfl) ?_
  refine RunI.val rfl (Val.pure rfl) rfl rfl rfl (RunK.toB ?_)
  refine RunB.sure (dj := 76) true rfl (by simp) ?_
  refine RunB.one (i := 37) (by kernel_rfl) ?_
  refine RunI.val rfl (Val.pure rfl) rfl rfl rfl (RunK.toB ?_)
  refine RunB.one (i := 38) (by kernel_rfl) ?_
  refine RunI.val rfl (Val.pure rfl) rfl rfl rfl (RunK.toB ?_)
  refine RunB.one (i := 39) (by kernel_rfl) ?_
  refine RunI.val rfl (Val.pure rfl) rfl rfl rfl (RunK.toB ?_)
  refine RunB.one (i := 40) (by kernel_rfl) ?_
  refine RunI.val rfl (Val.pure rfl) rfl rfl rfl (RunK.toB ?_)
  refine RunB.done (by kernel_rfl) ?_
  refine RunE.next ?_
  refine RunC.ret ?_
  exact RunE.retP (.r1 rfl (.tmp rfl)) (by first | rfl | simp)
end Go.Proofs.Ytjijeeadmhpfcaa
/- Layer 1 in plain words: the reference's Fewest. -/
set_option linter.unusedSimpArgs false
set_option linter.unusedVariables false
namespace Go.Pw1
open Go Go.Eng
def hasR (s i : Nat) : Bool := decide (s / 2 ^ i % 2 = 1)
def withK (p : Pr) (s : Nat) : Nat → Int × Int
  | 0 => allS p
  | k + 1 => if hasR s k then withK p s k else nar (withK p s k) (powersR p (thingAt p k))
theorem withK_in {p : Pr} {s k : Nat} {t : Th} (ht : thingAt p k = t) (h : hasR s k = false) : withK p s (k + 1) = nar (withK p s k) (powersR p t) := by simp [withK, h, ht]
theorem withK_out {p : Pr} {s k : Nat} (h : hasR s k = true) : withK p s (k + 1) = withK p s k := by simp [withK, h]
theorem lt12 {s k : Nat} (hs : s < 4096) (h : 0 < ((s / 2 ^ k : Nat) : Int)) : k < 12 := by
  rcases Nat.lt_or_ge k 12 with h1 | h1
  · exact h1
  · have h2 : 2 ^ 12 ≤ 2 ^ k := Nat.pow_le_pow_right (by omega) h1
    have h3 : s / 2 ^ k = 0 := Nat.div_eq_of_lt (by omega)
    rw [h3] at h; simp at h
theorem pc_done {s k : Nat} (h : s / 2 ^ k = 0) : ∀ j, pc s (k + j) = pc s k
  | 0 => rfl
  | j + 1 => by
    have h2 : s / 2 ^ (k + j) = 0 := by rw [Nat.pow_add, ← Nat.div_div_eq_div_mul, h]; simp
    show pc s (k + j) + s / 2 ^ (k + j) % 2 = _
    rw [h2, pc_done h j]; simp
theorem pc_le (s : Nat) : ∀ k, pc s k ≤ k
  | 0 => Nat.le_refl _
  | k + 1 => by have := pc_le s k; show pc s k + _ ≤ _; omega
def rbestK (p : Pr) : Nat → Int
  | 0 => -1
  | k + 1 => if isB (withK p k p.things.length) = true ∧ (rbestK p k < 0 ∨ pc k 12 < pc (rbestK p k).toNat 12) then (k : Int) else rbestK p k
theorem rbestK_rng (p : Pr) : ∀ k, -1 ≤ rbestK p k ∧ rbestK p k < (k : Int) + 1 ∧ (rbestK p k = -1 ∨ rbestK p k < k)
  | 0 => by simp [rbestK]
  | k + 1 => by
    have := rbestK_rng p k
    unfold rbestK
    split <;> omega
theorem rbestK_yes {p : Pr} {k : Nat} (h : isB (withK p k p.things.length) = true) (h2 : rbestK p k < 0 ∨ pc k 12 < pc (rbestK p k).toNat 12) : rbestK p (k + 1) = k := by simp [rbestK, h, h2]
theorem rbestK_no {p : Pr} {k : Nat} (h : ¬ (isB (withK p k p.things.length) = true ∧ (rbestK p k < 0 ∨ pc k 12 < pc (rbestK p k).toNat 12))) : rbestK p (k + 1) = rbestK p k := by rw [rbestK, if_neg h]
def rfewX (p : Pr) : Int × (Int × Int) × Int :=
  let s := openR p true
  if s.2 ≠ 0 then (0, (0, 0), s.2) else
  let m := rbestK p (2 ^ p.things.length)
  (m, withK p m.toNat p.things.length, 0)
end Go.Pw1
/- Layer 1, the plain law of Fewest: the package's best set is the reference's. -/
set_option linter.unusedSimpArgs false
set_option linter.unusedVariables false
namespace Go.Pw1
open Go Go.Eng
/-- A number within bounds. -/
def InB (x : Int) (b : Int × Int) : Prop := b.1 ≤ x ∧ x ≤ b.2
theorem inB_nar {x : Int} {a b : Int × Int} : InB x (nar a b) ↔ InB x a ∧ InB x b := by simp only [InB, nar]; omega
theorem isB_iff {b : Int × Int} : isB b = true ↔ InB b.1 b := by simp only [isB, InB, decide_eq_true_eq]; omega
theorem isB_of {b : Int × Int} {x : Int} (h : InB x b) : isB b = true := by simp only [isB, InB, decide_eq_true_eq] at *; omega
theorem hasR_bit (s i : Nat) : hasR s i = s.testBit i := by
  unfold hasR
  rw [Nat.testBit_eq_decide_div_mod_eq]
theorem with_in {p : Pr} {s : Nat} {x : Int} : ∀ k, InB x (withK p s k) ↔ InB x (allS p) ∧ ∀ i, i < k → s.testBit i = false → InB x (powersR p (thingAt p i))
  | 0 => by simp [withK]
  | k + 1 => by
    have ih := with_in (p := p) (s := s) (x := x) k
    unfold withK
    rw [hasR_bit]
    cases hb : s.testBit k with
    | true =>
      simp only [if_true, ih]
      exact ⟨fun ⟨h1, h2⟩ => ⟨h1, fun i hi hs => h2 i (by rcases Nat.lt_succ_iff_lt_or_eq.1 hi with h | rfl; exact h; rw [hb] at hs; cases hs) hs⟩, fun ⟨h1, h2⟩ => ⟨h1, fun i hi hs => h2 i (by omega) hs⟩⟩
    | false =>
      simp only [Bool.false_eq_true, if_false, inB_nar, ih]
      exact ⟨fun ⟨⟨h1, h2⟩, h3⟩ => ⟨h1, fun i hi hs => by rcases Nat.lt_succ_iff_lt_or_eq.1 hi with h | rfl; exact h2 i h hs; exact h3⟩, fun ⟨h1, h2⟩ => ⟨⟨h1, fun i hi hs => h2 i (by omega) hs⟩, h2 k (by omega) hb⟩⟩
theorem with_lo (p : Pr) (s : Nat) : ∀ k, (allS p).1 ≤ (withK p s k).1 ∧ ((withK p s k).1 = (allS p).1 ∨ ∃ i, i < k ∧ s.testBit i = false ∧ (withK p s k).1 = max (allS p).1 (powersR p (thingAt p i)).1)
  | 0 => by simp [withK]
  | k + 1 => by
    obtain ⟨h0, ih⟩ := with_lo p s k
    unfold withK
    rw [hasR_bit]
    cases hb : s.testBit k with
    | true =>
      simp only [if_true]
      refine ⟨h0, ?_⟩
      rcases ih with h | ⟨i, hi, hs, h⟩
      · exact .inl h
      · exact .inr ⟨i, by omega, hs, h⟩
    | false =>
      simp only [Bool.false_eq_true, if_false, nar]
      refine ⟨by omega, ?_⟩
      by_cases hc : (powersR p (thingAt p k)).1 ≤ (withK p s k).1
      · rw [Int.max_eq_left hc]
        rcases ih with h | ⟨i, hi, hs, h⟩
        · exact .inl h
        · exact .inr ⟨i, by omega, hs, h⟩
      · exact .inr ⟨k, by omega, hb, by omega⟩
theorem still_at (p : Pr) (t : Th) (x : Int) : (stillS p t (x, x)).2 = true ↔ InB x (powersR p t) := by
  rw [still_eq, isB, decide_eq_true_eq]
  simp only [InB, nar]
  constructor
  · intro h; omega
  · intro h; omega
theorem moved_bit (p : Pr) (x : Int) : ∀ k i, (movedK p x k).testBit i = (decide (i < k) && !(stillS p (thingAt p i) (x, x)).2)
  | 0, i => by simp [movedK]
  | k + 1, i => by
    have ih := moved_bit p x k i
    unfold movedK
    cases hs : (stillS p (thingAt p k) (x, x)).2 with
    | true =>
      simp only [if_true, ih]
      by_cases h : i = k
      · subst h; simp [hs]
      · rw [show decide (i < k + 1) = decide (i < k) from decide_eq_decide.2 (by omega)]
    | false =>
      simp only [Bool.false_eq_true, if_false, Nat.testBit_or, ih, Nat.testBit_two_pow]
      by_cases h : i = k
      · subst h; simp [hs]
      · rw [show decide (i < k + 1) = decide (i < k) from decide_eq_decide.2 (by omega), decide_eq_false (p := k = i) (fun e => h e.symm), Bool.or_false]
theorem pc_mono {a b : Nat} (h : ∀ i, a.testBit i = true → b.testBit i = true) : ∀ k, pc a k ≤ pc b k
  | 0 => Nat.le_refl _
  | k + 1 => by
    have ih := pc_mono h k
    have h1 := h k
    rw [Nat.testBit_eq_decide_div_mod_eq, Nat.testBit_eq_decide_div_mod_eq, decide_eq_true_eq, decide_eq_true_eq] at h1
    show pc a k + a / 2 ^ k % 2 ≤ pc b k + b / 2 ^ k % 2
    generalize a / 2 ^ k = u at *
    generalize b / 2 ^ k = v at *
    omega
theorem le_of_bits {a b : Nat} (h : ∀ i, a.testBit i = true → b.testBit i = true) : a ≤ b := by
  have : a &&& b = a := by
    apply Nat.eq_of_testBit_eq
    intro i
    rw [Nat.testBit_and]
    cases ha : a.testBit i with
    | false => rfl
    | true => rw [h i ha]; rfl
  rw [← this]
  exact Nat.and_le_right
/-- The order of sets: by how many they are, then by number. -/
def Le (s u : Nat) : Prop := pc s 12 < pc u 12 ∨ (pc s 12 = pc u 12 ∧ s ≤ u)
theorem Le.refl (s : Nat) : Le s s := .inr ⟨rfl, Nat.le_refl _⟩
theorem Le.trans {a b c : Nat} (h : Le a b) (h2 : Le b c) : Le a c := by unfold Le at *; omega
theorem Le.eq {a b : Nat} (h : Le a b) (h2 : Le b a) : a = b := by unfold Le at *; omega
theorem Le.total (a b : Nat) : Le a b ∨ Le b a := by unfold Le; omega
theorem better_le (b s : Nat) : Le (better b s) b ∧ Le (better b s) s ∧ (better b s = b ∨ better b s = s) := by
  unfold better befS
  split
  · rename_i h
    obtain ⟨h1, h2⟩ := h
    rw [Bool.or_eq_false_iff, Bool.and_eq_false_iff, decide_eq_false_iff_not, decide_eq_false_iff_not, decide_eq_false_iff_not] at h2
    refine ⟨?_, .refl s, .inr rfl⟩
    unfold Le; omega
  · rename_i h
    refine ⟨.refl b, ?_, .inl rfl⟩
    rw [Bool.or_eq_false_iff, Bool.and_eq_false_iff, decide_eq_false_iff_not, decide_eq_false_iff_not, decide_eq_false_iff_not] at h
    by_cases hsb : s = b
    · subst hsb; exact .refl s
    · have h2 := fun hh => h ⟨hsb, hh⟩
      unfold Le; omega
theorem bestL_le (p : Pr) : ∀ (l : List Int) (s0 : Nat), Le (bestL p s0 l) s0 ∧ (∀ x ∈ l, Le (bestL p s0 l) (movedS p x)) ∧ (bestL p s0 l = s0 ∨ ∃ x ∈ l, bestL p s0 l = movedS p x)
  | [], s0 => ⟨.refl _, fun _ h => by simp at h, .inl rfl⟩
  | x :: l, s0 => by
    obtain ⟨h1, h2, h3⟩ := bestL_le p l (better s0 (movedS p x))
    obtain ⟨b1, b2, b3⟩ := better_le s0 (movedS p x)
    rw [show bestL p s0 (x :: l) = bestL p (better s0 (movedS p x)) l from rfl]
    refine ⟨h1.trans b1, fun y hy => ?_, ?_⟩
    · rcases List.mem_cons.1 hy with rfl | hy
      · exact h1.trans b2
      · exact h2 y hy
    · rcases h3 with h3 | ⟨y, hy, h3⟩
      · rcases b3 with b3 | b3
        · exact .inl (h3.trans b3)
        · exact .inr ⟨x, by simp, h3.trans b3⟩
      · exact .inr ⟨y, by simp [hy], h3⟩
theorem tried_mem (p : Pr) (pw : Int × Int) : ∀ k x, x ∈ triedK p pw k ↔ x = pw.1 ∨ ∃ i, i < k ∧ (stillS p (thingAt p i) pw).2 = true ∧ x = (stillS p (thingAt p i) pw).1.1
  | 0, x => by simp [triedK]
  | k + 1, x => by
    have ih := tried_mem p pw k x
    unfold triedK
    split
    · rename_i hs
      simp only [List.mem_append, List.mem_singleton, ih]
      constructor
      · rintro ((h | ⟨i, hi, h⟩) | h)
        · exact .inl h
        · exact .inr ⟨i, by omega, h⟩
        · exact .inr ⟨k, by omega, hs, h⟩
      · rintro (h | ⟨i, hi, h1, h2⟩)
        · exact .inl (.inl h)
        · rcases Nat.lt_succ_iff_lt_or_eq.1 hi with h | rfl
          · exact .inl (.inr ⟨i, h, h1, h2⟩)
          · exact .inr h2
    · rename_i hs
      rw [ih]
      constructor
      · rintro (h | ⟨i, hi, h⟩)
        · exact .inl h
        · exact .inr ⟨i, by omega, h⟩
      · rintro (h | ⟨i, hi, h1, h2⟩)
        · exact .inl h
        · rcases Nat.lt_succ_iff_lt_or_eq.1 hi with h | rfl
          · exact .inr ⟨i, h, h1, h2⟩
          · exact absurd h1 hs
/-- A set that explains all: the powers with which the others stand still are some. -/
def Good (p : Pr) (s : Nat) : Prop := isB (withK p s p.things.length) = true
theorem still_at_false {p : Pr} {t : Th} {x : Int} (h : (stillS p t (x, x)).2 = false) : ¬ InB x (powersR p t) := fun hi => by rw [(still_at p t x).2 hi] at h; cases h
theorem moved_in {p : Pr} {x : Int} (hx : InB x (allS p)) : InB x (withK p (movedS p x) p.things.length) := by
  rw [with_in]
  refine ⟨hx, fun i hi hb => ?_⟩
  unfold movedS at hb
  rw [moved_bit, decide_eq_true hi, Bool.true_and, Bool.not_eq_false'] at hb
  exact (still_at p _ x).1 hb
theorem moved_good {p : Pr} {x : Int} (hx : InB x (allS p)) : Good p (movedS p x) := isB_of (moved_in hx)
theorem tried_all {p : Pr} (h : isB (allS p) = true) {x : Int} (hx : x ∈ triedS p (allS p)) : InB x (allS p) := by
  rcases (tried_mem p _ _ x).1 hx with rfl | ⟨i, hi, hs, rfl⟩
  · exact isB_iff.1 h
  · have h1 := still_nar hs
    rw [still_eq] at hs
    rw [h1]
    exact (inB_nar.1 (isB_iff.1 hs)).1
theorem good_below {p : Pr} {s : Nat} (hg : Good p s) : ∃ x, x ∈ triedS p (allS p) ∧ (∀ i, (movedS p x).testBit i = true → s.testBit i = true) := by
  have hin := isB_iff.1 hg
  refine ⟨(withK p s p.things.length).1, ?_, fun i hi => ?_⟩
  · refine (tried_mem p _ _ _).2 ?_
    obtain ⟨h0, h | ⟨i, hi, hs, h⟩⟩ := with_lo p s p.things.length
    · exact .inl h
    · refine .inr ⟨i, hi, ?_, ?_⟩
      · rw [still_eq]
        exact isB_of (inB_nar.2 ⟨((with_in _).1 hin).1, ((with_in _).1 hin).2 i hi hs⟩)
      · have hst : (stillS p (thingAt p i) (allS p)).2 = true := by
          rw [still_eq]
          exact isB_of (inB_nar.2 ⟨((with_in _).1 hin).1, ((with_in _).1 hin).2 i hi hs⟩)
        rw [still_nar hst]
        exact h
  · unfold movedS at hi
    rw [moved_bit, Bool.and_eq_true, decide_eq_true_eq, Bool.not_eq_true'] at hi
    cases hs : s.testBit i with
    | true => rfl
    | false => exact absurd (((with_in _).1 hin).2 i hi.1 hs) (still_at_false hi.2)
theorem good_le {p : Pr} {s : Nat} (hg : Good p s) : Le (bestS p (allS p)) s := by
  obtain ⟨x, hx, hb⟩ := good_below hg
  obtain ⟨_, h2, _⟩ := bestL_le p (triedS p (allS p)) (movedS p (allS p).1)
  refine (h2 x hx).trans ?_
  have h3 := pc_mono hb 12
  have h4 := le_of_bits hb
  unfold Le; omega
theorem best_good {p : Pr} (h : isB (allS p) = true) : Good p (bestS p (allS p)) ∧ bestS p (allS p) < 2 ^ p.things.length := by
  obtain ⟨_, _, h3 | ⟨x, hx, h3⟩⟩ := bestL_le p (triedS p (allS p)) (movedS p (allS p).1)
  · rw [show bestS p (allS p) = movedS p (allS p).1 from h3]
    exact ⟨moved_good (isB_iff.1 h), movedK_lt p _ _⟩
  · rw [show bestS p (allS p) = movedS p x from h3]
    exact ⟨moved_good (tried_all h hx), movedK_lt p _ _⟩
theorem rbest_is (p : Pr) : ∀ K, (rbestK p K = -1 ∧ ∀ k, k < K → ¬ Good p k) ∨ ∃ r : Nat, rbestK p K = r ∧ r < K ∧ Good p r ∧ ∀ k, k < K → Good p k → Le r k
  | 0 => .inl ⟨rfl, fun k h => by omega⟩
  | K + 1 => by
    rcases rbest_is p K with ⟨h1, h2⟩ | ⟨r, h1, h2, h3, h4⟩
    · by_cases hg : Good p K
      · right
        refine ⟨K, rbestK_yes hg (.inl (by omega)), by omega, hg, fun k hk hgk => ?_⟩
        rcases Nat.lt_succ_iff_lt_or_eq.1 hk with h | rfl
        · exact absurd hgk (h2 k h)
        · exact .refl _
      · left
        refine ⟨by rw [rbestK_no (fun h => hg h.1)]; exact h1, fun k hk => ?_⟩
        rcases Nat.lt_succ_iff_lt_or_eq.1 hk with h | rfl
        · exact h2 k h
        · exact hg
    · right
      by_cases hc : Good p K ∧ pc K 12 < pc r 12
      · refine ⟨K, rbestK_yes hc.1 (.inr (by rw [h1]; exact hc.2)), by omega, hc.1, fun k hk hgk => ?_⟩
        rcases Nat.lt_succ_iff_lt_or_eq.1 hk with h | rfl
        · exact Le.trans (.inl hc.2) (h4 k h hgk)
        · exact .refl _
      · refine ⟨r, ?_, by omega, h3, fun k hk hgk => ?_⟩
        · rw [rbestK_no (fun h => hc ⟨h.1, ?_⟩)]
          · exact h1
          · rcases h.2 with h | h
            · rw [h1] at h; omega
            · rw [h1] at h; exact h
        · rcases Nat.lt_succ_iff_lt_or_eq.1 hk with h | rfl
          · exact h4 k h hgk
          · have : ¬ pc k 12 < pc r 12 := fun h => hc ⟨hgk, h⟩
            unfold Le; omega
theorem rbest_eq {p : Pr} (h : isB (allS p) = true) : rbestK p (2 ^ p.things.length) = (bestS p (allS p) : Int) := by
  obtain ⟨g1, g2⟩ := best_good h
  rcases rbest_is p (2 ^ p.things.length) with ⟨_, h2⟩ | ⟨r, h1, h2, h3, h4⟩
  · exact absurd g1 (h2 _ g2)
  · rw [h1, Le.eq (h4 _ g2 g1) (good_le h3)]
theorem rbest_ge {p : Pr} (h : isB (allS p) = true) : 0 ≤ rbestK p (2 ^ p.things.length) := by rw [rbest_eq h]; omega
theorem nb_with {p : Pr} {s : Nat} : ∀ k, isB (withK p s k) = true → nbK p s (allS p) k = withK p s k
  | 0, _ => rfl
  | k + 1, h => by
    have hin := isB_iff.1 h
    have hk : InB (withK p s (k + 1)).1 (withK p s k) := (with_in k).2 ⟨((with_in (k + 1)).1 hin).1, fun i hi => ((with_in (k + 1)).1 hin).2 i (by omega)⟩
    have ih := nb_with k (isB_of hk)
    have hbit : (s >>> k &&& 1 = 0) = (s.testBit k = false) := by
      rw [Nat.testBit, Nat.and_comm]; simp
    unfold nbK withK
    rw [ih, hasR_bit]
    cases hb : s.testBit k with
    | true =>
      rw [if_neg (by rw [hbit, hb]; simp)]; rfl
    | false =>
      rw [if_pos (by rw [hbit, hb])]
      have hR := ((with_in (k + 1)).1 hin).2 k (by omega) hb
      have hst : (stillS p (thingAt p k) (withK p s k)).2 = true := by rw [still_eq]; exact isB_of (inB_nar.2 ⟨hk, hR⟩)
      exact still_nar hst
theorem truthsX_nil (p : Pr) : truthsX p [] = if isPair p then (if isB (allS p) then .ok (allS p) else .error 4) else .error 1 := truthsX_eq p [] (openX_nil p)
theorem few_same (p : Pr) : fewestX p = rfewX p := by
  unfold fewestX rfewX openR
  rw [truthsX_nil]
  cases isPair p with
  | false => simp
  | true =>
    cases h : isB (allS p) with
    | false => simp
    | true =>
      simp only [if_true, ne_eq, not_true_eq_false, if_false]
      rw [rbest_eq h]
      simp only [Int.toNat_natCast]
      rw [nb_with _ (best_good h).1]
end Go.Pw1
