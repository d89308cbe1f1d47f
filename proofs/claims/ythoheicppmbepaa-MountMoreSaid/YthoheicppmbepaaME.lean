/- Walks of the laws of layer 3: MountMore. -/
import Derived.Test.YthoheicppmbepaaMA
import Derived.Test.YthoheicppmbepaaMy2
set_option linter.unusedSimpArgs false
set_option linter.unusedVariables false
namespace Go.Proofs.Ythoheicppmbepaa
open Go Go.Eng Go.Pw1

theorem mmin_calls (a b : Int × Int) (W : World) : Calls Try.prog 30 #[.agg #[.int .i64 a.1, .int .i64 a.2], .agg #[.int .i64 b.1, .int .i64 b.2]] W (Pure (.bool (decide (b.1 ≤ a.1) && decide (a.2 ≤ b.2))) W) := by
  refine calls_start Try.func30 rfl rfl ?_
  refine RunC.seq ?_
  refine RunC.region ?_
  refine RunL.new (New.box rfl) rfl rfl rfl (fun b2 => ?_)
  refine RunL.new (New.box rfl) rfl rfl rfl (fun b3 => ?_)
  refine RunL.val (Val.pure rfl) rfl rfl rfl ?_
  refine RunL.nil ?_
  refine RunE.next ?_
  refine RunC.seq ?_
  refine RunC.region ?_
  refine RunL.val (Val.fieldAddr rfl fld_23_0) rfl rfl rfl ?_
  refine RunL.val (Val.load_one rfl (.tail _ (.head _)) ty_3 rfl) rfl rfl rfl ?_
  refine RunL.val (Val.fieldAddr rfl fld_23_0) rfl rfl rfl ?_
  refine RunL.val (Val.load_one rfl (.head _) ty_3 rfl) rfl rfl rfl ?_
  refine RunL.val (Val.pure rfl) rfl rfl rfl ?_
  refine RunL.val (Val.pure rfl) rfl rfl rfl ?_
  refine RunL.andPart (dj := 10) (dp := 16) 6 rfl (fun g10 => by
    have g10' := g10
    try simp only [decide_eq_true_eq, decide_eq_false_iff_not, Bool.not_eq_true', Bool.not_eq_false', Bool.and_eq_true, Bool.or_eq_true, Bool.and_eq_false_iff, Bool.or_eq_false_iff, Int.not_le, Int.not_lt] at g10'
    refine RunL.val (Val.fieldAddr rfl fld_23_1) rfl rfl rfl ?_
    refine RunL.val (Val.load_one rfl (.tail _ (.head _)) ty_3 rfl) rfl rfl rfl ?_
    refine RunL.val (Val.fieldAddr rfl fld_23_1) rfl rfl rfl ?_
    refine RunL.val (Val.load_one rfl (.head _) ty_3 rfl) rfl rfl rfl ?_
    refine RunL.val (Val.pure rfl) rfl rfl rfl ?_
    refine RunL.val (Val.pure rfl) rfl rfl rfl ?_
    exact RunL.segEnd (Sub.cons rfl (Sub.skip rfl (Sub.skip rfl (Sub.skip rfl (Sub.skip rfl (Sub.skip rfl (Sub.skip rfl (Sub.same rfl (by rw [g10]) (Sub.refl _))))))))) (List.Sublist.refl _)
  ) (fun g10 => by
    have g10' := g10
    try simp only [decide_eq_true_eq, decide_eq_false_iff_not, Bool.not_eq_true', Bool.not_eq_false', Bool.and_eq_true, Bool.or_eq_true, Bool.and_eq_false_iff, Bool.or_eq_false_iff, Int.not_le, Int.not_lt] at g10'
    iterate 5 refine RunL.no rfl rfl rfl ?_
    refine RunL.val (Val.pure rfl) rfl rfl rfl ?_
    exact RunL.segEnd (Sub.cons rfl (Sub.skip rfl (Sub.skip rfl (Sub.skip rfl (Sub.skip rfl (Sub.skip rfl (Sub.skip rfl (Sub.same rfl (by rw [g10]) (Sub.refl _))))))))) (List.Sublist.refl _)
  ) ?_
  refine RunL.val (Val.pure rfl) rfl rfl rfl ?_
  refine RunL.nil ?_
  refine RunE.next ?_
  refine RunC.ret ?_
  exact RunE.retP (.r1 rfl (.tmp rfl)) (by first | rfl | simp)
theorem moreL_calls (c : Cd) (t : Tr) (by_ : Nat) (hby : by_ ≤ 255) (q : Option Addr) (b o cap : Nat) (W : World) (hS : Sl W q b o 9 (c.p.things.map Th.cells)) :
    Calls Try.prog 8 #[c.v q cap, t.v, .int .u8 (by_ : Int)] W (Pure (.bool true) W) := by
  refine calls_start Try.func8 rfl rfl ?_
  refine RunC.seq ?_
  refine RunC.region ?_
  refine RunL.new (New.box rfl) rfl rfl rfl (fun b3 => ?_)
  refine RunL.new (New.box rfl) rfl rfl rfl (fun b4 => ?_)
  refine RunL.val (Val.pure rfl) rfl rfl rfl ?_
  refine RunL.nil ?_
  refine RunE.next ?_
  refine RunC.seq ?_
  refine RunC.seq ?_
  refine RunC.region ?_
  refine RunL.val (Val.fieldAddr rfl fld_28_0) rfl rfl rfl ?_
  refine RunL.val (Val.fieldAddr rfl fld_26_5) rfl rfl rfl ?_
  refine RunL.val (Val.load_one rfl (.tail _ (.head _)) ty_24 rfl) rfl rfl rfl ?_
  refine RunL.val (Val.len_sl rfl sl_24) rfl rfl rfl ?_
  refine RunL.val (Val.pure rfl) rfl rfl rfl ?_
  refine RunL.val (Val.pure rfl) rfl rfl rfl ?_
  refine RunL.orPart (dj := 37) (dp := 41) 4 rfl (fun g37 => by
    have g37' := g37
    try simp only [decide_eq_true_eq, decide_eq_false_iff_not, Bool.not_eq_true', Bool.not_eq_false', Bool.and_eq_true, Bool.or_eq_true, Bool.and_eq_false_iff, Bool.or_eq_false_iff, Int.not_le, Int.not_lt] at g37'
    refine RunL.val (Val.load_agg rfl (.tail _ (.head _)) ty_28 rfl) rfl rfl rfl ?_
    refine RunL.callP (isCall_func rfl ent_10) rfl rfl rfl (fun w hm => mrCard_calls c q b o cap w (hS.mono (by decide) hm (by simp)) (by omega)) ?_
    refine RunL.val (Val.pure rfl) rfl rfl rfl ?_
    refine RunL.val (Val.pure rfl) rfl rfl rfl ?_
    exact RunL.segEnd (Sub.cons rfl (Sub.skip rfl (Sub.skip rfl (Sub.skip rfl (Sub.skip rfl (Sub.same rfl (by rw [g37]) (Sub.refl _))))))) (List.Sublist.refl _)
  ) (fun g37 => by
    have g37' := g37
    try simp only [decide_eq_true_eq, decide_eq_false_iff_not, Bool.not_eq_true', Bool.not_eq_false', Bool.and_eq_true, Bool.or_eq_true, Bool.and_eq_false_iff, Bool.or_eq_false_iff, Int.not_le, Int.not_lt] at g37'
    iterate 3 refine RunL.no rfl rfl rfl ?_
    refine RunL.val (Val.pure rfl) rfl rfl rfl ?_
    exact RunL.segEnd (Sub.cons rfl (Sub.skip rfl (Sub.skip rfl (Sub.skip rfl (Sub.skip rfl (Sub.same rfl (by rw [g37]) (Sub.refl _))))))) (List.Sublist.refl _)
  ) ?_
  refine RunL.val (Val.pure rfl) rfl rfl rfl ?_
  refine RunL.orPart (dj := 42) (dp := 46) 4 rfl (fun g42 => by
    have g42' := g42
    try simp only [decide_eq_true_eq, decide_eq_false_iff_not, Bool.not_eq_true', Bool.not_eq_false', Bool.and_eq_true, Bool.or_eq_true, Bool.and_eq_false_iff, Bool.or_eq_false_iff, Int.not_le, Int.not_lt] at g42'
    refine RunL.val (Val.fieldAddr rfl fld_28_3) rfl rfl rfl ?_
    refine RunL.val (Val.load_one rfl (.tail _ (.head _)) ty_3 rfl) rfl rfl rfl ?_
    refine RunL.val (Val.pure rfl) rfl rfl rfl ?_
    refine RunL.val (Val.pure rfl) rfl rfl rfl ?_
    exact RunL.segEnd (Sub.cons rfl (Sub.skip rfl (Sub.skip rfl (Sub.skip rfl (Sub.skip rfl (Sub.same rfl (by rw [g42]) (Sub.refl _))))))) (List.Sublist.refl _)
  ) (fun g42 => by
    have g42' := g42
    try simp only [decide_eq_true_eq, decide_eq_false_iff_not, Bool.not_eq_true', Bool.not_eq_false', Bool.and_eq_true, Bool.or_eq_true, Bool.and_eq_false_iff, Bool.or_eq_false_iff, Int.not_le, Int.not_lt] at g42'
    iterate 3 refine RunL.no rfl rfl rfl ?_
    refine RunL.val (Val.pure rfl) rfl rfl rfl ?_
    exact RunL.segEnd (Sub.cons rfl (Sub.skip rfl (Sub.skip rfl (Sub.skip rfl (Sub.skip rfl (Sub.same rfl (by rw [g42]) (Sub.refl _))))))) (List.Sublist.refl _)
  ) ?_
  refine RunL.nil ?_
  refine RunE.next ?_
  refine RunC.cond rfl ?_ ?_
  · intro c0
    have c0' := c0; clear c0
    try simp only [decide_eq_true_eq, decide_eq_false_iff_not, Bool.not_eq_true', Bool.not_eq_false', Bool.and_eq_true, Bool.or_eq_true, Bool.and_eq_false_iff, Bool.or_eq_false_iff, Int.not_le, Int.not_lt] at c0'
    refine RunC.seq ?_
    refine RunC.region ?_
    refine RunL.callP (isCall_func rfl ent_11) rfl rfl rfl (fun w hm => mawake_calls w) ?_
    refine RunL.val (Val.pure rfl) rfl rfl rfl ?_
    refine RunL.nil ?_
    refine RunE.next ?_
    refine RunC.ret ?_
    refine RunE.pass_ret ?_
    exact RunE.retP (.r1 rfl (.tmp rfl)) (by first | rfl | simp)
  · intro c0
    have c0' := c0; clear c0
    try simp only [decide_eq_true_eq, decide_eq_false_iff_not, Bool.not_eq_true', Bool.not_eq_false', Bool.and_eq_true, Bool.or_eq_true, Bool.and_eq_false_iff, Bool.or_eq_false_iff, Int.not_le, Int.not_lt] at c0'
    obtain ⟨⟨hl, hcard⟩, hcut⟩ := c0'
    obtain ⟨hc, hip, hp, _⟩ := card_open hcard
    have hl2 : c.p.things.length ≤ 100000000000 := by omega
    obtain ⟨h1, h2, h3, h4, h5, h6, h7, h8, h9, h10, h11, h12, h13, h14, h15, h16, h17⟩ := id hc
    refine RunC.skip ?_
    refine RunE.next ?_
    refine RunC.seq ?_
    refine RunC.region ?_
    refine RunL.val (Val.load_agg rfl (.tail _ (.head _)) ty_28 rfl) rfl rfl rfl ?_
    refine RunL.val (Val.pure rfl) rfl rfl rfl ?_
    refine RunL.val (Val.convInt rfl und_5 und_3 (IntWalk.i64_in _ ⟨by omega, by omega⟩)) rfl rfl rfl ?_
    refine RunL.new (New.alloc zero_28) rfl rfl rfl (fun b7 => ?_)
    refine RunL.sto (Sto.store rfl rfl .here ty_28 rfl rfl) rfl rfl ?_
    refine RunL.val (Val.pure rfl) rfl rfl rfl ?_
    refine RunL.nil ?_
    refine RunE.next ?_
    refine RunC.seqJ (X := Cd) (n0 := [(b4, _), (b3, _)]) (fun x q => q) (fun x => []) (fun x => [(b7, .cells (x.cells q cap).toArray 28 (0, 0))]) (fun x => []) (fun x => Less c x) (Sub.cons (t := 3) rfl (Sub.cons (t := 4) rfl (Sub.cons (t := 6) rfl (Sub.cons (t := 7) rfl (Sub.nil _))))) (.cons (.there .here) rfl (.cons (.there .here) rfl .nil)) ?_ ?_
    · refine RunC.seq ?_
      refine RunC.region ?_
      refine RunL.val (Val.pure rfl) rfl rfl rfl ?_
      refine RunL.val (Val.remN (a := by_) (b := 6) rfl rfl (by omega)) rfl rfl rfl ?_
      refine RunL.nil ?_
      refine RunE.next ?_
      refine RunC.block ?_
      refine RunC.seq ?_
      refine RunC.region ?_
      refine RunL.val (Val.pure rfl) rfl rfl rfl ?_
      refine RunL.val (Val.pure rfl) rfl rfl rfl ?_
      refine RunL.nil ?_
      refine RunE.next ?_
      refine RunC.cond rfl ?_ ?_
      · intro c1
        have c1' := c1; clear c1
        try simp only [decide_eq_true_eq, decide_eq_false_iff_not, Bool.not_eq_true', Bool.not_eq_false', Bool.and_eq_true, Bool.or_eq_true, Bool.and_eq_false_iff, Bool.or_eq_false_iff, Int.not_le, Int.not_lt] at c1'
        refine RunC.region ?_
        refine RunL.val (Val.fieldAddr rfl fld_28_5) rfl rfl rfl ?_
        refine RunL.val (Val.load_one rfl (.tail _ (.tail _ (.head _))) ty_3 rfl) rfl rfl rfl ?_
        refine RunL.val (Val.pure rfl) rfl rfl rfl ?_
        refine RunL.val (Val.sub' rfl rfl (IntWalk.i64_in _ ⟨by omega, by omega⟩)) rfl rfl rfl ?_
        refine RunL.val (Val.max rfl rfl) rfl rfl rfl ?_
        refine RunL.val (Val.fieldAddr rfl fld_28_5) rfl rfl rfl ?_
        refine RunL.sto (Sto.store rfl rfl .here ty_3 rfl rfl) rfl rfl ?_
        refine RunL.nil ?_
        refine RunE.block_normal ?_
        exact RunE.meet { c with prism := max 0 (c.prism - by_) } (less_prism hc by_) rfl (Sub.cons (t := 3) rfl (Sub.cons (t := 4) rfl (Sub.cons (t := 6) rfl (Sub.cons (t := 7) rfl (Sub.nil _))))) (.cons .here rfl (.cons .here rfl (.cons .here rfl .nil)))
      · intro c1
        have c1' := c1; clear c1
        try simp only [decide_eq_true_eq, decide_eq_false_iff_not, Bool.not_eq_true', Bool.not_eq_false', Bool.and_eq_true, Bool.or_eq_true, Bool.and_eq_false_iff, Bool.or_eq_false_iff, Int.not_le, Int.not_lt] at c1'
        refine RunC.seq ?_
        refine RunC.region ?_
        refine RunL.val (Val.pure rfl) rfl rfl rfl ?_
        refine RunL.val (Val.pure rfl) rfl rfl rfl ?_
        refine RunL.nil ?_
        refine RunE.next ?_
        refine RunC.cond rfl ?_ ?_
        · intro c2
          have c2' := c2; clear c2
          try simp only [decide_eq_true_eq, decide_eq_false_iff_not, Bool.not_eq_true', Bool.not_eq_false', Bool.and_eq_true, Bool.or_eq_true, Bool.and_eq_false_iff, Bool.or_eq_false_iff, Int.not_le, Int.not_lt] at c2'
          refine RunC.region ?_
          refine RunL.val (Val.fieldAddr rfl fld_28_6) rfl rfl rfl ?_
          refine RunL.val (Val.load_one rfl (.tail _ (.tail _ (.head _))) ty_3 rfl) rfl rfl rfl ?_
          refine RunL.val (Val.pure rfl) rfl rfl rfl ?_
          refine RunL.val (Val.sub' rfl rfl (IntWalk.i64_in _ ⟨by omega, by omega⟩)) rfl rfl rfl ?_
          refine RunL.val (Val.max rfl rfl) rfl rfl rfl ?_
          refine RunL.val (Val.fieldAddr rfl fld_28_6) rfl rfl rfl ?_
          refine RunL.sto (Sto.store rfl rfl .here ty_3 rfl rfl) rfl rfl ?_
          refine RunL.nil ?_
          refine RunE.block_normal ?_
          exact RunE.meet { c with squeeze := max 0 (c.squeeze - by_) } (less_squeeze hc by_) rfl (Sub.cons (t := 3) rfl (Sub.cons (t := 4) rfl (Sub.cons (t := 6) rfl (Sub.cons (t := 7) rfl (Sub.nil _))))) (.cons .here rfl (.cons .here rfl (.cons .here rfl .nil)))
        · intro c2
          have c2' := c2; clear c2
          try simp only [decide_eq_true_eq, decide_eq_false_iff_not, Bool.not_eq_true', Bool.not_eq_false', Bool.and_eq_true, Bool.or_eq_true, Bool.and_eq_false_iff, Bool.or_eq_false_iff, Int.not_le, Int.not_lt] at c2'
          refine RunC.seq ?_
          refine RunC.region ?_
          refine RunL.val (Val.pure rfl) rfl rfl rfl ?_
          refine RunL.val (Val.pure rfl) rfl rfl rfl ?_
          refine RunL.nil ?_
          refine RunE.next ?_
          refine RunC.cond rfl ?_ ?_
          · intro c3
            have c3' := c3; clear c3
            try simp only [decide_eq_true_eq, decide_eq_false_iff_not, Bool.not_eq_true', Bool.not_eq_false', Bool.and_eq_true, Bool.or_eq_true, Bool.and_eq_false_iff, Bool.or_eq_false_iff, Int.not_le, Int.not_lt] at c3'
            refine RunC.region ?_
            refine RunL.val (Val.fieldAddr rfl fld_28_7) rfl rfl rfl ?_
            refine RunL.val (Val.load_one rfl (.tail _ (.tail _ (.head _))) ty_3 rfl) rfl rfl rfl ?_
            refine RunL.val (Val.pure rfl) rfl rfl rfl ?_
            refine RunL.val (Val.sub' rfl rfl (IntWalk.i64_in _ ⟨by omega, by omega⟩)) rfl rfl rfl ?_
            refine RunL.val (Val.max rfl rfl) rfl rfl rfl ?_
            refine RunL.val (Val.fieldAddr rfl fld_28_7) rfl rfl rfl ?_
            refine RunL.sto (Sto.store rfl rfl .here ty_3 rfl rfl) rfl rfl ?_
            refine RunL.nil ?_
            refine RunE.block_normal ?_
            exact RunE.meet { c with front := max 0 (c.front - by_) } (less_front hc by_) rfl (Sub.cons (t := 3) rfl (Sub.cons (t := 4) rfl (Sub.cons (t := 6) rfl (Sub.cons (t := 7) rfl (Sub.nil _))))) (.cons .here rfl (.cons .here rfl (.cons .here rfl .nil)))
          · intro c3
            have c3' := c3; clear c3
            try simp only [decide_eq_true_eq, decide_eq_false_iff_not, Bool.not_eq_true', Bool.not_eq_false', Bool.and_eq_true, Bool.or_eq_true, Bool.and_eq_false_iff, Bool.or_eq_false_iff, Int.not_le, Int.not_lt] at c3'
            refine RunC.seq ?_
            refine RunC.region ?_
            refine RunL.val (Val.pure rfl) rfl rfl rfl ?_
            refine RunL.val (Val.pure rfl) rfl rfl rfl ?_
            refine RunL.nil ?_
            refine RunE.next ?_
            refine RunC.cond rfl ?_ ?_
            · intro c4
              have c4' := c4; clear c4
              try simp only [decide_eq_true_eq, decide_eq_false_iff_not, Bool.not_eq_true', Bool.not_eq_false', Bool.and_eq_true, Bool.or_eq_true, Bool.and_eq_false_iff, Bool.or_eq_false_iff, Int.not_le, Int.not_lt] at c4'
              refine RunC.region ?_
              refine RunL.val (Val.fieldAddr rfl fld_28_8) rfl rfl rfl ?_
              refine RunL.val (Val.load_one rfl (.tail _ (.tail _ (.head _))) ty_3 rfl) rfl rfl rfl ?_
              refine RunL.val (Val.pure rfl) rfl rfl rfl ?_
              refine RunL.val (Val.sub' rfl rfl (IntWalk.i64_in _ ⟨by omega, by omega⟩)) rfl rfl rfl ?_
              refine RunL.val (Val.max rfl rfl) rfl rfl rfl ?_
              refine RunL.val (Val.fieldAddr rfl fld_28_8) rfl rfl rfl ?_
              refine RunL.sto (Sto.store rfl rfl .here ty_3 rfl rfl) rfl rfl ?_
              refine RunL.nil ?_
              refine RunE.block_normal ?_
              exact RunE.meet { c with deep := max 0 (c.deep - by_) } (less_deep hc by_) rfl (Sub.cons (t := 3) rfl (Sub.cons (t := 4) rfl (Sub.cons (t := 6) rfl (Sub.cons (t := 7) rfl (Sub.nil _))))) (.cons .here rfl (.cons .here rfl (.cons .here rfl .nil)))
            · intro c4
              have c4' := c4; clear c4
              try simp only [decide_eq_true_eq, decide_eq_false_iff_not, Bool.not_eq_true', Bool.not_eq_false', Bool.and_eq_true, Bool.or_eq_true, Bool.and_eq_false_iff, Bool.or_eq_false_iff, Int.not_le, Int.not_lt] at c4'
              refine RunC.seq ?_
              refine RunC.region ?_
              refine RunL.val (Val.pure rfl) rfl rfl rfl ?_
              refine RunL.val (Val.pure rfl) rfl rfl rfl ?_
              refine RunL.nil ?_
              refine RunE.next ?_
              refine RunC.cond rfl ?_ ?_
              · intro c5
                have c5' := c5; clear c5
                try simp only [decide_eq_true_eq, decide_eq_false_iff_not, Bool.not_eq_true', Bool.not_eq_false', Bool.and_eq_true, Bool.or_eq_true, Bool.and_eq_false_iff, Bool.or_eq_false_iff, Int.not_le, Int.not_lt] at c5'
                refine RunC.region ?_
                refine RunL.val (Val.fieldAddr rfl fld_28_4) rfl rfl rfl ?_
                refine RunL.val (Val.fieldAddr rfl fld_23_0) rfl rfl rfl ?_
                refine RunL.val (Val.load_one rfl (.tail _ (.tail _ (.head _))) ty_3 rfl) rfl rfl rfl ?_
                refine RunL.val (Val.pure rfl) rfl rfl rfl ?_
                refine RunL.val (Val.sub' rfl rfl (IntWalk.i64_in _ ⟨by omega, by omega⟩)) rfl rfl rfl ?_
                refine RunL.val (Val.max rfl rfl) rfl rfl rfl ?_
                refine RunL.val (Val.fieldAddr rfl fld_28_4) rfl rfl rfl ?_
                refine RunL.val (Val.fieldAddr rfl fld_23_1) rfl rfl rfl ?_
                refine RunL.val (Val.load_one rfl (.tail _ (.tail _ (.head _))) ty_3 rfl) rfl rfl rfl ?_
                refine RunL.val (Val.pure rfl) rfl rfl rfl ?_
                refine RunL.val (Val.quoN (a := by_) (b := 2) rfl rfl (by omega) (i64_inN (by omega))) rfl rfl rfl ?_
                refine RunL.val (Val.add rfl rfl (IntWalk.i64_in _ ⟨by omega, by omega⟩)) rfl rfl rfl ?_
                refine RunL.val (Val.min rfl rfl) rfl rfl rfl ?_
                refine RunL.callP (isCall_func rfl ent_29) rfl rfl rfl (fun w hm => mlspan_calls _ _ w) ?_
                refine RunL.val (Val.fieldAddr rfl fld_28_4) rfl rfl rfl ?_
                refine RunL.sto (Sto.store rfl rfl .here ty_23 rfl rfl) rfl rfl ?_
                refine RunL.nil ?_
                refine RunE.block_normal ?_
                exact RunE.meet { c with eyes := ⟨max 1 (c.eyes.lo - by_), min 10000 (c.eyes.hi + (by_ / 2 : Nat))⟩ } (less_eyes hc by_ (by_ / 2)) rfl (Sub.cons (t := 3) rfl (Sub.cons (t := 4) rfl (Sub.cons (t := 6) rfl (Sub.cons (t := 7) rfl (Sub.nil _))))) (.cons .here rfl (.cons .here rfl (.cons .here rfl .nil)))
              · intro c5
                have c5' := c5; clear c5
                try simp only [decide_eq_true_eq, decide_eq_false_iff_not, Bool.not_eq_true', Bool.not_eq_false', Bool.and_eq_true, Bool.or_eq_true, Bool.and_eq_false_iff, Bool.or_eq_false_iff, Int.not_le, Int.not_lt] at c5'
                refine RunC.region ?_
                refine RunL.val (Val.fieldAddr rfl fld_28_3) rfl rfl rfl ?_
                refine RunL.val (Val.load_one rfl (.tail _ (.tail _ (.head _))) ty_3 rfl) rfl rfl rfl ?_
                refine RunL.val (Val.pure rfl) rfl rfl rfl ?_
                refine RunL.val (Val.quoN (a := by_) (b := 6) rfl rfl (by omega) (i64_inN (by omega))) rfl rfl rfl ?_
                refine RunL.val (Val.sub' rfl rfl (IntWalk.i64_in _ ⟨by omega, by omega⟩)) rfl rfl rfl ?_
                refine RunL.val (Val.max rfl rfl) rfl rfl rfl ?_
                refine RunL.val (Val.fieldAddr rfl fld_28_3) rfl rfl rfl ?_
                refine RunL.sto (Sto.store rfl rfl .here ty_3 rfl rfl) rfl rfl ?_
                refine RunL.nil ?_
                refine RunE.block_normal ?_
                exact RunE.meet { c with cuts := max 0 (c.cuts - (by_ / 6 : Nat)) } (less_cuts hc (by_ / 6)) rfl (Sub.cons (t := 3) rfl (Sub.cons (t := 4) rfl (Sub.cons (t := 6) rfl (Sub.cons (t := 7) rfl (Sub.nil _))))) (.cons .here rfl (.cons .here rfl (.cons .here rfl .nil)))
    · intro x xI
      have hX : Sl W q b o 9 (x.p.things.map Th.cells) := by rw [xI.p]; exact hS
      have hlx : x.p.things.length ≤ 100000000000 := by rw [xI.p]; exact hl2
      have htr := xI.trim hcard
      have xc := xI.cuts
      have hsx : (trimX x).2 = 0 → (trimX x).1.Ok 40 := fun h => trOk_le (trim_okT (xI.open0 hcard).1) (by omega)
      have hsc : (trimX c).2 = 0 → (trimX c).1.Ok 40 := fun h => trOk_le (trim_okT hcard) (by omega)
      refine RunC.seq ?_
      refine RunC.region ?_
      refine RunL.val (Val.load_agg rfl (.tail _ (.tail _ (.head _))) ty_28 rfl) rfl rfl rfl ?_
      refine RunL.callP (isCall_func rfl ent_12) rfl rfl rfl (fun w hm => Trim_calls c q b o cap w (hS.mono (by decide) hm (by simp)) hl2) ?_
      iterate 3 refine RunL.val (Val.pure rfl) rfl rfl rfl ?_
      refine RunL.new (New.alloc zero_33) rfl rfl rfl (fun b9 => ?_)
      refine RunL.sto (Sto.store rfl rfl .here ty_33 rfl rfl) rfl rfl ?_
      refine RunL.val (Val.pure rfl) rfl rfl rfl ?_
      refine RunL.nil ?_
      refine RunE.next ?_
      refine RunC.seq ?_
      refine RunC.region ?_
      refine RunL.val (Val.load_agg rfl (.tail _ (.head _)) ty_28 rfl) rfl rfl rfl ?_
      refine RunL.callP (isCall_func rfl ent_12) rfl rfl rfl (fun w hm => Trim_calls x q b o cap w (hX.mono (by decide) hm (by simp)) hlx) ?_
      iterate 3 refine RunL.val (Val.pure rfl) rfl rfl rfl ?_
      refine RunL.new (New.alloc zero_33) rfl rfl rfl (fun b11 => ?_)
      refine RunL.sto (Sto.store rfl rfl .here ty_33 rfl rfl) rfl rfl ?_
      refine RunL.val (Val.pure rfl) rfl rfl rfl ?_
      refine RunL.nil ?_
      refine RunE.next ?_
      refine RunC.seq ?_
      refine RunC.seq ?_
      refine RunC.region ?_
      iterate 3 refine RunL.val (Val.pure rfl) rfl rfl rfl ?_
      refine RunL.orPart (dj := 121) (dp := 124) 3 rfl (fun g121 => by
        have g121' := g121
        try simp only [decide_eq_true_eq, decide_eq_false_iff_not, Bool.not_eq_true', Bool.not_eq_false', Bool.and_eq_true, Bool.or_eq_true, Bool.and_eq_false_iff, Bool.or_eq_false_iff, Int.not_le, Int.not_lt] at g121'
        iterate 3 refine RunL.val (Val.pure rfl) rfl rfl rfl ?_
        exact RunL.segEnd (Sub.cons rfl (Sub.skip rfl (Sub.skip rfl (Sub.skip rfl (Sub.same rfl (by rw [g121]) (Sub.refl _)))))) (List.Sublist.refl _)
      ) (fun g121 => by
        have g121' := g121
        try simp only [decide_eq_true_eq, decide_eq_false_iff_not, Bool.not_eq_true', Bool.not_eq_false', Bool.and_eq_true, Bool.or_eq_true, Bool.and_eq_false_iff, Bool.or_eq_false_iff, Int.not_le, Int.not_lt] at g121'
        refine RunL.no rfl rfl rfl ?_
        refine RunL.no rfl rfl rfl ?_
        refine RunL.val (Val.pure rfl) rfl rfl rfl ?_
        exact RunL.segEnd (Sub.cons rfl (Sub.skip rfl (Sub.skip rfl (Sub.skip rfl (Sub.same rfl (by rw [g121]) (Sub.refl _)))))) (List.Sublist.refl _)
      ) ?_
      refine RunL.nil ?_
      refine RunE.next ?_
      refine RunC.cond rfl ?_ ?_
      · intro c6
        have c6' := c6; clear c6
        try simp only [decide_eq_true_eq, decide_eq_false_iff_not, Bool.not_eq_true', Bool.not_eq_false', Bool.and_eq_true, Bool.or_eq_true, Bool.and_eq_false_iff, Bool.or_eq_false_iff, Int.not_le, Int.not_lt] at c6'
        refine RunC.seq ?_
        refine RunC.region ?_
        iterate 4 refine RunL.val (Val.pure rfl) rfl rfl rfl ?_
        refine RunL.andPart (dj := 128) (dp := 130) 2 rfl (fun g128 => by
          have g128' := g128
          try simp only [decide_eq_true_eq, decide_eq_false_iff_not, Bool.not_eq_true', Bool.not_eq_false', Bool.and_eq_true, Bool.or_eq_true, Bool.and_eq_false_iff, Bool.or_eq_false_iff, Int.not_le, Int.not_lt] at g128'
          refine RunL.callP (isCall_func rfl ent_11) rfl rfl rfl (fun w hm => mawake_calls w) ?_
          refine RunL.val (Val.pure rfl) rfl rfl rfl ?_
          exact RunL.segEnd (Sub.cons rfl (Sub.skip rfl (Sub.skip rfl (Sub.same rfl (by rw [g128]) (Sub.refl _))))) (List.Sublist.refl _)
        ) (fun g128 => by
          have g128' := g128
          try simp only [decide_eq_true_eq, decide_eq_false_iff_not, Bool.not_eq_true', Bool.not_eq_false', Bool.and_eq_true, Bool.or_eq_true, Bool.and_eq_false_iff, Bool.or_eq_false_iff, Int.not_le, Int.not_lt] at g128'
          refine RunL.no rfl rfl rfl ?_
          refine RunL.val (Val.pure rfl) rfl rfl rfl ?_
          exact RunL.segEnd (Sub.cons rfl (Sub.skip rfl (Sub.skip rfl (Sub.same rfl (by rw [g128]) (Sub.refl _))))) (List.Sublist.refl _)
        ) ?_
        refine RunL.val (Val.pure rfl) rfl rfl rfl ?_
        refine RunL.nil ?_
        refine RunE.next ?_
        refine RunC.ret ?_
        refine RunE.pass_ret ?_
        exact RunE.retP (.r1 rfl (.tmp rfl)) (by rcases htr with h | ⟨_, _, ⟨v1, v2, _⟩ | ⟨v1, v2⟩⟩; (simp [h.1, h.2]); (exfalso; omega); (exfalso; omega))
      · intro c6
        have c6' := c6; clear c6
        try simp only [decide_eq_true_eq, decide_eq_false_iff_not, Bool.not_eq_true', Bool.not_eq_false', Bool.and_eq_true, Bool.or_eq_true, Bool.and_eq_false_iff, Bool.or_eq_false_iff, Int.not_le, Int.not_lt] at c6'
        refine RunC.skip ?_
        refine RunE.next ?_
        refine RunC.seq ?_
        refine RunC.seq ?_
        apply RunC.drawJ (J := J0 _ _ _ _ _ _) 9 fol_ (.cons .here rfl (.cons .here rfl (.cons .here rfl (.cons .here rfl (.cons .here rfl .nil)))))
        · refine RunA.val (i := 0) rfl (by kernel_rfl) (by kernel_rfl) (Val.pure rfl) rfl rfl rfl (fun _ _ _ h => h) (.cons .here rfl (.cons .here rfl (.cons .here rfl (.cons .here rfl (.cons .here rfl .nil))))) rfl ?_
          refine RunA.val (i := 1) rfl (by kernel_rfl) (by kernel_rfl) (Val.pure rfl) rfl rfl rfl (fun _ _ _ h => h) (.cons .here rfl (.cons .here rfl (.cons .here rfl (.cons .here rfl (.cons .here rfl .nil))))) rfl ?_
          refine RunA.val (i := 2) rfl (by kernel_rfl) (by kernel_rfl) (Val.pure rfl) rfl rfl rfl (fun _ _ _ h => h) (.cons .here rfl (.cons .here rfl (.cons .here rfl (.cons .here rfl (.cons .here rfl .nil))))) rfl ?_
          refine RunA.ways (dj := 133) rfl ?_ ?_
          · intro g133
            have g133' := g133; clear g133
            try simp only [decide_eq_true_eq, decide_eq_false_iff_not, Bool.not_eq_true', Bool.not_eq_false', Bool.and_eq_true, Bool.or_eq_true, Bool.and_eq_false_iff, Bool.or_eq_false_iff, Int.not_le, Int.not_lt] at g133'
            refine RunA.val (i := 3) rfl (by kernel_rfl) (by kernel_rfl) (Val.pure rfl) rfl rfl rfl (fun _ _ _ h => h) (.cons .here rfl (.cons .here rfl (.cons .here rfl (.cons .here rfl (.cons .here rfl .nil))))) rfl ?_
            refine RunA.val (i := 4) rfl (by kernel_rfl) (by kernel_rfl) (Val.pure rfl) rfl rfl rfl (fun _ _ _ h => h) (.cons .here rfl (.cons .here rfl (.cons .here rfl (.cons .here rfl (.cons .here rfl .nil))))) rfl ?_
            refine RunA.val (i := 5) rfl (by kernel_rfl) (by kernel_rfl) (Val.pure rfl) rfl rfl rfl (fun _ _ _ h => h) (.cons .here rfl (.cons .here rfl (.cons .here rfl (.cons .here rfl (.cons .here rfl .nil))))) rfl ?_
            refine RunA.ways (dj := 136) rfl ?_ ?_
            · intro g136
              have g136' := g136; clear g136
              try simp only [decide_eq_true_eq, decide_eq_false_iff_not, Bool.not_eq_true', Bool.not_eq_false', Bool.and_eq_true, Bool.or_eq_true, Bool.and_eq_false_iff, Bool.or_eq_false_iff, Int.not_le, Int.not_lt] at g136'
              refine RunA.no (i := 6) rfl (by kernel_rfl) (by kernel_rfl) rfl rfl rfl (fun _ _ _ h => h) (.cons .here rfl (.cons .here rfl (.cons .here rfl (.cons .here rfl (.cons .here rfl .nil))))) rfl ?_
              refine RunA.no (i := 8) rfl (by kernel_rfl) (by kernel_rfl) rfl rfl rfl (fun _ _ _ h => h) (.cons .here rfl (.cons .here rfl (.cons .here rfl (.cons .here rfl (.cons .here rfl .nil))))) rfl ?_
              refine RunA.one (i := 7) (by kernel_rfl) (by kernel_rfl) ?_
              refine RunI.no rfl rfl rfl rfl (RunK.toA (.cons .here rfl (.cons .here rfl (.cons .here rfl (.cons .here rfl (.cons .here rfl .nil))))) (.cons .here rfl (.cons .here rfl (.cons .here rfl (.cons .here rfl (.cons .here rfl .nil))))) rfl ?_)
              refine RunA.toB (by kernel_rfl) ?_
              refine RunB.one (i := 9) (by kernel_rfl) ?_
              refine RunI.no rfl rfl rfl rfl (RunK.toB ?_)
              refine RunB.one (i := 10) (by kernel_rfl) ?_
              refine RunI.no rfl rfl rfl rfl (RunK.toB ?_)
              refine RunB.one (i := 11) (by kernel_rfl) ?_
              refine RunI.val rfl (Val.pure rfl) rfl rfl rfl (RunK.toB ?_)
              refine RunB.one (i := 12) (by kernel_rfl) ?_
              refine RunI.val rfl (Val.pure rfl) rfl rfl rfl (RunK.toB ?_)
              refine RunB.one (i := 13) (by kernel_rfl) ?_
              refine RunI.val rfl (Val.pure rfl) rfl rfl rfl (RunK.toB ?_)
              refine RunB.ways (dj := 144) rfl ?_ ?_
              · intro g144
                have g144' := g144; clear g144
                try simp only [decide_eq_true_eq, decide_eq_false_iff_not, Bool.not_eq_true', Bool.not_eq_false', Bool.and_eq_true, Bool.or_eq_true, Bool.and_eq_false_iff, Bool.or_eq_false_iff, Int.not_le, Int.not_lt] at g144'
                refine RunB.one (i := 14) (by kernel_rfl) ?_
                refine RunI.no rfl rfl rfl rfl (RunK.toB ?_)
                refine RunB.one (i := 15) (by kernel_rfl) ?_
                refine RunI.no rfl rfl rfl rfl (RunK.toB ?_)
                refine RunB.one (i := 16) (by kernel_rfl) ?_
                refine RunI.no rfl rfl rfl rfl (RunK.toB ?_)
                refine RunB.one (i := 17) (by kernel_rfl) ?_
                refine RunI.no rfl rfl rfl rfl (RunK.toB ?_)
                refine RunB.one (i := 18) (by kernel_rfl) ?_
                refine RunI.no rfl rfl rfl rfl (RunK.toB ?_)
                refine RunB.one (i := 19) (by kernel_rfl) ?_
                refine RunI.no rfl rfl rfl rfl (RunK.toB ?_)
                refine RunB.one (i := 20) (by kernel_rfl) ?_
                refine RunI.val rfl (Val.pure rfl) rfl rfl rfl (RunK.toB ?_)
                refine RunB.done (by kernel_rfl) ?_
                exact RunE.join0  (Sub.consE (t := 151) (v := .bool false) rfl (by refine congrArg Value.bool ?_; rcases htr with h | ⟨_, _, ⟨v1, v2, v3, v4, v5⟩ | ⟨v1, v2⟩⟩; (exfalso; omega); (simp_all <;> omega); (simp_all <;> omega)) (Sub.skip rfl (Sub.skip rfl (Sub.skip rfl (Sub.skip rfl (Sub.skip rfl (Sub.skip rfl (Sub.skip rfl (Sub.skip rfl (Sub.skip rfl (Sub.skip rfl (Sub.skip rfl (Sub.skip rfl (Sub.skip rfl (Sub.skip rfl (Sub.skip rfl (Sub.skip rfl (Sub.skip rfl (Sub.skip rfl (Sub.skip rfl (Sub.skip rfl (Sub.skip rfl (Sub.skip rfl (Sub.skip rfl (Sub.skip rfl (Sub.refl _)))))))))))))))))))))))))) (Pick.refl _)
              · intro g144
                have g144' := g144; clear g144
                try simp only [decide_eq_true_eq, decide_eq_false_iff_not, Bool.not_eq_true', Bool.not_eq_false', Bool.and_eq_true, Bool.or_eq_true, Bool.and_eq_false_iff, Bool.or_eq_false_iff, Int.not_le, Int.not_lt] at g144'
                refine RunB.one (i := 14) (by kernel_rfl) ?_
                refine RunI.val rfl (Val.pure rfl) rfl rfl rfl (RunK.toB ?_)
                refine RunB.one (i := 15) (by kernel_rfl) ?_
                refine RunI.val rfl (Val.pure rfl) rfl rfl rfl (RunK.toB ?_)
                refine RunB.one (i := 16) (by kernel_rfl) ?_
                refine RunI.val rfl (Val.pure rfl) rfl rfl rfl (RunK.toB ?_)
                refine RunB.ways (dj := 147) rfl ?_ ?_
                · intro g147
                  have g147' := g147; clear g147
                  try simp only [decide_eq_true_eq, decide_eq_false_iff_not, Bool.not_eq_true', Bool.not_eq_false', Bool.and_eq_true, Bool.or_eq_true, Bool.and_eq_false_iff, Bool.or_eq_false_iff, Int.not_le, Int.not_lt] at g147'
                  refine RunB.one (i := 17) (by kernel_rfl) ?_
                  refine RunI.val rfl (Val.pure rfl) rfl rfl rfl (RunK.toB ?_)
                  refine RunB.one (i := 18) (by kernel_rfl) ?_
                  refine RunI.val rfl (Val.pure rfl) rfl rfl rfl (RunK.toB ?_)
                  refine RunB.one (i := 19) (by kernel_rfl) ?_
                  refine RunI.val rfl (Val.pure rfl) rfl rfl rfl (RunK.toB ?_)
                  refine RunB.one (i := 20) (by kernel_rfl) ?_
                  refine RunI.val rfl (Val.pure rfl) rfl rfl rfl (RunK.toB ?_)
                  refine RunB.done (by kernel_rfl) ?_
                  exact RunE.join0  (Sub.consE (t := 151) (v := .bool false) rfl (by refine congrArg Value.bool ?_; rcases htr with h | ⟨_, _, ⟨v1, v2, v3, v4, v5⟩ | ⟨v1, v2⟩⟩; (exfalso; omega); (simp_all <;> omega); (simp_all <;> omega)) (Sub.skip rfl (Sub.skip rfl (Sub.skip rfl (Sub.skip rfl (Sub.skip rfl (Sub.skip rfl (Sub.skip rfl (Sub.skip rfl (Sub.skip rfl (Sub.skip rfl (Sub.skip rfl (Sub.skip rfl (Sub.skip rfl (Sub.skip rfl (Sub.skip rfl (Sub.skip rfl (Sub.skip rfl (Sub.skip rfl (Sub.skip rfl (Sub.skip rfl (Sub.skip rfl (Sub.skip rfl (Sub.skip rfl (Sub.skip rfl (Sub.skip rfl (Sub.refl _))))))))))))))))))))))))))) (.cons .here rfl (.cons .here rfl (.cons .here rfl (.cons .here rfl (.cons .here rfl .nil)))))
                · intro g147
                  have g147' := g147; clear g147
                  try simp only [decide_eq_true_eq, decide_eq_false_iff_not, Bool.not_eq_true', Bool.not_eq_false', Bool.and_eq_true, Bool.or_eq_true, Bool.and_eq_false_iff, Bool.or_eq_false_iff, Int.not_le, Int.not_lt] at g147'
                  refine RunB.one (i := 17) (by kernel_rfl) ?_
                  refine RunI.no rfl rfl rfl rfl (RunK.toB ?_)
                  refine RunB.one (i := 18) (by kernel_rfl) ?_
                  refine RunI.no rfl rfl rfl rfl (RunK.toB ?_)
                  refine RunB.one (i := 19) (by kernel_rfl) ?_
                  refine RunI.val rfl (Val.pure rfl) rfl rfl rfl (RunK.toB ?_)
                  refine RunB.one (i := 20) (by kernel_rfl) ?_
                  refine RunI.val rfl (Val.pure rfl) rfl rfl rfl (RunK.toB ?_)
                  refine RunB.done (by kernel_rfl) ?_
                  exact RunE.join0  (Sub.consE (t := 151) (v := .bool false) rfl (by refine congrArg Value.bool ?_; rcases htr with h | ⟨_, _, ⟨v1, v2, v3, v4, v5⟩ | ⟨v1, v2⟩⟩; (exfalso; omega); (simp_all <;> omega); (simp_all <;> omega)) (Sub.skip rfl (Sub.skip rfl (Sub.skip rfl (Sub.skip rfl (Sub.skip rfl (Sub.skip rfl (Sub.skip rfl (Sub.skip rfl (Sub.skip rfl (Sub.skip rfl (Sub.skip rfl (Sub.skip rfl (Sub.skip rfl (Sub.skip rfl (Sub.skip rfl (Sub.skip rfl (Sub.skip rfl (Sub.skip rfl (Sub.skip rfl (Sub.skip rfl (Sub.skip rfl (Sub.skip rfl (Sub.skip rfl (Sub.skip rfl (Sub.skip rfl (Sub.refl _))))))))))))))))))))))))))) (.cons .here rfl (.cons .here rfl (.cons .here rfl (.cons .here rfl (.cons .here rfl .nil)))))
            · intro g136
              have g136' := g136; clear g136
              try simp only [decide_eq_true_eq, decide_eq_false_iff_not, Bool.not_eq_true', Bool.not_eq_false', Bool.and_eq_true, Bool.or_eq_true, Bool.and_eq_false_iff, Bool.or_eq_false_iff, Int.not_le, Int.not_lt] at g136'
              refine RunA.val (i := 6) rfl (by kernel_rfl) (by kernel_rfl) (Val.load_agg rfl (.head _) ty_33 rfl) rfl rfl rfl (fun _ _ _ h => h) (.cons .here rfl (.cons .here rfl (.cons .here rfl (.cons .here rfl (.cons .here rfl .nil))))) rfl ?_
              refine RunA.val (i := 8) rfl (by kernel_rfl) (by kernel_rfl) (Val.load_agg rfl (.tail _ (.head _)) ty_33 rfl) rfl rfl rfl (fun _ _ _ h => h) (.cons .here rfl (.cons .here rfl (.cons .here rfl (.cons .here rfl (.cons .here rfl .nil))))) rfl ?_
              refine RunA.one (i := 7) (by kernel_rfl) (by kernel_rfl) ?_
              refine RunI.callP rfl (isCall_func rfl ent_20) rfl rfl rfl (fun w hm => mrSum_calls (trimX x).1 40 (by decide) (hsx (by omega)) w) (RunK.toA (.cons .here rfl (.cons .here rfl (.cons .here rfl (.cons .here rfl (.cons .here rfl .nil))))) (.cons .here rfl (.cons .here rfl (.cons .here rfl (.cons .here rfl (.cons .here rfl .nil))))) rfl ?_)
              refine RunA.toB (by kernel_rfl) ?_
              refine RunB.one (i := 9) (by kernel_rfl) ?_
              refine RunI.callP rfl (isCall_func rfl ent_20) rfl rfl rfl (fun w hm => mrSum_calls (trimX c).1 40 (by decide) (hsc (by omega)) w) (RunK.toB ?_)
              refine RunB.one (i := 10) (by kernel_rfl) ?_
              refine RunI.val rfl (Val.pure rfl) rfl rfl rfl (RunK.toB ?_)
              refine RunB.one (i := 11) (by kernel_rfl) ?_
              refine RunI.val rfl (Val.pure rfl) rfl rfl rfl (RunK.toB ?_)
              refine RunB.one (i := 12) (by kernel_rfl) ?_
              refine RunI.val rfl (Val.pure rfl) rfl rfl rfl (RunK.toB ?_)
              refine RunB.one (i := 13) (by kernel_rfl) ?_
              refine RunI.val rfl (Val.pure rfl) rfl rfl rfl (RunK.toB ?_)
              refine RunB.ways (dj := 144) rfl ?_ ?_
              · intro g144
                have g144' := g144; clear g144
                try simp only [decide_eq_true_eq, decide_eq_false_iff_not, Bool.not_eq_true', Bool.not_eq_false', Bool.and_eq_true, Bool.or_eq_true, Bool.and_eq_false_iff, Bool.or_eq_false_iff, Int.not_le, Int.not_lt] at g144'
                refine RunB.one (i := 14) (by kernel_rfl) ?_
                refine RunI.no rfl rfl rfl rfl (RunK.toB ?_)
                refine RunB.one (i := 15) (by kernel_rfl) ?_
                refine RunI.no rfl rfl rfl rfl (RunK.toB ?_)
                refine RunB.one (i := 16) (by kernel_rfl) ?_
                refine RunI.no rfl rfl rfl rfl (RunK.toB ?_)
                refine RunB.one (i := 17) (by kernel_rfl) ?_
                refine RunI.no rfl rfl rfl rfl (RunK.toB ?_)
                refine RunB.one (i := 18) (by kernel_rfl) ?_
                refine RunI.no rfl rfl rfl rfl (RunK.toB ?_)
                refine RunB.one (i := 19) (by kernel_rfl) ?_
                refine RunI.no rfl rfl rfl rfl (RunK.toB ?_)
                refine RunB.one (i := 20) (by kernel_rfl) ?_
                refine RunI.val rfl (Val.pure rfl) rfl rfl rfl (RunK.toB ?_)
                refine RunB.done (by kernel_rfl) ?_
                exact RunE.join0  (Sub.consE (t := 151) (v := .bool false) rfl (by refine congrArg Value.bool ?_; rcases htr with h | ⟨_, _, ⟨v1, v2, v3, v4, v5⟩ | ⟨v1, v2⟩⟩; (exfalso; omega); (simp_all <;> omega); (simp_all <;> omega)) (Sub.skip rfl (Sub.skip rfl (Sub.skip rfl (Sub.skip rfl (Sub.skip rfl (Sub.skip rfl (Sub.skip rfl (Sub.skip rfl (Sub.skip rfl (Sub.skip rfl (Sub.skip rfl (Sub.skip rfl (Sub.skip rfl (Sub.skip rfl (Sub.skip rfl (Sub.skip rfl (Sub.skip rfl (Sub.skip rfl (Sub.skip rfl (Sub.skip rfl (Sub.skip rfl (Sub.skip rfl (Sub.skip rfl (Sub.skip rfl (Sub.refl _)))))))))))))))))))))))))) (.cons .here rfl (.cons .here rfl (.cons .here rfl (.cons .here rfl (.cons .here rfl .nil)))))
              · intro g144
                have g144' := g144; clear g144
                try simp only [decide_eq_true_eq, decide_eq_false_iff_not, Bool.not_eq_true', Bool.not_eq_false', Bool.and_eq_true, Bool.or_eq_true, Bool.and_eq_false_iff, Bool.or_eq_false_iff, Int.not_le, Int.not_lt] at g144'
                refine RunB.one (i := 14) (by kernel_rfl) ?_
                refine RunI.val rfl (Val.pure rfl) rfl rfl rfl (RunK.toB ?_)
                refine RunB.one (i := 15) (by kernel_rfl) ?_
                refine RunI.val rfl (Val.pure rfl) rfl rfl rfl (RunK.toB ?_)
                refine RunB.one (i := 16) (by kernel_rfl) ?_
                refine RunI.val rfl (Val.pure rfl) rfl rfl rfl (RunK.toB ?_)
                refine RunB.ways (dj := 147) rfl ?_ ?_
                · intro g147
                  have g147' := g147; clear g147
                  try simp only [decide_eq_true_eq, decide_eq_false_iff_not, Bool.not_eq_true', Bool.not_eq_false', Bool.and_eq_true, Bool.or_eq_true, Bool.and_eq_false_iff, Bool.or_eq_false_iff, Int.not_le, Int.not_lt] at g147'
                  refine RunB.one (i := 17) (by kernel_rfl) ?_
                  refine RunI.val rfl (Val.pure rfl) rfl rfl rfl (RunK.toB ?_)
                  refine RunB.one (i := 18) (by kernel_rfl) ?_
                  refine RunI.val rfl (Val.pure rfl) rfl rfl rfl (RunK.toB ?_)
                  refine RunB.one (i := 19) (by kernel_rfl) ?_
                  refine RunI.val rfl (Val.pure rfl) rfl rfl rfl (RunK.toB ?_)
                  refine RunB.one (i := 20) (by kernel_rfl) ?_
                  refine RunI.val rfl (Val.pure rfl) rfl rfl rfl (RunK.toB ?_)
                  refine RunB.done (by kernel_rfl) ?_
                  exact RunE.join0  (Sub.consE (t := 151) (v := .bool false) rfl (by refine congrArg Value.bool ?_; rcases htr with h | ⟨_, _, ⟨v1, v2, v3, v4, v5⟩ | ⟨v1, v2⟩⟩; (exfalso; omega); (simp_all <;> omega); (simp_all <;> omega)) (Sub.skip rfl (Sub.skip rfl (Sub.skip rfl (Sub.skip rfl (Sub.skip rfl (Sub.skip rfl (Sub.skip rfl (Sub.skip rfl (Sub.skip rfl (Sub.skip rfl (Sub.skip rfl (Sub.skip rfl (Sub.skip rfl (Sub.skip rfl (Sub.skip rfl (Sub.skip rfl (Sub.skip rfl (Sub.skip rfl (Sub.skip rfl (Sub.skip rfl (Sub.skip rfl (Sub.skip rfl (Sub.skip rfl (Sub.skip rfl (Sub.skip rfl (Sub.refl _))))))))))))))))))))))))))) (.cons .here rfl (.cons .here rfl (.cons .here rfl (.cons .here rfl (.cons .here rfl .nil)))))
                · intro g147
                  have g147' := g147; clear g147
                  try simp only [decide_eq_true_eq, decide_eq_false_iff_not, Bool.not_eq_true', Bool.not_eq_false', Bool.and_eq_true, Bool.or_eq_true, Bool.and_eq_false_iff, Bool.or_eq_false_iff, Int.not_le, Int.not_lt] at g147'
                  refine RunB.one (i := 17) (by kernel_rfl) ?_
                  refine RunI.no rfl rfl rfl rfl (RunK.toB ?_)
                  refine RunB.one (i := 18) (by kernel_rfl) ?_
                  refine RunI.no rfl rfl rfl rfl (RunK.toB ?_)
                  refine RunB.one (i := 19) (by kernel_rfl) ?_
                  refine RunI.val rfl (Val.pure rfl) rfl rfl rfl (RunK.toB ?_)
                  refine RunB.one (i := 20) (by kernel_rfl) ?_
                  refine RunI.val rfl (Val.pure rfl) rfl rfl rfl (RunK.toB ?_)
                  refine RunB.done (by kernel_rfl) ?_
                  exact RunE.join0  (Sub.consE (t := 151) (v := .bool false) rfl (by refine congrArg Value.bool ?_; rcases htr with h | ⟨_, _, ⟨v1, v2, v3, v4, v5⟩ | ⟨v1, v2⟩⟩; (exfalso; omega); (simp_all <;> omega); (simp_all <;> omega)) (Sub.skip rfl (Sub.skip rfl (Sub.skip rfl (Sub.skip rfl (Sub.skip rfl (Sub.skip rfl (Sub.skip rfl (Sub.skip rfl (Sub.skip rfl (Sub.skip rfl (Sub.skip rfl (Sub.skip rfl (Sub.skip rfl (Sub.skip rfl (Sub.skip rfl (Sub.skip rfl (Sub.skip rfl (Sub.skip rfl (Sub.skip rfl (Sub.skip rfl (Sub.skip rfl (Sub.skip rfl (Sub.skip rfl (Sub.skip rfl (Sub.skip rfl (Sub.refl _))))))))))))))))))))))))))) (.cons .here rfl (.cons .here rfl (.cons .here rfl (.cons .here rfl (.cons .here rfl .nil)))))
          · intro g133
            have g133' := g133; clear g133
            try simp only [decide_eq_true_eq, decide_eq_false_iff_not, Bool.not_eq_true', Bool.not_eq_false', Bool.and_eq_true, Bool.or_eq_true, Bool.and_eq_false_iff, Bool.or_eq_false_iff, Int.not_le, Int.not_lt] at g133'
            refine RunA.no (i := 3) rfl (by kernel_rfl) (by kernel_rfl) rfl rfl rfl (fun _ _ _ h => h) (.cons .here rfl (.cons .here rfl (.cons .here rfl (.cons .here rfl (.cons .here rfl .nil))))) rfl ?_
            refine RunA.no (i := 4) rfl (by kernel_rfl) (by kernel_rfl) rfl rfl rfl (fun _ _ _ h => h) (.cons .here rfl (.cons .here rfl (.cons .here rfl (.cons .here rfl (.cons .here rfl .nil))))) rfl ?_
            refine RunA.no (i := 5) rfl (by kernel_rfl) (by kernel_rfl) rfl rfl rfl (fun _ _ _ h => h) (.cons .here rfl (.cons .here rfl (.cons .here rfl (.cons .here rfl (.cons .here rfl .nil))))) rfl ?_
            refine RunA.no (i := 6) rfl (by kernel_rfl) (by kernel_rfl) rfl rfl rfl (fun _ _ _ h => h) (.cons .here rfl (.cons .here rfl (.cons .here rfl (.cons .here rfl (.cons .here rfl .nil))))) rfl ?_
            refine RunA.no (i := 8) rfl (by kernel_rfl) (by kernel_rfl) rfl rfl rfl (fun _ _ _ h => h) (.cons .here rfl (.cons .here rfl (.cons .here rfl (.cons .here rfl (.cons .here rfl .nil))))) rfl ?_
            refine RunA.one (i := 7) (by kernel_rfl) (by kernel_rfl) ?_
            refine RunI.no rfl rfl rfl rfl (RunK.toA (.cons .here rfl (.cons .here rfl (.cons .here rfl (.cons .here rfl (.cons .here rfl .nil))))) (.cons .here rfl (.cons .here rfl (.cons .here rfl (.cons .here rfl (.cons .here rfl .nil))))) rfl ?_)
            refine RunA.toB (by kernel_rfl) ?_
            refine RunB.one (i := 9) (by kernel_rfl) ?_
            refine RunI.no rfl rfl rfl rfl (RunK.toB ?_)
            refine RunB.one (i := 10) (by kernel_rfl) ?_
            refine RunI.no rfl rfl rfl rfl (RunK.toB ?_)
            refine RunB.one (i := 11) (by kernel_rfl) ?_
            refine RunI.no rfl rfl rfl rfl (RunK.toB ?_)
            refine RunB.one (i := 12) (by kernel_rfl) ?_
            refine RunI.val rfl (Val.pure rfl) rfl rfl rfl (RunK.toB ?_)
            refine RunB.one (i := 13) (by kernel_rfl) ?_
            refine RunI.val rfl (Val.pure rfl) rfl rfl rfl (RunK.toB ?_)
            refine RunB.ways (dj := 144) rfl ?_ ?_
            · intro g144
              have g144' := g144; clear g144
              try simp only [decide_eq_true_eq, decide_eq_false_iff_not, Bool.not_eq_true', Bool.not_eq_false', Bool.and_eq_true, Bool.or_eq_true, Bool.and_eq_false_iff, Bool.or_eq_false_iff, Int.not_le, Int.not_lt] at g144'
              refine RunB.one (i := 14) (by kernel_rfl) ?_
              refine RunI.no rfl rfl rfl rfl (RunK.toB ?_)
              refine RunB.one (i := 15) (by kernel_rfl) ?_
              refine RunI.no rfl rfl rfl rfl (RunK.toB ?_)
              refine RunB.one (i := 16) (by kernel_rfl) ?_
              refine RunI.no rfl rfl rfl rfl (RunK.toB ?_)
              refine RunB.one (i := 17) (by kernel_rfl) ?_
              refine RunI.no rfl rfl rfl rfl (RunK.toB ?_)
              refine RunB.one (i := 18) (by kernel_rfl) ?_
              refine RunI.no rfl rfl rfl rfl (RunK.toB ?_)
              refine RunB.one (i := 19) (by kernel_rfl) ?_
              refine RunI.no rfl rfl rfl rfl (RunK.toB ?_)
              refine RunB.one (i := 20) (by kernel_rfl) ?_
              refine RunI.val rfl (Val.pure rfl) rfl rfl rfl (RunK.toB ?_)
              refine RunB.done (by kernel_rfl) ?_
              exact RunE.join0  (Sub.consE (t := 151) (v := .bool false) rfl (by refine congrArg Value.bool ?_; rcases htr with h | ⟨_, _, ⟨v1, v2, v3, v4, v5⟩ | ⟨v1, v2⟩⟩; (exfalso; omega); (simp_all <;> omega); (simp_all <;> omega)) (Sub.skip rfl (Sub.skip rfl (Sub.skip rfl (Sub.skip rfl (Sub.skip rfl (Sub.skip rfl (Sub.skip rfl (Sub.skip rfl (Sub.skip rfl (Sub.skip rfl (Sub.skip rfl (Sub.skip rfl (Sub.skip rfl (Sub.skip rfl (Sub.skip rfl (Sub.skip rfl (Sub.skip rfl (Sub.skip rfl (Sub.skip rfl (Sub.skip rfl (Sub.skip rfl (Sub.skip rfl (Sub.skip rfl (Sub.refl _))))))))))))))))))))))))) (.cons .here rfl (.cons .here rfl (.cons .here rfl (.cons .here rfl (.cons .here rfl .nil)))))
            · intro g144
              have g144' := g144; clear g144
              try simp only [decide_eq_true_eq, decide_eq_false_iff_not, Bool.not_eq_true', Bool.not_eq_false', Bool.and_eq_true, Bool.or_eq_true, Bool.and_eq_false_iff, Bool.or_eq_false_iff, Int.not_le, Int.not_lt] at g144'
              refine RunB.one (i := 14) (by kernel_rfl) ?_
              refine RunI.val rfl (Val.pure rfl) rfl rfl rfl (RunK.toB ?_)
              refine RunB.one (i := 15) (by kernel_rfl) ?_
              refine RunI.val rfl (Val.pure rfl) rfl rfl rfl (RunK.toB ?_)
              refine RunB.one (i := 16) (by kernel_rfl) ?_
              refine RunI.val rfl (Val.pure rfl) rfl rfl rfl (RunK.toB ?_)
              refine RunB.ways (dj := 147) rfl ?_ ?_
              · intro g147
                have g147' := g147; clear g147
                try simp only [decide_eq_true_eq, decide_eq_false_iff_not, Bool.not_eq_true', Bool.not_eq_false', Bool.and_eq_true, Bool.or_eq_true, Bool.and_eq_false_iff, Bool.or_eq_false_iff, Int.not_le, Int.not_lt] at g147'
                refine RunB.one (i := 17) (by kernel_rfl) ?_
                refine RunI.val rfl (Val.pure rfl) rfl rfl rfl (RunK.toB ?_)
                refine RunB.one (i := 18) (by kernel_rfl) ?_
                refine RunI.val rfl (Val.pure rfl) rfl rfl rfl (RunK.toB ?_)
                refine RunB.one (i := 19) (by kernel_rfl) ?_
                refine RunI.val rfl (Val.pure rfl) rfl rfl rfl (RunK.toB ?_)
                refine RunB.one (i := 20) (by kernel_rfl) ?_
                refine RunI.val rfl (Val.pure rfl) rfl rfl rfl (RunK.toB ?_)
                refine RunB.done (by kernel_rfl) ?_
                exact RunE.join0  (Sub.consE (t := 151) (v := .bool false) rfl (by refine congrArg Value.bool ?_; rcases htr with h | ⟨_, _, ⟨v1, v2, v3, v4, v5⟩ | ⟨v1, v2⟩⟩; (exfalso; omega); (simp_all <;> omega); (simp_all <;> omega)) (Sub.skip rfl (Sub.skip rfl (Sub.skip rfl (Sub.skip rfl (Sub.skip rfl (Sub.skip rfl (Sub.skip rfl (Sub.skip rfl (Sub.skip rfl (Sub.skip rfl (Sub.skip rfl (Sub.skip rfl (Sub.skip rfl (Sub.skip rfl (Sub.skip rfl (Sub.skip rfl (Sub.skip rfl (Sub.skip rfl (Sub.skip rfl (Sub.skip rfl (Sub.skip rfl (Sub.skip rfl (Sub.skip rfl (Sub.skip rfl (Sub.refl _)))))))))))))))))))))))))) (.cons .here rfl (.cons .here rfl (.cons .here rfl (.cons .here rfl (.cons .here rfl .nil)))))
              · intro g147
                have g147' := g147; clear g147
                try simp only [decide_eq_true_eq, decide_eq_false_iff_not, Bool.not_eq_true', Bool.not_eq_false', Bool.and_eq_true, Bool.or_eq_true, Bool.and_eq_false_iff, Bool.or_eq_false_iff, Int.not_le, Int.not_lt] at g147'
                refine RunB.one (i := 17) (by kernel_rfl) ?_
                refine RunI.no rfl rfl rfl rfl (RunK.toB ?_)
                refine RunB.one (i := 18) (by kernel_rfl) ?_
                refine RunI.no rfl rfl rfl rfl (RunK.toB ?_)
                refine RunB.one (i := 19) (by kernel_rfl) ?_
                refine RunI.val rfl (Val.pure rfl) rfl rfl rfl (RunK.toB ?_)
                refine RunB.one (i := 20) (by kernel_rfl) ?_
                refine RunI.val rfl (Val.pure rfl) rfl rfl rfl (RunK.toB ?_)
                refine RunB.done (by kernel_rfl) ?_
                exact RunE.join0  (Sub.consE (t := 151) (v := .bool false) rfl (by refine congrArg Value.bool ?_; rcases htr with h | ⟨_, _, ⟨v1, v2, v3, v4, v5⟩ | ⟨v1, v2⟩⟩; (exfalso; omega); (simp_all <;> omega); (simp_all <;> omega)) (Sub.skip rfl (Sub.skip rfl (Sub.skip rfl (Sub.skip rfl (Sub.skip rfl (Sub.skip rfl (Sub.skip rfl (Sub.skip rfl (Sub.skip rfl (Sub.skip rfl (Sub.skip rfl (Sub.skip rfl (Sub.skip rfl (Sub.skip rfl (Sub.skip rfl (Sub.skip rfl (Sub.skip rfl (Sub.skip rfl (Sub.skip rfl (Sub.skip rfl (Sub.skip rfl (Sub.skip rfl (Sub.skip rfl (Sub.skip rfl (Sub.refl _)))))))))))))))))))))))))) (.cons .here rfl (.cons .here rfl (.cons .here rfl (.cons .here rfl (.cons .here rfl .nil)))))
        refine J0.out ?_
        refine RunE.next ?_
        refine RunC.cond rfl (fun h => absurd h Bool.false_ne_true) ?_
        intro c7
        clear c7
        refine RunC.skip ?_
        refine RunE.next ?_
        refine RunC.seq ?_
        refine RunC.seq ?_
        refine RunC.region ?_
        refine RunL.val (Val.load_agg rfl (.tail _ (.tail _ (.head _))) ty_28 rfl) rfl rfl rfl ?_
        refine RunL.val (Val.load_agg rfl (.tail _ (.tail _ (.tail _ (.head _)))) ty_33 rfl) rfl rfl rfl ?_
        refine RunL.callP (isCall_func rfl ent_14) rfl rfl rfl (fun w hm => mrTrim_calls x (by omega) t q cap w) ?_
        refine RunL.val (Val.pure rfl) rfl rfl rfl ?_
        refine RunL.nil ?_
        refine RunE.next ?_
        refine RunC.cond rfl ?_ ?_
        · intro c8
          have c8' := c8; clear c8
          try simp only [decide_eq_true_eq, decide_eq_false_iff_not, Bool.not_eq_true', Bool.not_eq_false', Bool.and_eq_true, Bool.or_eq_true, Bool.and_eq_false_iff, Bool.or_eq_false_iff, Int.not_le, Int.not_lt] at c8'
          refine RunC.seq ?_
          refine RunC.region ?_
          refine RunL.callP (isCall_func rfl ent_11) rfl rfl rfl (fun w hm => mawake_calls w) ?_
          refine RunL.val (Val.pure rfl) rfl rfl rfl ?_
          refine RunL.nil ?_
          refine RunE.next ?_
          refine RunC.ret ?_
          refine RunE.pass_ret ?_
          exact RunE.retP (.r1 rfl (.tmp rfl)) (by first | rfl | simp)
        · intro c8
          have c8' := c8; clear c8
          try simp only [decide_eq_true_eq, decide_eq_false_iff_not, Bool.not_eq_true', Bool.not_eq_false', Bool.and_eq_true, Bool.or_eq_true, Bool.and_eq_false_iff, Bool.or_eq_false_iff, Int.not_le, Int.not_lt] at c8'
          rw [trR_eq] at c8'
          have htc := xI.tr c8'
          obtain ⟨n1, n2⟩ : openM c [] = 0 ∧ openM x [] = 0 := by (rcases htr with h | h; exact absurd h.1 c6'.1; exact ⟨h.1, h.2.1⟩)
          have o1 := open_one n1 htc
          have o2 := open_one n2 c8'
          have hb2 := (check_pair (check_nil c ▸ n1)).2.1
          have kE := xI.eyes o2 o1
          have kR := xI.room (t := t) o1
          have kD := xI.depths hip hb2 (t := t) o1
          have kH := xI.hurts o2 o1
          refine RunC.skip ?_
          refine RunE.next ?_
          refine RunC.seq ?_
          refine RunC.region ?_
          refine RunL.val (Val.pure rfl) rfl rfl rfl ?_
          refine RunL.nil ?_
          refine RunE.next ?_
          refine RunC.seq ?_
          refine RunC.region ?_
          refine RunL.val (Val.load_agg rfl (.tail _ (.tail _ (.tail _ (.tail _ (.head _))))) ty_28 rfl) rfl rfl rfl ?_
          refine RunL.val (Val.load_agg rfl (.tail _ (.tail _ (.tail _ (.head _)))) ty_33 rfl) rfl rfl rfl ?_
          refine RunL.callP (isCall_func rfl ent_23) rfl rfl rfl (fun w hm => Eyes_calls c t q b o cap w (hS.mono (by decide) hm (by simp)) hl2) ?_
          iterate 3 refine RunL.val (Val.pure rfl) rfl rfl rfl ?_
          refine RunL.new (New.alloc zero_23) rfl rfl rfl (fun b14 => ?_)
          refine RunL.sto (Sto.store rfl rfl .here ty_23 rfl rfl) rfl rfl ?_
          refine RunL.val (Val.pure rfl) rfl rfl rfl ?_
          refine RunL.nil ?_
          refine RunE.next ?_
          refine RunC.seq ?_
          refine RunC.region ?_
          refine RunL.val (Val.load_agg rfl (.tail _ (.tail _ (.tail _ (.head _)))) ty_28 rfl) rfl rfl rfl ?_
          refine RunL.val (Val.load_agg rfl (.tail _ (.tail _ (.tail _ (.tail _ (.head _))))) ty_33 rfl) rfl rfl rfl ?_
          refine RunL.callP (isCall_func rfl ent_23) rfl rfl rfl (fun w hm => Eyes_calls x t q b o cap w (hX.mono (by decide) hm (by simp)) hlx) ?_
          iterate 3 refine RunL.val (Val.pure rfl) rfl rfl rfl ?_
          refine RunL.new (New.alloc zero_23) rfl rfl rfl (fun b16 => ?_)
          refine RunL.sto (Sto.store rfl rfl .here ty_23 rfl rfl) rfl rfl ?_
          refine RunL.val (Val.pure rfl) rfl rfl rfl ?_
          refine RunL.nil ?_
          refine RunE.next ?_
          refine RunC.seq ?_
          refine RunC.region ?_
          refine RunL.val (Val.load_agg rfl (.tail _ (.tail _ (.tail _ (.tail _ (.tail _ (.tail _ (.head _))))))) ty_28 rfl) rfl rfl rfl ?_
          refine RunL.val (Val.load_agg rfl (.tail _ (.tail _ (.tail _ (.tail _ (.tail _ (.head _)))))) ty_33 rfl) rfl rfl rfl ?_
          refine RunL.callP (isCall_func rfl ent_26) rfl rfl rfl (fun w hm => Room_calls c t q b o cap w (hS.mono (by decide) hm (by simp)) hl2) ?_
          iterate 3 refine RunL.val (Val.pure rfl) rfl rfl rfl ?_
          refine RunL.new (New.alloc zero_23) rfl rfl rfl (fun b18 => ?_)
          refine RunL.sto (Sto.store rfl rfl .here ty_23 rfl rfl) rfl rfl ?_
          refine RunL.val (Val.pure rfl) rfl rfl rfl ?_
          refine RunL.nil ?_
          refine RunE.next ?_
          refine RunC.seq ?_
          refine RunC.region ?_
          refine RunL.val (Val.load_agg rfl (.tail _ (.tail _ (.tail _ (.tail _ (.tail _ (.head _)))))) ty_28 rfl) rfl rfl rfl ?_
          refine RunL.val (Val.load_agg rfl (.tail _ (.tail _ (.tail _ (.tail _ (.tail _ (.tail _ (.head _))))))) ty_33 rfl) rfl rfl rfl ?_
          refine RunL.callP (isCall_func rfl ent_26) rfl rfl rfl (fun w hm => Room_calls x t q b o cap w (hX.mono (by decide) hm (by simp)) hlx) ?_
          iterate 3 refine RunL.val (Val.pure rfl) rfl rfl rfl ?_
          refine RunL.new (New.alloc zero_23) rfl rfl rfl (fun b20 => ?_)
          refine RunL.sto (Sto.store rfl rfl .here ty_23 rfl rfl) rfl rfl ?_
          refine RunL.val (Val.pure rfl) rfl rfl rfl ?_
          refine RunL.nil ?_
          refine RunE.next ?_
          refine RunC.seq ?_
          refine RunC.region ?_
          refine RunL.val (Val.load_agg rfl (.tail _ (.tail _ (.tail _ (.tail _ (.tail _ (.tail _ (.tail _ (.tail _ (.head _))))))))) ty_28 rfl) rfl rfl rfl ?_
          refine RunL.val (Val.load_agg rfl (.tail _ (.tail _ (.tail _ (.tail _ (.tail _ (.tail _ (.tail _ (.head _)))))))) ty_33 rfl) rfl rfl rfl ?_
          refine RunL.callP (isCall_func rfl ent_25) rfl rfl rfl (fun w hm => Depths_calls c t q b o cap w (hS.mono (by decide) hm (by simp)) hl2) ?_
          iterate 3 refine RunL.val (Val.pure rfl) rfl rfl rfl ?_
          refine RunL.new (New.alloc zero_23) rfl rfl rfl (fun b22 => ?_)
          refine RunL.sto (Sto.store rfl rfl .here ty_23 rfl rfl) rfl rfl ?_
          refine RunL.val (Val.pure rfl) rfl rfl rfl ?_
          refine RunL.nil ?_
          refine RunE.next ?_
          refine RunC.seq ?_
          refine RunC.region ?_
          refine RunL.val (Val.load_agg rfl (.tail _ (.tail _ (.tail _ (.tail _ (.tail _ (.tail _ (.tail _ (.head _)))))))) ty_28 rfl) rfl rfl rfl ?_
          refine RunL.val (Val.load_agg rfl (.tail _ (.tail _ (.tail _ (.tail _ (.tail _ (.tail _ (.tail _ (.tail _ (.head _))))))))) ty_33 rfl) rfl rfl rfl ?_
          refine RunL.callP (isCall_func rfl ent_25) rfl rfl rfl (fun w hm => Depths_calls x t q b o cap w (hX.mono (by decide) hm (by simp)) hlx) ?_
          iterate 3 refine RunL.val (Val.pure rfl) rfl rfl rfl ?_
          refine RunL.new (New.alloc zero_23) rfl rfl rfl (fun b24 => ?_)
          refine RunL.sto (Sto.store rfl rfl .here ty_23 rfl rfl) rfl rfl ?_
          refine RunL.val (Val.pure rfl) rfl rfl rfl ?_
          refine RunL.nil ?_
          refine RunE.next ?_
          refine RunC.seq ?_
          refine RunC.region ?_
          refine RunL.val (Val.load_agg rfl (.tail _ (.tail _ (.tail _ (.tail _ (.tail _ (.tail _ (.tail _ (.tail _ (.tail _ (.tail _ (.head _))))))))))) ty_28 rfl) rfl rfl rfl ?_
          refine RunL.val (Val.load_agg rfl (.tail _ (.tail _ (.tail _ (.tail _ (.tail _ (.tail _ (.tail _ (.tail _ (.tail _ (.head _)))))))))) ty_33 rfl) rfl rfl rfl ?_
          refine RunL.callP (isCall_func rfl ent_18) rfl rfl rfl (fun w hm => Hurts_calls c t q b o cap w (hS.mono (by decide) hm (by simp)) hl2) ?_
          iterate 7 refine RunL.val (Val.pure rfl) rfl rfl rfl ?_
          refine RunL.nil ?_
          refine RunE.next ?_
          refine RunC.seq ?_
          refine RunC.region ?_
          refine RunL.val (Val.load_agg rfl (.tail _ (.tail _ (.tail _ (.tail _ (.tail _ (.tail _ (.tail _ (.tail _ (.head _))))))))) ty_28 rfl) rfl rfl rfl ?_
          refine RunL.val (Val.load_agg rfl (.tail _ (.tail _ (.tail _ (.tail _ (.tail _ (.tail _ (.tail _ (.tail _ (.tail _ (.head _)))))))))) ty_33 rfl) rfl rfl rfl ?_
          refine RunL.callP (isCall_func rfl ent_18) rfl rfl rfl (fun w hm => Hurts_calls x t q b o cap w (hX.mono (by decide) hm (by simp)) hlx) ?_
          iterate 7 refine RunL.val (Val.pure rfl) rfl rfl rfl ?_
          refine RunL.nil ?_
          refine RunE.next ?_
          refine RunC.seq ?_
          refine RunC.region ?_
          iterate 3 refine RunL.val (Val.pure rfl) rfl rfl rfl ?_
          refine RunL.orPart (dj := 209) (dp := 218) 9 rfl (fun g209 => by
            have g209' := g209
            try simp only [decide_eq_true_eq, decide_eq_false_iff_not, Bool.not_eq_true', Bool.not_eq_false', Bool.and_eq_true, Bool.or_eq_true, Bool.and_eq_false_iff, Bool.or_eq_false_iff, Int.not_le, Int.not_lt] at g209'
            iterate 3 refine RunL.val (Val.pure rfl) rfl rfl rfl ?_
            refine RunL.andPart (dj := 212) (dp := 217) 5 rfl (fun g212 => by
              have g212' := g212
              try simp only [decide_eq_true_eq, decide_eq_false_iff_not, Bool.not_eq_true', Bool.not_eq_false', Bool.and_eq_true, Bool.or_eq_true, Bool.and_eq_false_iff, Bool.or_eq_false_iff, Int.not_le, Int.not_lt] at g212'
              refine RunL.val (Val.pure rfl) rfl rfl rfl ?_
              refine RunL.val (Val.load_agg rfl (.tail _ (.tail _ (.tail _ (.tail _ (.head _))))) ty_23 rfl) rfl rfl rfl ?_
              refine RunL.val (Val.load_agg rfl (.tail _ (.tail _ (.tail _ (.tail _ (.tail _ (.head _)))))) ty_23 rfl) rfl rfl rfl ?_
              refine RunL.callP (isCall_value rfl rfl ent_30) rfl rfl rfl (fun w hm => mmin_calls _ _ w) ?_
              refine RunL.val (Val.pure rfl) rfl rfl rfl ?_
              exact RunL.segEnd (Sub.cons rfl (Sub.skip rfl (Sub.skip rfl (Sub.skip rfl (Sub.skip rfl (Sub.skip rfl (Sub.same rfl (by rw [g212]) (Sub.refl _)))))))) (List.Sublist.refl _)
            ) (fun g212 => by
              have g212' := g212
              try simp only [decide_eq_true_eq, decide_eq_false_iff_not, Bool.not_eq_true', Bool.not_eq_false', Bool.and_eq_true, Bool.or_eq_true, Bool.and_eq_false_iff, Bool.or_eq_false_iff, Int.not_le, Int.not_lt] at g212'
              iterate 4 refine RunL.no rfl rfl rfl ?_
              refine RunL.val (Val.pure rfl) rfl rfl rfl ?_
              exact RunL.segEnd (Sub.cons rfl (Sub.skip rfl (Sub.skip rfl (Sub.skip rfl (Sub.skip rfl (Sub.skip rfl (Sub.same rfl (by rw [g212]) (Sub.refl _)))))))) (List.Sublist.refl _)
            ) ?_
            refine RunL.val (Val.pure rfl) rfl rfl rfl ?_
            exact RunL.segEnd (Sub.cons rfl (Sub.skip rfl (Sub.skip rfl (Sub.skip rfl (Sub.skip rfl (Sub.skip rfl (Sub.same rfl (by rw [g209]) (Sub.refl _)))))))) (List.Sublist.refl _)
          ) (fun g209 => by
            have g209' := g209
            try simp only [decide_eq_true_eq, decide_eq_false_iff_not, Bool.not_eq_true', Bool.not_eq_false', Bool.and_eq_true, Bool.or_eq_true, Bool.and_eq_false_iff, Bool.or_eq_false_iff, Int.not_le, Int.not_lt] at g209'
            iterate 8 refine RunL.no rfl rfl rfl ?_
            refine RunL.val (Val.pure rfl) rfl rfl rfl ?_
            exact RunL.segEnd (Sub.cons rfl (Sub.skip rfl (Sub.skip rfl (Sub.skip rfl (Sub.skip rfl (Sub.skip rfl (Sub.skip rfl (Sub.skip rfl (Sub.skip rfl (Sub.skip rfl (Sub.same rfl (by rw [g209]) (Sub.refl _)))))))))))) (List.Sublist.refl _)
          ) ?_
          refine RunL.val (Val.pure rfl) rfl rfl rfl ?_
          refine RunL.andPart (dj := 219) (dp := 232) 13 rfl (fun g219 => by
            have g219' := g219
            try simp only [decide_eq_true_eq, decide_eq_false_iff_not, Bool.not_eq_true', Bool.not_eq_false', Bool.and_eq_true, Bool.or_eq_true, Bool.and_eq_false_iff, Bool.or_eq_false_iff, Int.not_le, Int.not_lt] at g219'
            iterate 3 refine RunL.val (Val.pure rfl) rfl rfl rfl ?_
            refine RunL.orPart (dj := 222) (dp := 231) 9 rfl (fun g222 => by
              have g222' := g222
              try simp only [decide_eq_true_eq, decide_eq_false_iff_not, Bool.not_eq_true', Bool.not_eq_false', Bool.and_eq_true, Bool.or_eq_true, Bool.and_eq_false_iff, Bool.or_eq_false_iff, Int.not_le, Int.not_lt] at g222'
              iterate 3 refine RunL.val (Val.pure rfl) rfl rfl rfl ?_
              refine RunL.andPart (dj := 225) (dp := 230) 5 rfl (fun g225 => by
                have g225' := g225
                try simp only [decide_eq_true_eq, decide_eq_false_iff_not, Bool.not_eq_true', Bool.not_eq_false', Bool.and_eq_true, Bool.or_eq_true, Bool.and_eq_false_iff, Bool.or_eq_false_iff, Int.not_le, Int.not_lt] at g225'
                refine RunL.val (Val.pure rfl) rfl rfl rfl ?_
                refine RunL.val (Val.load_agg rfl (.tail _ (.tail _ (.head _))) ty_23 rfl) rfl rfl rfl ?_
                refine RunL.val (Val.load_agg rfl (.tail _ (.tail _ (.tail _ (.head _)))) ty_23 rfl) rfl rfl rfl ?_
                refine RunL.callP (isCall_value rfl rfl ent_30) rfl rfl rfl (fun w hm => mmin_calls _ _ w) ?_
                refine RunL.val (Val.pure rfl) rfl rfl rfl ?_
                exact RunL.segEnd (Sub.cons rfl (Sub.skip rfl (Sub.skip rfl (Sub.skip rfl (Sub.skip rfl (Sub.skip rfl (Sub.same rfl (by rw [g225]) (Sub.refl _)))))))) (List.Sublist.refl _)
              ) (fun g225 => by
                have g225' := g225
                try simp only [decide_eq_true_eq, decide_eq_false_iff_not, Bool.not_eq_true', Bool.not_eq_false', Bool.and_eq_true, Bool.or_eq_true, Bool.and_eq_false_iff, Bool.or_eq_false_iff, Int.not_le, Int.not_lt] at g225'
                iterate 4 refine RunL.no rfl rfl rfl ?_
                refine RunL.val (Val.pure rfl) rfl rfl rfl ?_
                exact RunL.segEnd (Sub.cons rfl (Sub.skip rfl (Sub.skip rfl (Sub.skip rfl (Sub.skip rfl (Sub.skip rfl (Sub.same rfl (by rw [g225]) (Sub.refl _)))))))) (List.Sublist.refl _)
              ) ?_
              refine RunL.val (Val.pure rfl) rfl rfl rfl ?_
              exact RunL.segEnd (Sub.cons rfl (Sub.skip rfl (Sub.skip rfl (Sub.skip rfl (Sub.skip rfl (Sub.skip rfl (Sub.same rfl (by rw [g222]) (Sub.refl _)))))))) (List.Sublist.refl _)
            ) (fun g222 => by
              have g222' := g222
              try simp only [decide_eq_true_eq, decide_eq_false_iff_not, Bool.not_eq_true', Bool.not_eq_false', Bool.and_eq_true, Bool.or_eq_true, Bool.and_eq_false_iff, Bool.or_eq_false_iff, Int.not_le, Int.not_lt] at g222'
              iterate 8 refine RunL.no rfl rfl rfl ?_
              refine RunL.val (Val.pure rfl) rfl rfl rfl ?_
              exact RunL.segEnd (Sub.cons rfl (Sub.skip rfl (Sub.skip rfl (Sub.skip rfl (Sub.skip rfl (Sub.skip rfl (Sub.skip rfl (Sub.skip rfl (Sub.skip rfl (Sub.skip rfl (Sub.same rfl (by rw [g222]) (Sub.refl _)))))))))))) (List.Sublist.refl _)
            ) ?_
            refine RunL.val (Val.pure rfl) rfl rfl rfl ?_
            exact RunL.segEnd (Sub.cons rfl (Sub.skip rfl (Sub.skip rfl (Sub.skip rfl (Sub.skip rfl (Sub.skip rfl (Sub.same rfl (by rw [g219]) (Sub.refl _)))))))) (List.Sublist.refl _)
          ) (fun g219 => by
            have g219' := g219
            try simp only [decide_eq_true_eq, decide_eq_false_iff_not, Bool.not_eq_true', Bool.not_eq_false', Bool.and_eq_true, Bool.or_eq_true, Bool.and_eq_false_iff, Bool.or_eq_false_iff, Int.not_le, Int.not_lt] at g219'
            iterate 12 refine RunL.no rfl rfl rfl ?_
            refine RunL.val (Val.pure rfl) rfl rfl rfl ?_
            exact RunL.segEnd (Sub.cons rfl (Sub.skip rfl (Sub.skip rfl (Sub.skip rfl (Sub.skip rfl (Sub.skip rfl (Sub.skip rfl (Sub.skip rfl (Sub.skip rfl (Sub.skip rfl (Sub.skip rfl (Sub.skip rfl (Sub.skip rfl (Sub.skip rfl (Sub.same rfl (by rw [g219]) (Sub.refl _)))))))))))))))) (List.Sublist.refl _)
          ) ?_
          refine RunL.val (Val.pure rfl) rfl rfl rfl ?_
          refine RunL.andPart (dj := 233) (dp := 246) 13 rfl (fun g233 => by
            have g233' := g233
            try simp only [decide_eq_true_eq, decide_eq_false_iff_not, Bool.not_eq_true', Bool.not_eq_false', Bool.and_eq_true, Bool.or_eq_true, Bool.and_eq_false_iff, Bool.or_eq_false_iff, Int.not_le, Int.not_lt] at g233'
            iterate 3 refine RunL.val (Val.pure rfl) rfl rfl rfl ?_
            refine RunL.orPart (dj := 236) (dp := 245) 9 rfl (fun g236 => by
              have g236' := g236
              try simp only [decide_eq_true_eq, decide_eq_false_iff_not, Bool.not_eq_true', Bool.not_eq_false', Bool.and_eq_true, Bool.or_eq_true, Bool.and_eq_false_iff, Bool.or_eq_false_iff, Int.not_le, Int.not_lt] at g236'
              iterate 3 refine RunL.val (Val.pure rfl) rfl rfl rfl ?_
              refine RunL.andPart (dj := 239) (dp := 244) 5 rfl (fun g239 => by
                have g239' := g239
                try simp only [decide_eq_true_eq, decide_eq_false_iff_not, Bool.not_eq_true', Bool.not_eq_false', Bool.and_eq_true, Bool.or_eq_true, Bool.and_eq_false_iff, Bool.or_eq_false_iff, Int.not_le, Int.not_lt] at g239'
                refine RunL.val (Val.pure rfl) rfl rfl rfl ?_
                refine RunL.val (Val.load_agg rfl (.head _) ty_23 rfl) rfl rfl rfl ?_
                refine RunL.val (Val.load_agg rfl (.tail _ (.head _)) ty_23 rfl) rfl rfl rfl ?_
                refine RunL.callP (isCall_value rfl rfl ent_30) rfl rfl rfl (fun w hm => mmin_calls _ _ w) ?_
                refine RunL.val (Val.pure rfl) rfl rfl rfl ?_
                exact RunL.segEnd (Sub.cons rfl (Sub.skip rfl (Sub.skip rfl (Sub.skip rfl (Sub.skip rfl (Sub.skip rfl (Sub.same rfl (by rw [g239]) (Sub.refl _)))))))) (List.Sublist.refl _)
              ) (fun g239 => by
                have g239' := g239
                try simp only [decide_eq_true_eq, decide_eq_false_iff_not, Bool.not_eq_true', Bool.not_eq_false', Bool.and_eq_true, Bool.or_eq_true, Bool.and_eq_false_iff, Bool.or_eq_false_iff, Int.not_le, Int.not_lt] at g239'
                iterate 4 refine RunL.no rfl rfl rfl ?_
                refine RunL.val (Val.pure rfl) rfl rfl rfl ?_
                exact RunL.segEnd (Sub.cons rfl (Sub.skip rfl (Sub.skip rfl (Sub.skip rfl (Sub.skip rfl (Sub.skip rfl (Sub.same rfl (by rw [g239]) (Sub.refl _)))))))) (List.Sublist.refl _)
              ) ?_
              refine RunL.val (Val.pure rfl) rfl rfl rfl ?_
              exact RunL.segEnd (Sub.cons rfl (Sub.skip rfl (Sub.skip rfl (Sub.skip rfl (Sub.skip rfl (Sub.skip rfl (Sub.same rfl (by rw [g236]) (Sub.refl _)))))))) (List.Sublist.refl _)
            ) (fun g236 => by
              have g236' := g236
              try simp only [decide_eq_true_eq, decide_eq_false_iff_not, Bool.not_eq_true', Bool.not_eq_false', Bool.and_eq_true, Bool.or_eq_true, Bool.and_eq_false_iff, Bool.or_eq_false_iff, Int.not_le, Int.not_lt] at g236'
              iterate 8 refine RunL.no rfl rfl rfl ?_
              refine RunL.val (Val.pure rfl) rfl rfl rfl ?_
              exact RunL.segEnd (Sub.cons rfl (Sub.skip rfl (Sub.skip rfl (Sub.skip rfl (Sub.skip rfl (Sub.skip rfl (Sub.skip rfl (Sub.skip rfl (Sub.skip rfl (Sub.skip rfl (Sub.same rfl (by rw [g236]) (Sub.refl _)))))))))))) (List.Sublist.refl _)
            ) ?_
            refine RunL.val (Val.pure rfl) rfl rfl rfl ?_
            exact RunL.segEnd (Sub.cons rfl (Sub.skip rfl (Sub.skip rfl (Sub.skip rfl (Sub.skip rfl (Sub.skip rfl (Sub.same rfl (by rw [g233]) (Sub.refl _)))))))) (List.Sublist.refl _)
          ) (fun g233 => by
            have g233' := g233
            try simp only [decide_eq_true_eq, decide_eq_false_iff_not, Bool.not_eq_true', Bool.not_eq_false', Bool.and_eq_true, Bool.or_eq_true, Bool.and_eq_false_iff, Bool.or_eq_false_iff, Int.not_le, Int.not_lt] at g233'
            iterate 12 refine RunL.no rfl rfl rfl ?_
            refine RunL.val (Val.pure rfl) rfl rfl rfl ?_
            exact RunL.segEnd (Sub.cons rfl (Sub.skip rfl (Sub.skip rfl (Sub.skip rfl (Sub.skip rfl (Sub.skip rfl (Sub.skip rfl (Sub.skip rfl (Sub.skip rfl (Sub.skip rfl (Sub.skip rfl (Sub.skip rfl (Sub.skip rfl (Sub.skip rfl (Sub.same rfl (by rw [g233]) (Sub.refl _)))))))))))))))) (List.Sublist.refl _)
          ) ?_
          refine RunL.val (Val.pure rfl) rfl rfl rfl ?_
          refine RunL.andPart (dj := 247) (dp := 254) 7 rfl (fun g247 => by
            have g247' := g247
            try simp only [decide_eq_true_eq, decide_eq_false_iff_not, Bool.not_eq_true', Bool.not_eq_false', Bool.and_eq_true, Bool.or_eq_true, Bool.and_eq_false_iff, Bool.or_eq_false_iff, Int.not_le, Int.not_lt] at g247'
            iterate 3 refine RunL.val (Val.pure rfl) rfl rfl rfl ?_
            refine RunL.orPart (dj := 250) (dp := 253) 3 rfl (fun g250 => by
              have g250' := g250
              try simp only [decide_eq_true_eq, decide_eq_false_iff_not, Bool.not_eq_true', Bool.not_eq_false', Bool.and_eq_true, Bool.or_eq_true, Bool.and_eq_false_iff, Bool.or_eq_false_iff, Int.not_le, Int.not_lt] at g250'
              iterate 3 refine RunL.val (Val.pure rfl) rfl rfl rfl ?_
              exact RunL.segEnd (Sub.cons rfl (Sub.skip rfl (Sub.skip rfl (Sub.skip rfl (Sub.same rfl (by rw [g250]) (Sub.refl _)))))) (List.Sublist.refl _)
            ) (fun g250 => by
              have g250' := g250
              try simp only [decide_eq_true_eq, decide_eq_false_iff_not, Bool.not_eq_true', Bool.not_eq_false', Bool.and_eq_true, Bool.or_eq_true, Bool.and_eq_false_iff, Bool.or_eq_false_iff, Int.not_le, Int.not_lt] at g250'
              refine RunL.no rfl rfl rfl ?_
              refine RunL.no rfl rfl rfl ?_
              refine RunL.val (Val.pure rfl) rfl rfl rfl ?_
              exact RunL.segEnd (Sub.cons rfl (Sub.skip rfl (Sub.skip rfl (Sub.skip rfl (Sub.same rfl (by rw [g250]) (Sub.refl _)))))) (List.Sublist.refl _)
            ) ?_
            refine RunL.val (Val.pure rfl) rfl rfl rfl ?_
            exact RunL.segEnd (Sub.cons rfl (Sub.skip rfl (Sub.skip rfl (Sub.skip rfl (Sub.skip rfl (Sub.skip rfl (Sub.same rfl (by rw [g247]) (Sub.refl _)))))))) (List.Sublist.refl _)
          ) (fun g247 => by
            have g247' := g247
            try simp only [decide_eq_true_eq, decide_eq_false_iff_not, Bool.not_eq_true', Bool.not_eq_false', Bool.and_eq_true, Bool.or_eq_true, Bool.and_eq_false_iff, Bool.or_eq_false_iff, Int.not_le, Int.not_lt] at g247'
            iterate 6 refine RunL.no rfl rfl rfl ?_
            refine RunL.val (Val.pure rfl) rfl rfl rfl ?_
            exact RunL.segEnd (Sub.cons rfl (Sub.skip rfl (Sub.skip rfl (Sub.skip rfl (Sub.skip rfl (Sub.skip rfl (Sub.skip rfl (Sub.skip rfl (Sub.same rfl (by rw [g247]) (Sub.refl _)))))))))) (List.Sublist.refl _)
          ) ?_
          refine RunL.val (Val.pure rfl) rfl rfl rfl ?_
          refine RunL.andPart (dj := 255) (dp := 257) 2 rfl (fun g255 => by
            have g255' := g255
            try simp only [decide_eq_true_eq, decide_eq_false_iff_not, Bool.not_eq_true', Bool.not_eq_false', Bool.and_eq_true, Bool.or_eq_true, Bool.and_eq_false_iff, Bool.or_eq_false_iff, Int.not_le, Int.not_lt] at g255'
            refine RunL.callP (isCall_func rfl ent_11) rfl rfl rfl (fun w hm => mawake_calls w) ?_
            refine RunL.val (Val.pure rfl) rfl rfl rfl ?_
            exact RunL.segEnd (Sub.cons rfl (Sub.skip rfl (Sub.skip rfl (Sub.same rfl (by rw [g255]) (Sub.refl _))))) (List.Sublist.refl _)
          ) (fun g255 => by
            have g255' := g255
            try simp only [decide_eq_true_eq, decide_eq_false_iff_not, Bool.not_eq_true', Bool.not_eq_false', Bool.and_eq_true, Bool.or_eq_true, Bool.and_eq_false_iff, Bool.or_eq_false_iff, Int.not_le, Int.not_lt] at g255'
            refine RunL.no rfl rfl rfl ?_
            refine RunL.val (Val.pure rfl) rfl rfl rfl ?_
            exact RunL.segEnd (Sub.cons rfl (Sub.skip rfl (Sub.skip rfl (Sub.same rfl (by rw [g255]) (Sub.refl _))))) (List.Sublist.refl _)
          ) ?_
          refine RunL.val (Val.pure rfl) rfl rfl rfl ?_
          refine RunL.nil ?_
          refine RunE.next ?_
          refine RunC.ret ?_
          exact RunE.retP (.r1 rfl (.tmp rfl)) (by refine congrArg Value.bool ?_; simp only [Bool.or_eq_true, Bool.and_eq_true, Bool.not_eq_true', Bool.or_eq_false_iff, Bool.and_eq_false_iff, Bool.not_eq_false', decide_eq_true_eq, decide_eq_false_iff_not, Bool.false_eq_true, true_iff, false_iff, iff_true, iff_false, and_true, true_and, Bool.and_true, Bool.true_and]; omega)
end Go.Proofs.Ythoheicppmbepaa
