/- Walks of the laws of layer 3: MountTrue. -/
import Derived.Test.YthoheicppmbepaaMp
import Derived.Test.YthoheicppmbepaaMy2
set_option linter.unusedSimpArgs false
set_option linter.unusedVariables false
namespace Go.Pw1
open Go Go.Eng
theorem trim_cases (c : Cd) : ((trimX c).2 ≠ 0 ∧ (trimX c).1 = ⟨0, 0, 0, 0⟩ ∧ ((seenX c).2 = (trimX c).2 ∨ ((trimX c).2 = 11 ∧ (seenX c).2 = 0))) ∨ ∃ u, openM c [] = 0 ∧ bestM c = some u ∧ trimX c = (u, 0) := by
  by_cases h0 : openM c [] = 0
  · cases hb : bestM c with
    | none => left; simp [trimX, seenX, h0, hb]
    | some u => right; exact ⟨u, h0, rfl, by simp [trimX, h0, hb]⟩
  · left; simp [trimX, seenX, h0]
theorem whyX_fine {p : Pr} (hp : isPair p = true) (hb : isB (allS p) = true) {j : Nat} (hj : j < p.things.length) : (whyX p j).2 = 0 := by
  rw [why_same]
  have ht : thingR p j = true := by simp [thingR, within]; omega
  unfold whyR openR
  rw [if_pos hp, ht, if_pos rfl, if_pos hb]
  simp only
  repeat' split
  all_goals first | rfl | (rename_i h; exact absurd rfl h)
end Go.Pw1
namespace Go.Proofs.Ythoheicppmbepaa
open Go Go.Eng Go.Pw1

theorem pick_calls (s : Sp) (hs : s.Ok 20000) (l : List Int) (hl : By l) (a : Nat) (ha : a ≤ 1000000) (q : Option Addr) (b o cap bat bby : Nat) (W : World) (hat : W.heap[bat]? = some (.cells [.int .i64 (a : Int)].toArray 3 (0, 0)))
    (hby : W.heap[bby]? = some (.cells [.slice q l.length cap].toArray 29 (0, 0))) (hne : bby ≠ bat) (hbb : b ≠ bat) (hS : Sl W q b o 1 (u16s l)) :
    Calls Try.prog 16 #[.agg #[.int .i64 s.lo, .int .i64 s.hi], .func (.func 39) #[] #[.pointer (some ⟨bat, 0, none⟩), .pointer (some ⟨bby, 0, none⟩)]] W (TurnsX bat (.cells [.int .i64 ((a + 1 : Nat) : Int)].toArray 3 (0, 0)) (fun r : Int => .int .i64 r) (fun r => s.lo ≤ r ∧ r ≤ s.hi) W) := by
  obtain ⟨s1, s2, s3⟩ := hs
  refine calls_start_chg hat Try.func16 rfl rfl ?_
  refine RunC.seq ?_
  refine RunC.region ?_
  refine RunL.new (New.box rfl) rfl rfl rfl (fun b2 => ?_)
  refine RunL.val (Val.pure rfl) rfl rfl rfl ?_
  refine RunL.nil ?_
  refine RunE.next ?_
  refine RunC.seq ?_
  refine RunC.drawK 10 fol_ (.cons .here rfl .nil) ?_
  refine RunA.valC (i := 0) rfl (by kernel_rfl) (by kernel_rfl) (fun c hck => (Val.fieldAddr rfl fld_23_0)) rfl rfl rfl (fun _ _ _ h => h) (.cons .here rfl .nil) rfl ?_
  refine RunA.valC (i := 1) rfl (by kernel_rfl) (by kernel_rfl) (fun c hck => (Val.load_one rfl (List.mem_append_right c (.head _)) ty_3 rfl)) rfl rfl rfl (fun _ _ _ h => h) (.cons .here rfl .nil) rfl ?_
  refine RunA.valC (i := 2) rfl (by kernel_rfl) (by kernel_rfl) (fun c hck => (Val.pure rfl)) rfl rfl rfl (fun _ _ _ h => h) (.cons .here rfl .nil) rfl ?_
  refine RunA.valC (i := 3) rfl (by kernel_rfl) (by kernel_rfl) (fun c hck => (Val.fieldAddr rfl fld_23_1)) rfl rfl rfl (fun _ _ _ h => h) (.cons .here rfl .nil) rfl ?_
  refine RunA.valC (i := 4) rfl (by kernel_rfl) (by kernel_rfl) (fun c hck => (Val.load_one rfl (List.mem_append_right c (.head _)) ty_3 rfl)) rfl rfl rfl (fun _ _ _ h => h) (.cons .here rfl .nil) rfl ?_
  refine RunA.valC (i := 5) rfl (by kernel_rfl) (by kernel_rfl) (fun c hck => (Val.fieldAddr rfl fld_23_0)) rfl rfl rfl (fun _ _ _ h => h) (.cons .here rfl .nil) rfl ?_
  refine RunA.valC (i := 6) rfl (by kernel_rfl) (by kernel_rfl) (fun c hck => (Val.load_one rfl (List.mem_append_right c (.head _)) ty_3 rfl)) rfl rfl rfl (fun _ _ _ h => h) (.cons .here rfl .nil) rfl ?_
  refine RunA.valC (i := 7) rfl (by kernel_rfl) (by kernel_rfl) (fun c hck => (Val.sub' rfl rfl (IntWalk.i64_in _ ⟨by omega, by omega⟩))) rfl rfl rfl (fun _ _ _ h => h) (.cons .here rfl .nil) rfl ?_
  refine RunA.valC (i := 8) rfl (by kernel_rfl) (by kernel_rfl) (fun c hck => (Val.add rfl rfl (IntWalk.i64_in _ ⟨by omega, by omega⟩))) rfl rfl rfl (fun _ _ _ h => h) (.cons .here rfl .nil) rfl ?_
  refine RunA.one (i := 9) (by kernel_rfl) (by kernel_rfl) ?_
  refine RunI.callX_chg rfl (isCall_value rfl rfl ent_39) rfl rfl rfl .here (fun w hm => draw_calls l hl _ (by omega) _ (by omega) q b o cap _ _ w (hm.at (.head _)) (hm.old_at hby (by simp [hne])) hne hbb (hS.mono (by decide) hm (by simp [hbb]))) (fun x14 hx14 => (RunK.toA (.cons .here rfl .nil) (.cons .here rfl .nil) rfl ?_))
  refine RunA.toB (by kernel_rfl) ?_
  refine RunB.one (i := 10) (by kernel_rfl) ?_
  refine RunI.val rfl (Val.add rfl rfl (IntWalk.i64_in _ ⟨by omega, by omega⟩)) rfl rfl rfl (RunK.toB ?_)
  refine RunB.one (i := 11) (by kernel_rfl) ?_
  refine RunI.val rfl (Val.pure rfl) rfl rfl rfl (RunK.toB ?_)
  refine RunB.done (by kernel_rfl) ?_
  refine RunE.next ?_
  refine RunC.ret ?_
  exact RunE.retX (s.lo + x14) (by omega) (.r1 rfl (.tmp rfl)) rfl
theorem trueL_calls (c : Cd) (l : List Int) (hlr : ∀ v ∈ l, 0 ≤ v ∧ v ≤ 65535) (hll : l.length ≤ maxLen) (qB : Option Addr) (bB oB cB : Nat) (q : Option Addr) (b o cap : Nat) (W : World) (hS : Sl W q b o 9 (c.p.things.map Th.cells)) (hB : Sl W qB bB oB 1 (u16s l)) :
    Calls Try.prog 3 #[c.v q cap, .slice qB l.length cB] W (Pure (.bool true) W) := by
  refine calls_start Try.func3 rfl rfl ?_
  refine RunC.seq ?_
  refine RunC.region ?_
  refine RunL.new (New.box rfl) rfl rfl rfl (fun b2 => ?_)
  refine RunL.val (Val.pure rfl) rfl rfl rfl ?_
  refine RunL.nil ?_
  refine RunE.next ?_
  refine RunC.seq ?_
  refine RunC.seq ?_
  refine RunC.region ?_
  refine RunL.val (Val.fieldAddr rfl fld_28_0) rfl rfl rfl ?_
  refine RunL.val (Val.fieldAddr rfl fld_26_5) rfl rfl rfl ?_
  refine RunL.val (Val.load_one rfl (.head _) ty_24 rfl) rfl rfl rfl ?_
  refine RunL.val (Val.len_sl rfl sl_24) rfl rfl rfl ?_
  refine RunL.val (Val.pure rfl) rfl rfl rfl ?_
  refine RunL.val (Val.pure rfl) rfl rfl rfl ?_
  refine RunL.orPart (dj := 27) (dp := 31) 4 rfl (fun g27 => by
    have g27' := g27
    try simp only [decide_eq_true_eq, decide_eq_false_iff_not, Bool.not_eq_true', Bool.not_eq_false', Bool.and_eq_true, Bool.or_eq_true, Bool.and_eq_false_iff, Bool.or_eq_false_iff, Int.not_le, Int.not_lt] at g27'
    refine RunL.val (Val.pure rfl) rfl rfl rfl ?_
    refine RunL.val (Val.len_sl rfl sl_29) rfl rfl rfl ?_
    refine RunL.val (Val.pure rfl) rfl rfl rfl ?_
    refine RunL.val (Val.pure rfl) rfl rfl rfl ?_
    exact RunL.segEnd (Sub.cons rfl (Sub.skip rfl (Sub.skip rfl (Sub.skip rfl (Sub.skip rfl (Sub.same rfl (by rw [g27]) (Sub.refl _))))))) (List.Sublist.refl _)
  ) (fun g27 => by
    have g27' := g27
    try simp only [decide_eq_true_eq, decide_eq_false_iff_not, Bool.not_eq_true', Bool.not_eq_false', Bool.and_eq_true, Bool.or_eq_true, Bool.and_eq_false_iff, Bool.or_eq_false_iff, Int.not_le, Int.not_lt] at g27'
    iterate 3 refine RunL.no rfl rfl rfl ?_
    refine RunL.val (Val.pure rfl) rfl rfl rfl ?_
    exact RunL.segEnd (Sub.cons rfl (Sub.skip rfl (Sub.skip rfl (Sub.skip rfl (Sub.skip rfl (Sub.same rfl (by rw [g27]) (Sub.refl _))))))) (List.Sublist.refl _)
  ) ?_
  refine RunL.val (Val.pure rfl) rfl rfl rfl ?_
  refine RunL.orPart (dj := 32) (dp := 40) 8 rfl (fun g32 => by
    have g32' := g32
    try simp only [decide_eq_true_eq, decide_eq_false_iff_not, Bool.not_eq_true', Bool.not_eq_false', Bool.and_eq_true, Bool.or_eq_true, Bool.and_eq_false_iff, Bool.or_eq_false_iff, Int.not_le, Int.not_lt] at g32'
    refine RunL.val (Val.fieldAddr rfl fld_28_3) rfl rfl rfl ?_
    refine RunL.val (Val.load_one rfl (.head _) ty_3 rfl) rfl rfl rfl ?_
    refine RunL.val (Val.pure rfl) rfl rfl rfl ?_
    refine RunL.val (Val.pure rfl) rfl rfl rfl ?_
    refine RunL.andPart (dj := 36) (dp := 39) 3 rfl (fun g36 => by
      have g36' := g36
      try simp only [decide_eq_true_eq, decide_eq_false_iff_not, Bool.not_eq_true', Bool.not_eq_false', Bool.and_eq_true, Bool.or_eq_true, Bool.and_eq_false_iff, Bool.or_eq_false_iff, Int.not_le, Int.not_lt] at g36'
      refine RunL.val (Val.load_agg rfl (.head _) ty_28 rfl) rfl rfl rfl ?_
      refine RunL.callP (isCall_func rfl ent_10) rfl rfl rfl (fun w hm => mrCard_calls c q b o cap w (hS.mono (by decide) hm (by simp)) (by omega)) ?_
      refine RunL.val (Val.pure rfl) rfl rfl rfl ?_
      exact RunL.segEnd (Sub.cons rfl (Sub.skip rfl (Sub.skip rfl (Sub.skip rfl (Sub.same rfl (by rw [g36]) (Sub.refl _)))))) (List.Sublist.refl _)
    ) (fun g36 => by
      have g36' := g36
      try simp only [decide_eq_true_eq, decide_eq_false_iff_not, Bool.not_eq_true', Bool.not_eq_false', Bool.and_eq_true, Bool.or_eq_true, Bool.and_eq_false_iff, Bool.or_eq_false_iff, Int.not_le, Int.not_lt] at g36'
      refine RunL.no rfl rfl rfl ?_
      refine RunL.no rfl rfl rfl ?_
      refine RunL.val (Val.pure rfl) rfl rfl rfl ?_
      exact RunL.segEnd (Sub.cons rfl (Sub.skip rfl (Sub.skip rfl (Sub.skip rfl (Sub.same rfl (by rw [g36]) (Sub.refl _)))))) (List.Sublist.refl _)
    ) ?_
    refine RunL.val (Val.pure rfl) rfl rfl rfl ?_
    exact RunL.segEnd (Sub.cons rfl (Sub.skip rfl (Sub.skip rfl (Sub.skip rfl (Sub.skip rfl (Sub.skip rfl (Sub.skip rfl (Sub.same rfl (by rw [g32]) (Sub.refl _))))))))) (List.Sublist.refl _)
  ) (fun g32 => by
    have g32' := g32
    try simp only [decide_eq_true_eq, decide_eq_false_iff_not, Bool.not_eq_true', Bool.not_eq_false', Bool.and_eq_true, Bool.or_eq_true, Bool.and_eq_false_iff, Bool.or_eq_false_iff, Int.not_le, Int.not_lt] at g32'
    iterate 7 refine RunL.no rfl rfl rfl ?_
    refine RunL.val (Val.pure rfl) rfl rfl rfl ?_
    exact RunL.segEnd (Sub.cons rfl (Sub.skip rfl (Sub.skip rfl (Sub.skip rfl (Sub.skip rfl (Sub.skip rfl (Sub.skip rfl (Sub.skip rfl (Sub.skip rfl (Sub.same rfl (by rw [g32]) (Sub.refl _))))))))))) (List.Sublist.refl _)
  ) ?_
  refine RunL.nil ?_
  refine RunE.next ?_
  refine RunC.cond rfl ?_ ?_
  · intro c0
    have c0' := c0; clear c0
    try simp only [decide_eq_true_eq, decide_eq_false_iff_not, Bool.not_eq_true', Bool.not_eq_false', Bool.and_eq_true, Bool.or_eq_true, Bool.and_eq_false_iff, Bool.or_eq_false_iff, Int.not_le, Int.not_lt] at c0'
    refine RunC.seq ?_
    refine RunC.region ?_
    refine RunL.callP (isCall_func rfl ent_11) rfl rfl rfl (fun w hm => mawake_calls w) ?_
    refine RunL.val (Val.pure rfl) rfl rfl rfl ?_
    refine RunL.nil ?_
    refine RunE.next ?_
    refine RunC.ret ?_
    refine RunE.pass_ret ?_
    exact RunE.retP (.r1 rfl (.tmp rfl)) (by first | rfl | simp)
  · intro c0
    have c0' := c0; clear c0
    try simp only [decide_eq_true_eq, decide_eq_false_iff_not, Bool.not_eq_true', Bool.not_eq_false', Bool.and_eq_true, Bool.or_eq_true, Bool.and_eq_false_iff, Bool.or_eq_false_iff, Int.not_le, Int.not_lt] at c0'
    have hl40 : c.p.things.length ≤ 40 ∧ l.length ≠ 0 := by omega
    have hl2 : c.p.things.length ≤ 100000000000 := by omega
    refine RunC.skip ?_
    refine RunE.next ?_
    refine RunC.seq ?_
    refine RunC.region ?_
    refine RunL.val (Val.load_agg rfl (.head _) ty_28 rfl) rfl rfl rfl ?_
    refine RunL.callP (isCall_func rfl ent_12) rfl rfl rfl (fun w hm => Trim_calls c q b o cap w (hS.mono (by decide) hm (by simp)) hl2) ?_
    iterate 3 refine RunL.val (Val.pure rfl) rfl rfl rfl ?_
    refine RunL.new (New.alloc zero_33) rfl rfl rfl (fun b5 => ?_)
    refine RunL.sto (Sto.store rfl rfl .here ty_33 rfl rfl) rfl rfl ?_
    refine RunL.val (Val.pure rfl) rfl rfl rfl ?_
    refine RunL.nil ?_
    refine RunE.next ?_
    refine RunC.seq ?_
    refine RunC.region ?_
    refine RunL.val (Val.load_agg rfl (.tail _ (.head _)) ty_28 rfl) rfl rfl rfl ?_
    refine RunL.callP (isCall_func rfl ent_13) rfl rfl rfl (fun w hm => Seen_calls c q b o cap w (hS.mono (by decide) hm (by simp)) hl2) ?_
    iterate 5 refine RunL.val (Val.pure rfl) rfl rfl rfl ?_
    refine RunL.nil ?_
    refine RunE.next ?_
    refine RunC.seq ?_
    refine RunC.seq ?_
    refine RunC.region ?_
    refine RunL.val (Val.pure rfl) rfl rfl rfl ?_
    refine RunL.val (Val.pure rfl) rfl rfl rfl ?_
    refine RunL.nil ?_
    refine RunE.next ?_
    refine RunC.cond rfl ?_ ?_
    · intro c1
      have c1' := c1; clear c1
      try simp only [decide_eq_true_eq, decide_eq_false_iff_not, Bool.not_eq_true', Bool.not_eq_false', Bool.and_eq_true, Bool.or_eq_true, Bool.and_eq_false_iff, Bool.or_eq_false_iff, Int.not_le, Int.not_lt] at c1'
      obtain ⟨_, z1, z2⟩ := (trim_cases c).resolve_right (fun ⟨u, _, _, h⟩ => c1' (by rw [h]))
      refine RunC.seq ?_
      refine RunC.region ?_
      refine RunL.val (Val.load_agg rfl (.head _) ty_33 rfl) rfl rfl rfl ?_
      refine RunL.val (Val.build (parts := []) rfl zero_33 places_33 rfl) rfl rfl rfl ?_
      refine RunL.val (Val.eql_flat rfl rfl eqB_33 (kl_33 _ _ _ _ _ _ _ _ )) rfl rfl rfl ?_
      refine RunL.val (Val.pure rfl) rfl rfl rfl ?_
      refine RunL.andPart (dj := 57) (dp := 69) 12 rfl (fun g57 => by
        have g57' := g57
        try simp only [decide_eq_true_eq, decide_eq_false_iff_not, Bool.not_eq_true', Bool.not_eq_false', Bool.and_eq_true, Bool.or_eq_true, Bool.and_eq_false_iff, Bool.or_eq_false_iff, Int.not_le, Int.not_lt] at g57'
        iterate 4 refine RunL.val (Val.pure rfl) rfl rfl rfl ?_
        refine RunL.orPart (dj := 61) (dp := 68) 7 rfl (fun g61 => by
          have g61' := g61
          try simp only [decide_eq_true_eq, decide_eq_false_iff_not, Bool.not_eq_true', Bool.not_eq_false', Bool.and_eq_true, Bool.or_eq_true, Bool.and_eq_false_iff, Bool.or_eq_false_iff, Int.not_le, Int.not_lt] at g61'
          iterate 3 refine RunL.val (Val.pure rfl) rfl rfl rfl ?_
          refine RunL.andPart (dj := 64) (dp := 67) 3 rfl (fun g64 => by
            have g64' := g64
            try simp only [decide_eq_true_eq, decide_eq_false_iff_not, Bool.not_eq_true', Bool.not_eq_false', Bool.and_eq_true, Bool.or_eq_true, Bool.and_eq_false_iff, Bool.or_eq_false_iff, Int.not_le, Int.not_lt] at g64'
            iterate 3 refine RunL.val (Val.pure rfl) rfl rfl rfl ?_
            exact RunL.segEnd (Sub.cons rfl (Sub.skip rfl (Sub.skip rfl (Sub.skip rfl (Sub.same rfl (by rw [g64]) (Sub.refl _)))))) (List.Sublist.refl _)
          ) (fun g64 => by
            have g64' := g64
            try simp only [decide_eq_true_eq, decide_eq_false_iff_not, Bool.not_eq_true', Bool.not_eq_false', Bool.and_eq_true, Bool.or_eq_true, Bool.and_eq_false_iff, Bool.or_eq_false_iff, Int.not_le, Int.not_lt] at g64'
            refine RunL.no rfl rfl rfl ?_
            refine RunL.no rfl rfl rfl ?_
            refine RunL.val (Val.pure rfl) rfl rfl rfl ?_
            exact RunL.segEnd (Sub.cons rfl (Sub.skip rfl (Sub.skip rfl (Sub.skip rfl (Sub.same rfl (by rw [g64]) (Sub.refl _)))))) (List.Sublist.refl _)
          ) ?_
          refine RunL.val (Val.pure rfl) rfl rfl rfl ?_
          exact RunL.segEnd (Sub.cons rfl (Sub.skip rfl (Sub.skip rfl (Sub.skip rfl (Sub.skip rfl (Sub.skip rfl (Sub.same rfl (by rw [g61]) (Sub.refl _)))))))) (List.Sublist.refl _)
        ) (fun g61 => by
          have g61' := g61
          try simp only [decide_eq_true_eq, decide_eq_false_iff_not, Bool.not_eq_true', Bool.not_eq_false', Bool.and_eq_true, Bool.or_eq_true, Bool.and_eq_false_iff, Bool.or_eq_false_iff, Int.not_le, Int.not_lt] at g61'
          iterate 6 refine RunL.no rfl rfl rfl ?_
          refine RunL.val (Val.pure rfl) rfl rfl rfl ?_
          exact RunL.segEnd (Sub.cons rfl (Sub.skip rfl (Sub.skip rfl (Sub.skip rfl (Sub.skip rfl (Sub.skip rfl (Sub.skip rfl (Sub.skip rfl (Sub.same rfl (by rw [g61]) (Sub.refl _)))))))))) (List.Sublist.refl _)
        ) ?_
        refine RunL.val (Val.pure rfl) rfl rfl rfl ?_
        exact RunL.segEnd (Sub.cons rfl (Sub.skip rfl (Sub.skip rfl (Sub.skip rfl (Sub.skip rfl (Sub.skip rfl (Sub.skip rfl (Sub.same rfl (by rw [g57]) (Sub.refl _))))))))) (List.Sublist.refl _)
      ) (fun g57 => by
        have g57' := g57
        try simp only [decide_eq_true_eq, decide_eq_false_iff_not, Bool.not_eq_true', Bool.not_eq_false', Bool.and_eq_true, Bool.or_eq_true, Bool.and_eq_false_iff, Bool.or_eq_false_iff, Int.not_le, Int.not_lt] at g57'
        iterate 11 refine RunL.no rfl rfl rfl ?_
        refine RunL.val (Val.pure rfl) rfl rfl rfl ?_
        exact RunL.segEnd (Sub.cons rfl (Sub.skip rfl (Sub.skip rfl (Sub.skip rfl (Sub.skip rfl (Sub.skip rfl (Sub.skip rfl (Sub.skip rfl (Sub.skip rfl (Sub.skip rfl (Sub.skip rfl (Sub.skip rfl (Sub.skip rfl (Sub.same rfl (by rw [g57]) (Sub.refl _))))))))))))))) (List.Sublist.refl _)
      ) ?_
      refine RunL.val (Val.pure rfl) rfl rfl rfl ?_
      refine RunL.andPart (dj := 70) (dp := 72) 2 rfl (fun g70 => by
        have g70' := g70
        try simp only [decide_eq_true_eq, decide_eq_false_iff_not, Bool.not_eq_true', Bool.not_eq_false', Bool.and_eq_true, Bool.or_eq_true, Bool.and_eq_false_iff, Bool.or_eq_false_iff, Int.not_le, Int.not_lt] at g70'
        refine RunL.callP (isCall_func rfl ent_11) rfl rfl rfl (fun w hm => mawake_calls w) ?_
        refine RunL.val (Val.pure rfl) rfl rfl rfl ?_
        exact RunL.segEnd (Sub.cons rfl (Sub.skip rfl (Sub.skip rfl (Sub.same rfl (by rw [g70]) (Sub.refl _))))) (List.Sublist.refl _)
      ) (fun g70 => by
        have g70' := g70
        try simp only [decide_eq_true_eq, decide_eq_false_iff_not, Bool.not_eq_true', Bool.not_eq_false', Bool.and_eq_true, Bool.or_eq_true, Bool.and_eq_false_iff, Bool.or_eq_false_iff, Int.not_le, Int.not_lt] at g70'
        refine RunL.no rfl rfl rfl ?_
        refine RunL.val (Val.pure rfl) rfl rfl rfl ?_
        exact RunL.segEnd (Sub.cons rfl (Sub.skip rfl (Sub.skip rfl (Sub.same rfl (by rw [g70]) (Sub.refl _))))) (List.Sublist.refl _)
      ) ?_
      refine RunL.val (Val.pure rfl) rfl rfl rfl ?_
      refine RunL.nil ?_
      refine RunE.next ?_
      refine RunC.ret ?_
      refine RunE.pass_ret ?_
      exact RunE.retP (.r1 rfl (.tmp rfl)) (by rcases z2 with z2 | ⟨z2, z3⟩ <;> simp [z1, z2] <;> simp [z3])
    · intro c1
      have c1' := c1; clear c1
      try simp only [decide_eq_true_eq, decide_eq_false_iff_not, Bool.not_eq_true', Bool.not_eq_false', Bool.and_eq_true, Bool.or_eq_true, Bool.and_eq_false_iff, Bool.or_eq_false_iff, Int.not_le, Int.not_lt] at c1'
      obtain ⟨u, hn0, hb, hT⟩ := (trim_cases c).resolve_left (fun h => h.1 c1')
      simp only [hT]
      obtain ⟨hcard, _⟩ := open_card hn0
      obtain ⟨hc, hip, hpk, _⟩ := card_open hcard
      obtain ⟨hu, huf, _⟩ := best_is hc hb
      have hb2 := (check_pair (check_nil c ▸ hn0)).2.1
      have huo := (trIs_ok hu).1
      have hub := (trIs_ok hu).2
      have hby : By l := ⟨by omega, hll, hlr⟩
      have hlne : u16s l ≠ [] := by (intro e; have := congrArg List.length e; simp at this; simp [this] at hl40)
      have hs0 : seenX c = ((bitsOf (seenN c.p) : Int), 0) := by simp [seenX, hn0]
      have hs1 : (seenX c).1 = (bitsOf (seenN c.p) : Int) := by rw [hs0]
      have hs2 : (seenX c).2 = 0 := by rw [hs0]
      have hl12 := hpk.len
      have hbl := bitsOf_lt hl12
      simp only [hs1]
      have heye : c.eyes.Ok 20000 := ⟨by have := hc.e1; omega, hc.e2, by have := hc.e3; omega⟩
      obtain ⟨h1, h2, h3, h4, h5, h6, h7, h8, h9, h10, h11, h12, h13, h14, h15, h16, h17⟩ := id hc
      obtain ⟨t1, t2, t3, t4, t5, t6, t7, t8⟩ := id huo
      have w1 := step_bd hc (x := u.ll - u.rl) (by omega)
      have w2 := step_bd hc (x := u.lr) (by omega)
      have w3 := step_bd hc (x := u.rl) (by omega)
      have w4 := step_bd hc (x := u.ll) (by omega)
      have w5 := step_bd hc (x := u.rr) (by omega)
      refine RunC.skip ?_
      refine RunE.next ?_
      refine RunC.seq ?_
      refine RunC.seq ?_
      refine RunC.region ?_
      iterate 3 refine RunL.val (Val.pure rfl) rfl rfl rfl ?_
      refine RunL.orPart (dj := 75) (dp := 79) 4 rfl (fun g75 => by
        have g75' := g75
        try simp only [decide_eq_true_eq, decide_eq_false_iff_not, Bool.not_eq_true', Bool.not_eq_false', Bool.and_eq_true, Bool.or_eq_true, Bool.and_eq_false_iff, Bool.or_eq_false_iff, Int.not_le, Int.not_lt] at g75'
        refine RunL.val (Val.load_agg rfl (.tail _ (.head _)) ty_28 rfl) rfl rfl rfl ?_
        refine RunL.callP (isCall_func rfl ent_10) rfl rfl rfl (fun w hm => mrCard_calls c q b o cap w (hS.mono (by decide) hm (by simp)) (by omega)) ?_
        refine RunL.val (Val.pure rfl) rfl rfl rfl ?_
        refine RunL.val (Val.pure rfl) rfl rfl rfl ?_
        exact RunL.segEnd (Sub.cons rfl (Sub.skip rfl (Sub.skip rfl (Sub.skip rfl (Sub.skip rfl (Sub.same rfl (by rw [g75]) (Sub.refl _))))))) (List.Sublist.refl _)
      ) (fun g75 => by
        have g75' := g75
        try simp only [decide_eq_true_eq, decide_eq_false_iff_not, Bool.not_eq_true', Bool.not_eq_false', Bool.and_eq_true, Bool.or_eq_true, Bool.and_eq_false_iff, Bool.or_eq_false_iff, Int.not_le, Int.not_lt] at g75'
        iterate 3 refine RunL.no rfl rfl rfl ?_
        refine RunL.val (Val.pure rfl) rfl rfl rfl ?_
        exact RunL.segEnd (Sub.cons rfl (Sub.skip rfl (Sub.skip rfl (Sub.skip rfl (Sub.skip rfl (Sub.same rfl (by rw [g75]) (Sub.refl _))))))) (List.Sublist.refl _)
      ) ?_
      refine RunL.val (Val.pure rfl) rfl rfl rfl ?_
      refine RunL.orPart (dj := 80) (dp := 85) 5 rfl (fun g80 => by
        have g80' := g80
        try simp only [decide_eq_true_eq, decide_eq_false_iff_not, Bool.not_eq_true', Bool.not_eq_false', Bool.and_eq_true, Bool.or_eq_true, Bool.and_eq_false_iff, Bool.or_eq_false_iff, Int.not_le, Int.not_lt] at g80'
        refine RunL.val (Val.load_agg rfl (.tail _ (.head _)) ty_28 rfl) rfl rfl rfl ?_
        refine RunL.val (Val.load_agg rfl (.head _) ty_33 rfl) rfl rfl rfl ?_
        refine RunL.callP (isCall_func rfl ent_14) rfl rfl rfl (fun w hm => mrTrim_calls c (by omega) u q cap w) ?_
        refine RunL.val (Val.pure rfl) rfl rfl rfl ?_
        refine RunL.val (Val.pure rfl) rfl rfl rfl ?_
        exact RunL.segEnd (Sub.cons rfl (Sub.skip rfl (Sub.skip rfl (Sub.skip rfl (Sub.skip rfl (Sub.skip rfl (Sub.same rfl (by rw [g80]) (Sub.refl _)))))))) (List.Sublist.refl _)
      ) (fun g80 => by
        have g80' := g80
        try simp only [decide_eq_true_eq, decide_eq_false_iff_not, Bool.not_eq_true', Bool.not_eq_false', Bool.and_eq_true, Bool.or_eq_true, Bool.and_eq_false_iff, Bool.or_eq_false_iff, Int.not_le, Int.not_lt] at g80'
        iterate 4 refine RunL.no rfl rfl rfl ?_
        refine RunL.val (Val.pure rfl) rfl rfl rfl ?_
        exact RunL.segEnd (Sub.cons rfl (Sub.skip rfl (Sub.skip rfl (Sub.skip rfl (Sub.skip rfl (Sub.skip rfl (Sub.same rfl (by rw [g80]) (Sub.refl _)))))))) (List.Sublist.refl _)
      ) ?_
      refine RunL.nil ?_
      refine RunE.next ?_
      refine RunC.cond rfl (fun h => absurd h (by simp [hs2, hcard, trR_eq, hu])) ?_
      intro c2
      clear c2
      refine RunC.skip ?_
      refine RunE.next ?_
      refine RunC.seq ?_
      refine RunC.region ?_
      refine RunL.val (Val.pure rfl) rfl rfl rfl ?_
      refine RunL.callN (isCall_func rfl ent_15) rfl rfl rfl (fun w hm => draws_calls l qB cB w) (fun b87 => ?_)
      refine RunL.val (Val.pure rfl) rfl rfl rfl ?_
      refine RunL.nil ?_
      refine RunE.next ?_
      refine RunC.seq ?_
      refine RunC.region ?_
      refine RunL.val (Val.fieldAddr rfl fld_28_4) rfl rfl rfl ?_
      refine RunL.val (Val.load_agg rfl (.tail _ (.tail _ (.tail _ (.head _)))) ty_23 rfl) rfl rfl rfl ?_
      refine RunL.val (Val.pure rfl) rfl rfl rfl ?_
      refine RunL.callX (isCall_func rfl ent_16) rfl rfl rfl .here (fun w hm => pick_calls c.eyes heye l hby _ (by omega) qB bB oB cB _ _ w (hm.at (.head _)) (hm.at (.tail _ (.head _))) (ne_of_T hm (.tail _ (.head _)) (.head _) (by decide)) (hB.ne (by decide) hm (.head _) hlne) (hB.mono (by decide) hm (by simp))) (fun x91 hx91 => ?_)
      refine RunL.val (Val.pure rfl) rfl rfl rfl ?_
      refine RunL.nil ?_
      refine RunE.next ?_
      refine RunC.seq ?_
      refine RunC.region ?_
      refine RunL.val (Val.fieldAddr rfl fld_28_2) rfl rfl rfl ?_
      refine RunL.val (Val.load_one rfl (.tail _ (.tail _ (.tail _ (.head _)))) ty_3 rfl) rfl rfl rfl ?_
      refine RunL.val (Val.fieldAddr rfl fld_33_0) rfl rfl rfl ?_
      refine RunL.val (Val.load_one rfl (.tail _ (.tail _ (.head _))) ty_3 rfl) rfl rfl rfl ?_
      refine RunL.val (Val.fieldAddr rfl fld_33_2) rfl rfl rfl ?_
      refine RunL.val (Val.load_one rfl (.tail _ (.tail _ (.head _))) ty_3 rfl) rfl rfl rfl ?_
      refine RunL.val (Val.sub' rfl rfl (IntWalk.i64_in _ ⟨by omega, by omega⟩)) rfl rfl rfl ?_
      refine RunL.val (Val.mul rfl rfl (IntWalk.i64_in _ ⟨by omega, by omega⟩)) rfl rfl rfl ?_
      refine RunL.val (Val.pure rfl) rfl rfl rfl ?_
      refine RunL.nil ?_
      refine RunE.next ?_
      refine RunC.seq ?_
      refine RunC.seq ?_
      refine RunC.region ?_
      refine RunL.val (Val.fieldAddr rfl fld_28_0) rfl rfl rfl ?_
      refine RunL.val (Val.fieldAddr rfl fld_26_5) rfl rfl rfl ?_
      refine RunL.val (Val.load_one rfl (.tail _ (.tail _ (.tail _ (.head _)))) ty_24 rfl) rfl rfl rfl ?_
      refine RunL.val (Val.len_sl rfl sl_24) rfl rfl rfl ?_
      refine RunL.val (Val.pure rfl) rfl rfl rfl ?_
      refine RunL.nil ?_
      refine RunE.next ?_
      refine RunC.block ?_
      refine RunC.loopX (X := Nat) (n0 := [(b87.2, _), (b5, _), (b2, _)]) (c.p.things.length) (fun k a q => (104, .int .i64 (k : Int)) :: q) (fun _ _ => _) (fun k a => [(b87.1, .cells [.int .i64 (a : Int)].toArray 3 (0, 0))]) (fun k a => []) (fun k a => a ≤ 2 * k + 1) 1 (by omega) rfl (Sub.consE (t := 104) rfl rfl (Sub.cons (t := 2) rfl (Sub.cons (t := 4) rfl (Sub.cons (t := 5) rfl (Sub.cons (t := 7) rfl (Sub.cons (t := 9) rfl (Sub.cons (t := 10) rfl (Sub.cons (t := 11) rfl (Sub.cons (t := 102) rfl (Sub.cons (t := 103) rfl (Sub.nil _))))))))))) (.cons .here rfl (.cons .here rfl (.cons .here rfl (.cons .here rfl (Pick.same rfl))))) ?_
      intro k a kN kI
      refine RunC.seq ?_
      refine RunC.region ?_
      refine RunL.val (Val.pure rfl) rfl rfl rfl ?_
      refine RunL.nil ?_
      refine RunE.next ?_
      refine RunC.seq ?_
      refine RunC.cond rfl ?_ ?_
      · intro c3
        have c3' := c3; clear c3
        try simp only [decide_eq_true_eq, decide_eq_false_iff_not, Bool.not_eq_true', Bool.not_eq_false', Bool.and_eq_true, Bool.or_eq_true, Bool.and_eq_false_iff, Bool.or_eq_false_iff, Int.not_le, Int.not_lt] at c3'
        have hk : k < c.p.things.length := by omega
        obtain ⟨y, hy⟩ : ∃ y, c.p.things[k] = y := ⟨_, rfl⟩
        obtain ⟨⟨hy1, hy2, hy3, hy4⟩, _⟩ := hpk.ths y (hy ▸ List.getElem_mem hk)
        replace hy1 : y.lx.Ok 20000 := ⟨by have := hy1.1; omega, hy1.2.1, by have := hy1.2.2; omega⟩
        replace hy3 : y.rx.Ok 20000 := ⟨by have := hy3.1; omega, hy3.2.1, by have := hy3.2.2; omega⟩
        have z1 := hy1.1
        have z2 := hy1.2.2
        have z3 := hy3.1
        have z4 := hy3.2.2
        have hwf := whyX_fine hip hb2 hk
        have hbit := seen_bit hk
        refine RunC.skip ?_
        refine RunE.next ?_
        refine RunC.seq ?_
        refine RunC.block ?_
        refine RunC.seq ?_
        refine RunC.region ?_
        refine RunL.val (Val.pure rfl) rfl rfl rfl ?_
        refine RunL.val (Val.indexAddr_slp rfl rfl sl_24 (by omega) (by omega) (hS.ptrM hk)) rfl rfl rfl ?_
        refine RunL.val (Val.load_gen rfl (fun w hm => hS.loadX (by decide) hm (by simp) ty_46 hk hy)) rfl rfl rfl ?_
        refine RunL.new (New.alloc zero_46) rfl rfl rfl (fun b13 => ?_)
        refine RunL.val (Val.pure rfl) rfl rfl rfl ?_
        refine RunL.sto (Sto.store rfl rfl .here ty_46 rfl rfl) rfl rfl ?_
        refine RunL.nil ?_
        refine RunE.next ?_
        refine RunC.seq ?_
        refine RunC.region ?_
        refine RunL.val (Val.fieldAddr rfl fld_28_0) rfl rfl rfl ?_
        refine RunL.val (Val.load_agg rfl (.tail _ (.tail _ (.tail _ (.tail _ (.head _))))) ty_26 rfl) rfl rfl rfl ?_
        refine RunL.val (Val.pure rfl) rfl rfl rfl ?_
        refine RunL.callP (isCall_func rfl ent_17) rfl rfl rfl (fun w hm => Why_calls c.p _ q b o cap w (hS.mono (by decide) hm (by simp)) hl2) ?_
        iterate 5 refine RunL.val (Val.pure rfl) rfl rfl rfl ?_
        refine RunL.nil ?_
        refine RunE.next ?_
        refine RunC.seq ?_
        refine RunC.seq ?_
        refine RunC.region ?_
        iterate 3 refine RunL.val (Val.pure rfl) rfl rfl rfl ?_
        refine RunL.orPart (dj := 118) (dp := 127) 9 rfl (fun g118 => by
          have g118' := g118
          try simp only [decide_eq_true_eq, decide_eq_false_iff_not, Bool.not_eq_true', Bool.not_eq_false', Bool.and_eq_true, Bool.or_eq_true, Bool.and_eq_false_iff, Bool.or_eq_false_iff, Int.not_le, Int.not_lt] at g118'
          iterate 4 refine RunL.val (Val.pure rfl) rfl rfl rfl ?_
          refine RunL.val (Val.shrN (a := bitsOf (seenN c.p)) (b := k) rfl rfl (by show k ≤ 64; omega)) rfl rfl rfl ?_
          refine RunL.val (Val.and (a := bitsOf (seenN c.p) >>> k) (b := 1) rfl rfl (by have := Nat.shiftRight_le (bitsOf (seenN c.p)) k; show _ < 18446744073709551616; omega) (by decide) (i64_inN (by have := Nat.and_le_right (n := bitsOf (seenN c.p) >>> k) (m := 1); omega))) rfl rfl rfl ?_
          refine RunL.val (Val.pure rfl) rfl rfl rfl ?_
          refine RunL.val (Val.neq_bool rfl rfl boolB_4) rfl rfl rfl ?_
          refine RunL.val (Val.pure rfl) rfl rfl rfl ?_
          exact RunL.segEnd (Sub.cons rfl (Sub.skip rfl (Sub.skip rfl (Sub.skip rfl (Sub.skip rfl (Sub.skip rfl (Sub.skip rfl (Sub.skip rfl (Sub.skip rfl (Sub.skip rfl (Sub.same rfl (by rw [g118]) (Sub.refl _)))))))))))) (List.Sublist.refl _)
        ) (fun g118 => by
          have g118' := g118
          try simp only [decide_eq_true_eq, decide_eq_false_iff_not, Bool.not_eq_true', Bool.not_eq_false', Bool.and_eq_true, Bool.or_eq_true, Bool.and_eq_false_iff, Bool.or_eq_false_iff, Int.not_le, Int.not_lt] at g118'
          iterate 8 refine RunL.no rfl rfl rfl ?_
          refine RunL.val (Val.pure rfl) rfl rfl rfl ?_
          exact RunL.segEnd (Sub.cons rfl (Sub.skip rfl (Sub.skip rfl (Sub.skip rfl (Sub.skip rfl (Sub.skip rfl (Sub.skip rfl (Sub.skip rfl (Sub.skip rfl (Sub.skip rfl (Sub.same rfl (by rw [g118]) (Sub.refl _)))))))))))) (List.Sublist.refl _)
        ) ?_
        refine RunL.nil ?_
        refine RunE.next ?_
        refine RunC.cond rfl (fun h => absurd h (by have q3 : decide ((whyX c.p k).1 = 0) = decide (((bitsOf (seenN c.p) >>> k &&& 1 : Nat) : Int) = 1) := decide_eq_decide.2 hbit.symm; rw [q3]; simp [hwf])) ?_
        intro c4
        clear c4
        refine RunC.skip ?_
        refine RunE.next ?_
        refine RunC.seq ?_
        refine RunC.seq ?_
        refine RunC.region ?_
        refine RunL.val (Val.pure rfl) rfl rfl rfl ?_
        refine RunL.val (Val.pure rfl) rfl rfl rfl ?_
        refine RunL.nil ?_
        refine RunE.next ?_
        refine RunC.cond rfl ?_ ?_
        · intro c5
          have c5' := c5; clear c5
          try simp only [decide_eq_true_eq, decide_eq_false_iff_not, Bool.not_eq_true', Bool.not_eq_false', Bool.and_eq_true, Bool.or_eq_true, Bool.and_eq_false_iff, Bool.or_eq_false_iff, Int.not_le, Int.not_lt] at c5'
          refine RunC.exit ?_
          refine RunE.pass_exit ?_
          refine RunE.block_here ?_
          refine RunE.next ?_
          refine RunC.region ?_
          refine RunL.val (Val.add rfl rfl (IntWalk.i64_in _ ⟨by omega, by omega⟩)) rfl rfl rfl ?_
          refine RunL.val (Val.pure rfl) rfl rfl rfl ?_
          refine RunL.nil ?_
          exact RunE.roundX a (by omega) (by omega) rfl (Sub.consE (t := 104) rfl rfl (Sub.cons (t := 2) rfl (Sub.cons (t := 4) rfl (Sub.cons (t := 5) rfl (Sub.cons (t := 7) rfl (Sub.cons (t := 9) rfl (Sub.cons (t := 10) rfl (Sub.cons (t := 11) rfl (Sub.cons (t := 102) rfl (Sub.cons (t := 103) rfl (Sub.nil _))))))))))) (.cons (.there .here) rfl (.cons (.there .here) rfl (.cons (.there .here) rfl (.cons (.there .here) rfl .nil))))
        · intro c5
          have c5' := c5; clear c5
          try simp only [decide_eq_true_eq, decide_eq_false_iff_not, Bool.not_eq_true', Bool.not_eq_false', Bool.and_eq_true, Bool.or_eq_true, Bool.and_eq_false_iff, Bool.or_eq_false_iff, Int.not_le, Int.not_lt] at c5'
          have hf := fit_iff.1 huf k hk (by omega)
          have hF := why_fits.1 hf
          rw [shift_at hip hk, thingAt_eq hk hy] at hF
          refine RunC.skip ?_
          refine RunE.next ?_
          refine RunC.seq ?_
          refine RunC.draw 9 fol_ (.cons .here rfl (.cons (.there .here) rfl (.cons (.there .here) rfl (.cons (.there .here) rfl .nil)))) ?_
          refine RunA.val (i := 0) rfl (by kernel_rfl) (by kernel_rfl) (Val.fieldAddr rfl fld_46_0) rfl rfl rfl (fun _ _ _ h => h) (.cons .here rfl (.cons (.there .here) rfl (.cons (.there .here) rfl (.cons (.there .here) rfl .nil)))) rfl ?_
          refine RunA.val (i := 1) rfl (by kernel_rfl) (by kernel_rfl) (Val.fieldAddr rfl fld_44_0) rfl rfl rfl (fun _ _ _ h => h) (.cons .here rfl (.cons (.there .here) rfl (.cons (.there .here) rfl (.cons (.there .here) rfl .nil)))) rfl ?_
          refine RunA.val (i := 2) rfl (by kernel_rfl) (by kernel_rfl) (Val.load_agg rfl (.head _) ty_23 rfl) rfl rfl rfl (fun _ _ _ h => h) (.cons .here rfl (.cons (.there .here) rfl (.cons (.there .here) rfl (.cons (.there .here) rfl .nil)))) rfl ?_
          refine RunA.val (i := 3) rfl (by kernel_rfl) (by kernel_rfl) (Val.pure rfl) rfl rfl rfl (fun _ _ _ h => h) (.cons .here rfl (.cons (.there .here) rfl (.cons (.there .here) rfl (.cons (.there .here) rfl .nil)))) rfl ?_
          refine RunA.val (i := 5) rfl (by kernel_rfl) (by kernel_rfl) (Val.fieldAddr rfl fld_46_1) rfl rfl rfl (fun _ _ _ h => h) (.cons .here rfl (.cons (.there .here) rfl (.cons (.there .here) rfl (.cons (.there .here) rfl .nil)))) rfl ?_
          refine RunA.val (i := 6) rfl (by kernel_rfl) (by kernel_rfl) (Val.fieldAddr rfl fld_44_0) rfl rfl rfl (fun _ _ _ h => h) (.cons .here rfl (.cons (.there .here) rfl (.cons (.there .here) rfl (.cons (.there .here) rfl .nil)))) rfl ?_
          refine RunA.val (i := 7) rfl (by kernel_rfl) (by kernel_rfl) (Val.load_agg rfl (.head _) ty_23 rfl) rfl rfl rfl (fun _ _ _ h => h) (.cons .here rfl (.cons (.there .here) rfl (.cons (.there .here) rfl (.cons (.there .here) rfl .nil)))) rfl ?_
          refine RunA.val (i := 8) rfl (by kernel_rfl) (by kernel_rfl) (Val.pure rfl) rfl rfl rfl (fun _ _ _ h => h) (.cons .here rfl (.cons (.there .here) rfl (.cons (.there .here) rfl (.cons (.there .here) rfl .nil)))) rfl ?_
          refine RunA.one (i := 4) (by kernel_rfl) (by kernel_rfl) ?_
          refine RunI.callX rfl (isCall_func rfl ent_16) rfl rfl rfl (.there .here) (fun w hm => pick_calls y.lx hy1 l hby _ (by omega) qB bB oB cB _ _ w (hm.at (.tail _ (.head _))) (hm.at (.tail _ (.tail _ (.head _)))) (ne_of_T hm (.tail _ (.tail _ (.head _))) (.tail _ (.head _)) (by decide)) (hB.ne (by decide) hm (.tail _ (.head _)) hlne) (hB.mono (by decide) hm (by simp))) (fun x134 hx134 => (RunK.toA (.cons .here rfl (.cons (.there .here) rfl (.cons (.there .here) rfl (.cons (.there .here) rfl .nil)))) (.cons .here rfl (.cons .here rfl (.cons .here rfl (.cons .here rfl .nil)))) rfl ?_))
          refine RunA.toB (by kernel_rfl) ?_
          refine RunB.one (i := 9) (by kernel_rfl) ?_
          refine RunI.callX rfl (isCall_func rfl ent_16) rfl rfl rfl (.there .here) (fun w hm => pick_calls y.rx hy3 l hby _ (by omega) qB bB oB cB _ _ w (hm.at (.tail _ (.head _))) (hm.at (.tail _ (.tail _ (.head _)))) (ne_of_T hm (.tail _ (.tail _ (.head _))) (.tail _ (.head _)) (by decide)) (hB.ne (by decide) hm (.tail _ (.head _)) hlne) (hB.mono (by decide) hm (by simp))) (fun x139 hx139 => (RunK.toB ?_))
          refine RunB.one (i := 10) (by kernel_rfl) ?_
          refine RunI.val rfl (Val.pure rfl) rfl rfl rfl (RunK.toB ?_)
          refine RunB.one (i := 11) (by kernel_rfl) ?_
          refine RunI.val rfl (Val.pure rfl) rfl rfl rfl (RunK.toB ?_)
          refine RunB.done (by kernel_rfl) ?_
          refine RunE.next ?_
          refine RunC.seq ?_
          refine RunC.draw 21 fol_ (.cons .here rfl (.cons .here rfl (.cons .here rfl (.cons .here rfl (.cons .here rfl .nil))))) ?_
          refine RunA.val (i := 0) rfl (by kernel_rfl) (by kernel_rfl) (Val.fieldAddr rfl fld_28_1) rfl rfl rfl (fun _ _ _ h => h) (.cons .here rfl (.cons .here rfl (.cons .here rfl (.cons .here rfl (.cons .here rfl .nil))))) rfl ?_
          refine RunA.val (i := 1) rfl (by kernel_rfl) (by kernel_rfl) (Val.load_one rfl (.tail _ (.tail _ (.tail _ (.tail _ (.head _))))) ty_3 rfl) rfl rfl rfl (fun _ _ _ h => h) (.cons .here rfl (.cons .here rfl (.cons .here rfl (.cons .here rfl (.cons .here rfl .nil))))) rfl ?_
          refine RunA.val (i := 2) rfl (by kernel_rfl) (by kernel_rfl) (Val.fieldAddr rfl fld_28_2) rfl rfl rfl (fun _ _ _ h => h) (.cons .here rfl (.cons .here rfl (.cons .here rfl (.cons .here rfl (.cons .here rfl .nil))))) rfl ?_
          refine RunA.val (i := 3) rfl (by kernel_rfl) (by kernel_rfl) (Val.load_one rfl (.tail _ (.tail _ (.tail _ (.tail _ (.head _))))) ty_3 rfl) rfl rfl rfl (fun _ _ _ h => h) (.cons .here rfl (.cons .here rfl (.cons .here rfl (.cons .here rfl (.cons .here rfl .nil))))) rfl ?_
          refine RunA.val (i := 4) rfl (by kernel_rfl) (by kernel_rfl) (Val.fieldAddr rfl fld_33_1) rfl rfl rfl (fun _ _ _ h => h) (.cons .here rfl (.cons .here rfl (.cons .here rfl (.cons .here rfl (.cons .here rfl .nil))))) rfl ?_
          refine RunA.val (i := 5) rfl (by kernel_rfl) (by kernel_rfl) (Val.load_one rfl (.tail _ (.tail _ (.tail _ (.head _)))) ty_3 rfl) rfl rfl rfl (fun _ _ _ h => h) (.cons .here rfl (.cons .here rfl (.cons .here rfl (.cons .here rfl (.cons .here rfl .nil))))) rfl ?_
          refine RunA.val (i := 6) rfl (by kernel_rfl) (by kernel_rfl) (Val.mul rfl rfl (IntWalk.i64_in _ ⟨by omega, by omega⟩)) rfl rfl rfl (fun _ _ _ h => h) (.cons .here rfl (.cons .here rfl (.cons .here rfl (.cons .here rfl (.cons .here rfl .nil))))) rfl ?_
          refine RunA.val (i := 7) rfl (by kernel_rfl) (by kernel_rfl) (Val.sub' rfl rfl (IntWalk.i64_in _ ⟨by omega, by omega⟩)) rfl rfl rfl (fun _ _ _ h => h) (.cons .here rfl (.cons .here rfl (.cons .here rfl (.cons .here rfl (.cons .here rfl .nil))))) rfl ?_
          refine RunA.val (i := 8) rfl (by kernel_rfl) (by kernel_rfl) (Val.pure rfl) rfl rfl rfl (fun _ _ _ h => h) (.cons .here rfl (.cons .here rfl (.cons .here rfl (.cons .here rfl (.cons .here rfl .nil))))) rfl ?_
          refine RunA.val (i := 9) rfl (by kernel_rfl) (by kernel_rfl) (Val.sub' rfl rfl (IntWalk.i64_in _ ⟨by omega, by omega⟩)) rfl rfl rfl (fun _ _ _ h => h) (.cons .here rfl (.cons .here rfl (.cons .here rfl (.cons .here rfl (.cons .here rfl .nil))))) rfl ?_
          refine RunA.val (i := 10) rfl (by kernel_rfl) (by kernel_rfl) (Val.pure rfl) rfl rfl rfl (fun _ _ _ h => h) (.cons .here rfl (.cons .here rfl (.cons .here rfl (.cons .here rfl (.cons .here rfl .nil))))) rfl ?_
          refine RunA.val (i := 11) rfl (by kernel_rfl) (by kernel_rfl) (Val.fieldAddr rfl fld_28_1) rfl rfl rfl (fun _ _ _ h => h) (.cons .here rfl (.cons .here rfl (.cons .here rfl (.cons .here rfl (.cons .here rfl .nil))))) rfl ?_
          refine RunA.val (i := 12) rfl (by kernel_rfl) (by kernel_rfl) (Val.load_one rfl (.tail _ (.tail _ (.tail _ (.tail _ (.head _))))) ty_3 rfl) rfl rfl rfl (fun _ _ _ h => h) (.cons .here rfl (.cons .here rfl (.cons .here rfl (.cons .here rfl (.cons .here rfl .nil))))) rfl ?_
          refine RunA.val (i := 13) rfl (by kernel_rfl) (by kernel_rfl) (Val.add rfl rfl (IntWalk.i64_in _ ⟨by omega, by omega⟩)) rfl rfl rfl (fun _ _ _ h => h) (.cons .here rfl (.cons .here rfl (.cons .here rfl (.cons .here rfl (.cons .here rfl .nil))))) rfl ?_
          refine RunA.val (i := 14) rfl (by kernel_rfl) (by kernel_rfl) (Val.fieldAddr rfl fld_28_2) rfl rfl rfl (fun _ _ _ h => h) (.cons .here rfl (.cons .here rfl (.cons .here rfl (.cons .here rfl (.cons .here rfl .nil))))) rfl ?_
          refine RunA.val (i := 15) rfl (by kernel_rfl) (by kernel_rfl) (Val.load_one rfl (.tail _ (.tail _ (.tail _ (.tail _ (.head _))))) ty_3 rfl) rfl rfl rfl (fun _ _ _ h => h) (.cons .here rfl (.cons .here rfl (.cons .here rfl (.cons .here rfl (.cons .here rfl .nil))))) rfl ?_
          refine RunA.val (i := 16) rfl (by kernel_rfl) (by kernel_rfl) (Val.fieldAddr rfl fld_33_2) rfl rfl rfl (fun _ _ _ h => h) (.cons .here rfl (.cons .here rfl (.cons .here rfl (.cons .here rfl (.cons .here rfl .nil))))) rfl ?_
          refine RunA.val (i := 17) rfl (by kernel_rfl) (by kernel_rfl) (Val.load_one rfl (.tail _ (.tail _ (.tail _ (.head _)))) ty_3 rfl) rfl rfl rfl (fun _ _ _ h => h) (.cons .here rfl (.cons .here rfl (.cons .here rfl (.cons .here rfl (.cons .here rfl .nil))))) rfl ?_
          refine RunA.val (i := 18) rfl (by kernel_rfl) (by kernel_rfl) (Val.mul rfl rfl (IntWalk.i64_in _ ⟨by omega, by omega⟩)) rfl rfl rfl (fun _ _ _ h => h) (.cons .here rfl (.cons .here rfl (.cons .here rfl (.cons .here rfl (.cons .here rfl .nil))))) rfl ?_
          refine RunA.val (i := 19) rfl (by kernel_rfl) (by kernel_rfl) (Val.sub' rfl rfl (IntWalk.i64_in _ ⟨by omega, by omega⟩)) rfl rfl rfl (fun _ _ _ h => h) (.cons .here rfl (.cons .here rfl (.cons .here rfl (.cons .here rfl (.cons .here rfl .nil))))) rfl ?_
          refine RunA.val (i := 20) rfl (by kernel_rfl) (by kernel_rfl) (Val.pure rfl) rfl rfl rfl (fun _ _ _ h => h) (.cons .here rfl (.cons .here rfl (.cons .here rfl (.cons .here rfl (.cons .here rfl .nil))))) rfl ?_
          refine RunA.toB (by kernel_rfl) ?_
          refine RunB.one (i := 21) (by kernel_rfl) ?_
          refine RunI.val rfl (Val.pure rfl) rfl rfl rfl (RunK.toB ?_)
          refine RunB.done (by kernel_rfl) ?_
          refine RunE.next ?_
          refine RunC.seq ?_
          refine RunC.seq ?_
          refine RunC.region ?_
          iterate 3 refine RunL.val (Val.pure rfl) rfl rfl rfl ?_
          refine RunL.orPart (dj := 162) (dp := 165) 3 rfl (fun g162 => by
            have g162' := g162
            try simp only [decide_eq_true_eq, decide_eq_false_iff_not, Bool.not_eq_true', Bool.not_eq_false', Bool.and_eq_true, Bool.or_eq_true, Bool.and_eq_false_iff, Bool.or_eq_false_iff, Int.not_le, Int.not_lt] at g162'
            iterate 3 refine RunL.val (Val.pure rfl) rfl rfl rfl ?_
            exact RunL.segEnd (Sub.cons rfl (Sub.skip rfl (Sub.skip rfl (Sub.skip rfl (Sub.same rfl (by rw [g162]) (Sub.refl _)))))) (List.Sublist.refl _)
          ) (fun g162 => by
            have g162' := g162
            try simp only [decide_eq_true_eq, decide_eq_false_iff_not, Bool.not_eq_true', Bool.not_eq_false', Bool.and_eq_true, Bool.or_eq_true, Bool.and_eq_false_iff, Bool.or_eq_false_iff, Int.not_le, Int.not_lt] at g162'
            refine RunL.no rfl rfl rfl ?_
            refine RunL.no rfl rfl rfl ?_
            refine RunL.val (Val.pure rfl) rfl rfl rfl ?_
            exact RunL.segEnd (Sub.cons rfl (Sub.skip rfl (Sub.skip rfl (Sub.skip rfl (Sub.same rfl (by rw [g162]) (Sub.refl _)))))) (List.Sublist.refl _)
          ) ?_
          refine RunL.val (Val.pure rfl) rfl rfl rfl ?_
          refine RunL.orPart (dj := 166) (dp := 177) 11 rfl (fun g166 => by
            have g166' := g166
            try simp only [decide_eq_true_eq, decide_eq_false_iff_not, Bool.not_eq_true', Bool.not_eq_false', Bool.and_eq_true, Bool.or_eq_true, Bool.and_eq_false_iff, Bool.or_eq_false_iff, Int.not_le, Int.not_lt] at g166'
            refine RunL.val (Val.pure rfl) rfl rfl rfl ?_
            refine RunL.val (Val.fieldAddr rfl fld_28_1) rfl rfl rfl ?_
            refine RunL.val (Val.load_one rfl (.tail _ (.tail _ (.tail _ (.tail _ (.head _))))) ty_3 rfl) rfl rfl rfl ?_
            refine RunL.val (Val.add rfl rfl (IntWalk.i64_in _ ⟨by omega, by omega⟩)) rfl rfl rfl ?_
            refine RunL.val (Val.fieldAddr rfl fld_28_2) rfl rfl rfl ?_
            refine RunL.val (Val.load_one rfl (.tail _ (.tail _ (.tail _ (.tail _ (.head _))))) ty_3 rfl) rfl rfl rfl ?_
            refine RunL.val (Val.fieldAddr rfl fld_33_0) rfl rfl rfl ?_
            refine RunL.val (Val.load_one rfl (.tail _ (.tail _ (.tail _ (.head _)))) ty_3 rfl) rfl rfl rfl ?_
            refine RunL.val (Val.mul rfl rfl (IntWalk.i64_in _ ⟨by omega, by omega⟩)) rfl rfl rfl ?_
            refine RunL.val (Val.pure rfl) rfl rfl rfl ?_
            refine RunL.val (Val.pure rfl) rfl rfl rfl ?_
            exact RunL.segEnd (Sub.cons rfl (Sub.skip rfl (Sub.skip rfl (Sub.skip rfl (Sub.skip rfl (Sub.skip rfl (Sub.skip rfl (Sub.skip rfl (Sub.skip rfl (Sub.skip rfl (Sub.skip rfl (Sub.skip rfl (Sub.same rfl (by rw [g166]) (Sub.refl _)))))))))))))) (List.Sublist.refl _)
          ) (fun g166 => by
            have g166' := g166
            try simp only [decide_eq_true_eq, decide_eq_false_iff_not, Bool.not_eq_true', Bool.not_eq_false', Bool.and_eq_true, Bool.or_eq_true, Bool.and_eq_false_iff, Bool.or_eq_false_iff, Int.not_le, Int.not_lt] at g166'
            iterate 10 refine RunL.no rfl rfl rfl ?_
            refine RunL.val (Val.pure rfl) rfl rfl rfl ?_
            exact RunL.segEnd (Sub.cons rfl (Sub.skip rfl (Sub.skip rfl (Sub.skip rfl (Sub.skip rfl (Sub.skip rfl (Sub.skip rfl (Sub.skip rfl (Sub.skip rfl (Sub.skip rfl (Sub.skip rfl (Sub.skip rfl (Sub.same rfl (by rw [g166]) (Sub.refl _)))))))))))))) (List.Sublist.refl _)
          ) ?_
          refine RunL.val (Val.pure rfl) rfl rfl rfl ?_
          refine RunL.orPart (dj := 178) (dp := 189) 11 rfl (fun g178 => by
            have g178' := g178
            try simp only [decide_eq_true_eq, decide_eq_false_iff_not, Bool.not_eq_true', Bool.not_eq_false', Bool.and_eq_true, Bool.or_eq_true, Bool.and_eq_false_iff, Bool.or_eq_false_iff, Int.not_le, Int.not_lt] at g178'
            refine RunL.val (Val.fieldAddr rfl fld_28_1) rfl rfl rfl ?_
            refine RunL.val (Val.load_one rfl (.tail _ (.tail _ (.tail _ (.tail _ (.head _))))) ty_3 rfl) rfl rfl rfl ?_
            refine RunL.val (Val.pure rfl) rfl rfl rfl ?_
            refine RunL.val (Val.sub' rfl rfl (IntWalk.i64_in _ ⟨by omega, by omega⟩)) rfl rfl rfl ?_
            refine RunL.val (Val.fieldAddr rfl fld_28_2) rfl rfl rfl ?_
            refine RunL.val (Val.load_one rfl (.tail _ (.tail _ (.tail _ (.tail _ (.head _))))) ty_3 rfl) rfl rfl rfl ?_
            refine RunL.val (Val.fieldAddr rfl fld_33_3) rfl rfl rfl ?_
            refine RunL.val (Val.load_one rfl (.tail _ (.tail _ (.tail _ (.head _)))) ty_3 rfl) rfl rfl rfl ?_
            refine RunL.val (Val.mul rfl rfl (IntWalk.i64_in _ ⟨by omega, by omega⟩)) rfl rfl rfl ?_
            refine RunL.val (Val.pure rfl) rfl rfl rfl ?_
            refine RunL.val (Val.pure rfl) rfl rfl rfl ?_
            exact RunL.segEnd (Sub.cons rfl (Sub.skip rfl (Sub.skip rfl (Sub.skip rfl (Sub.skip rfl (Sub.skip rfl (Sub.skip rfl (Sub.skip rfl (Sub.skip rfl (Sub.skip rfl (Sub.skip rfl (Sub.skip rfl (Sub.same rfl (by rw [g178]) (Sub.refl _)))))))))))))) (List.Sublist.refl _)
          ) (fun g178 => by
            have g178' := g178
            try simp only [decide_eq_true_eq, decide_eq_false_iff_not, Bool.not_eq_true', Bool.not_eq_false', Bool.and_eq_true, Bool.or_eq_true, Bool.and_eq_false_iff, Bool.or_eq_false_iff, Int.not_le, Int.not_lt] at g178'
            iterate 10 refine RunL.no rfl rfl rfl ?_
            refine RunL.val (Val.pure rfl) rfl rfl rfl ?_
            exact RunL.segEnd (Sub.cons rfl (Sub.skip rfl (Sub.skip rfl (Sub.skip rfl (Sub.skip rfl (Sub.skip rfl (Sub.skip rfl (Sub.skip rfl (Sub.skip rfl (Sub.skip rfl (Sub.skip rfl (Sub.skip rfl (Sub.same rfl (by rw [g178]) (Sub.refl _)))))))))))))) (List.Sublist.refl _)
          ) ?_
          refine RunL.nil ?_
          refine RunE.next ?_
          refine RunC.cond rfl (fun h => absurd h (by have hG := true_fits hF hx134 hx139 ⟨hx91.1, hx91.2⟩; simp only [Bool.or_eq_true, decide_eq_true_eq]; omega)) ?_
          intro c6
          clear c6
          refine RunC.skip ?_
          refine RunE.next ?_
          refine RunC.seq ?_
          refine RunC.region ?_
          refine RunL.val (Val.pure rfl) rfl rfl rfl ?_
          refine RunL.val (Val.pure rfl) rfl rfl rfl ?_
          refine RunL.val (Val.sub' rfl rfl (IntWalk.i64_in _ ⟨by omega, by omega⟩)) rfl rfl rfl ?_
          refine RunL.val (Val.pure rfl) rfl rfl rfl ?_
          refine RunL.val (Val.pure rfl) rfl rfl rfl ?_
          refine RunL.val (Val.add rfl rfl (IntWalk.i64_in _ ⟨by omega, by omega⟩)) rfl rfl rfl ?_
          refine RunL.val (Val.pure rfl) rfl rfl rfl ?_
          refine RunL.val (Val.pure rfl) rfl rfl rfl ?_
          refine RunL.nil ?_
          refine RunE.next ?_
          refine RunC.seq ?_
          refine RunC.region ?_
          refine RunL.val (Val.pure rfl) rfl rfl rfl ?_
          refine RunL.val (Val.pure rfl) rfl rfl rfl ?_
          refine RunL.val (Val.fieldAddr rfl fld_28_6) rfl rfl rfl ?_
          refine RunL.val (Val.load_one rfl (.tail _ (.tail _ (.tail _ (.tail _ (.head _))))) ty_3 rfl) rfl rfl rfl ?_
          refine RunL.val (Val.sub' rfl rfl (IntWalk.i64_in _ ⟨by omega, by omega⟩)) rfl rfl rfl ?_
          refine RunL.val (Val.pure rfl) rfl rfl rfl ?_
          refine RunL.val (Val.pure rfl) rfl rfl rfl ?_
          refine RunL.orPart (dj := 202) (dp := 209) 7 rfl (fun g202 => by
            have g202' := g202
            try simp only [decide_eq_true_eq, decide_eq_false_iff_not, Bool.not_eq_true', Bool.not_eq_false', Bool.and_eq_true, Bool.or_eq_true, Bool.and_eq_false_iff, Bool.or_eq_false_iff, Int.not_le, Int.not_lt] at g202'
            refine RunL.val (Val.pure rfl) rfl rfl rfl ?_
            refine RunL.val (Val.pure rfl) rfl rfl rfl ?_
            refine RunL.val (Val.fieldAddr rfl fld_28_5) rfl rfl rfl ?_
            refine RunL.val (Val.load_one rfl (.tail _ (.tail _ (.tail _ (.tail _ (.head _))))) ty_3 rfl) rfl rfl rfl ?_
            refine RunL.val (Val.add rfl rfl (IntWalk.i64_in _ ⟨by omega, by omega⟩)) rfl rfl rfl ?_
            refine RunL.val (Val.pure rfl) rfl rfl rfl ?_
            refine RunL.val (Val.pure rfl) rfl rfl rfl ?_
            exact RunL.segEnd (Sub.cons rfl (Sub.skip rfl (Sub.skip rfl (Sub.skip rfl (Sub.skip rfl (Sub.skip rfl (Sub.skip rfl (Sub.skip rfl (Sub.same rfl (by rw [g202]) (Sub.refl _)))))))))) (List.Sublist.refl _)
          ) (fun g202 => by
            have g202' := g202
            try simp only [decide_eq_true_eq, decide_eq_false_iff_not, Bool.not_eq_true', Bool.not_eq_false', Bool.and_eq_true, Bool.or_eq_true, Bool.and_eq_false_iff, Bool.or_eq_false_iff, Int.not_le, Int.not_lt] at g202'
            iterate 6 refine RunL.no rfl rfl rfl ?_
            refine RunL.val (Val.pure rfl) rfl rfl rfl ?_
            exact RunL.segEnd (Sub.cons rfl (Sub.skip rfl (Sub.skip rfl (Sub.skip rfl (Sub.skip rfl (Sub.skip rfl (Sub.skip rfl (Sub.skip rfl (Sub.same rfl (by rw [g202]) (Sub.refl _)))))))))) (List.Sublist.refl _)
          ) ?_
          refine RunL.val (Val.pure rfl) rfl rfl rfl ?_
          refine RunL.orPart (dj := 210) (dp := 217) 7 rfl (fun g210 => by
            have g210' := g210
            try simp only [decide_eq_true_eq, decide_eq_false_iff_not, Bool.not_eq_true', Bool.not_eq_false', Bool.and_eq_true, Bool.or_eq_true, Bool.and_eq_false_iff, Bool.or_eq_false_iff, Int.not_le, Int.not_lt] at g210'
            refine RunL.val (Val.pure rfl) rfl rfl rfl ?_
            refine RunL.val (Val.pure rfl) rfl rfl rfl ?_
            refine RunL.val (Val.fieldAddr rfl fld_28_7) rfl rfl rfl ?_
            refine RunL.val (Val.load_one rfl (.tail _ (.tail _ (.tail _ (.tail _ (.head _))))) ty_3 rfl) rfl rfl rfl ?_
            refine RunL.val (Val.add rfl rfl (IntWalk.i64_in _ ⟨by omega, by omega⟩)) rfl rfl rfl ?_
            refine RunL.val (Val.pure rfl) rfl rfl rfl ?_
            refine RunL.val (Val.pure rfl) rfl rfl rfl ?_
            exact RunL.segEnd (Sub.cons rfl (Sub.skip rfl (Sub.skip rfl (Sub.skip rfl (Sub.skip rfl (Sub.skip rfl (Sub.skip rfl (Sub.skip rfl (Sub.same rfl (by rw [g210]) (Sub.refl _)))))))))) (List.Sublist.refl _)
          ) (fun g210 => by
            have g210' := g210
            try simp only [decide_eq_true_eq, decide_eq_false_iff_not, Bool.not_eq_true', Bool.not_eq_false', Bool.and_eq_true, Bool.or_eq_true, Bool.and_eq_false_iff, Bool.or_eq_false_iff, Int.not_le, Int.not_lt] at g210'
            iterate 6 refine RunL.no rfl rfl rfl ?_
            refine RunL.val (Val.pure rfl) rfl rfl rfl ?_
            exact RunL.segEnd (Sub.cons rfl (Sub.skip rfl (Sub.skip rfl (Sub.skip rfl (Sub.skip rfl (Sub.skip rfl (Sub.skip rfl (Sub.skip rfl (Sub.same rfl (by rw [g210]) (Sub.refl _)))))))))) (List.Sublist.refl _)
          ) ?_
          refine RunL.val (Val.pure rfl) rfl rfl rfl ?_
          refine RunL.orPart (dj := 218) (dp := 225) 7 rfl (fun g218 => by
            have g218' := g218
            try simp only [decide_eq_true_eq, decide_eq_false_iff_not, Bool.not_eq_true', Bool.not_eq_false', Bool.and_eq_true, Bool.or_eq_true, Bool.and_eq_false_iff, Bool.or_eq_false_iff, Int.not_le, Int.not_lt] at g218'
            refine RunL.val (Val.pure rfl) rfl rfl rfl ?_
            refine RunL.val (Val.pure rfl) rfl rfl rfl ?_
            refine RunL.val (Val.fieldAddr rfl fld_28_8) rfl rfl rfl ?_
            refine RunL.val (Val.load_one rfl (.tail _ (.tail _ (.tail _ (.tail _ (.head _))))) ty_3 rfl) rfl rfl rfl ?_
            refine RunL.val (Val.sub' rfl rfl (IntWalk.i64_in _ ⟨by omega, by omega⟩)) rfl rfl rfl ?_
            refine RunL.val (Val.pure rfl) rfl rfl rfl ?_
            refine RunL.val (Val.pure rfl) rfl rfl rfl ?_
            exact RunL.segEnd (Sub.cons rfl (Sub.skip rfl (Sub.skip rfl (Sub.skip rfl (Sub.skip rfl (Sub.skip rfl (Sub.skip rfl (Sub.skip rfl (Sub.same rfl (by rw [g218]) (Sub.refl _)))))))))) (List.Sublist.refl _)
          ) (fun g218 => by
            have g218' := g218
            try simp only [decide_eq_true_eq, decide_eq_false_iff_not, Bool.not_eq_true', Bool.not_eq_false', Bool.and_eq_true, Bool.or_eq_true, Bool.and_eq_false_iff, Bool.or_eq_false_iff, Int.not_le, Int.not_lt] at g218'
            iterate 6 refine RunL.no rfl rfl rfl ?_
            refine RunL.val (Val.pure rfl) rfl rfl rfl ?_
            exact RunL.segEnd (Sub.cons rfl (Sub.skip rfl (Sub.skip rfl (Sub.skip rfl (Sub.skip rfl (Sub.skip rfl (Sub.skip rfl (Sub.skip rfl (Sub.same rfl (by rw [g218]) (Sub.refl _)))))))))) (List.Sublist.refl _)
          ) ?_
          refine RunL.nil ?_
          refine RunE.next ?_
          refine RunC.cond rfl (fun h => absurd h (by have hG := true_fits hF hx134 hx139 ⟨hx91.1, hx91.2⟩; simp only [windowM] at hG; simp only [Bool.or_eq_true, decide_eq_true_eq]; omega)) ?_
          intro c7
          clear c7
          refine RunC.skip ?_
          refine RunE.block_normal ?_
          refine RunE.next ?_
          refine RunC.region ?_
          refine RunL.val (Val.add rfl rfl (IntWalk.i64_in _ ⟨by omega, by omega⟩)) rfl rfl rfl ?_
          refine RunL.val (Val.pure rfl) rfl rfl rfl ?_
          refine RunL.nil ?_
          exact RunE.roundX (a + 1 + 1) (by omega) (by omega) rfl (Sub.consE (t := 104) rfl rfl (Sub.cons (t := 2) rfl (Sub.cons (t := 4) rfl (Sub.cons (t := 5) rfl (Sub.cons (t := 7) rfl (Sub.cons (t := 9) rfl (Sub.cons (t := 10) rfl (Sub.cons (t := 11) rfl (Sub.cons (t := 102) rfl (Sub.cons (t := 103) rfl (Sub.nil _))))))))))) (.cons (.there .here) rfl (.cons (.there .here) rfl (.cons (.there .here) rfl (.cons (.there .here) rfl .nil))))
      · intro c3
        have c3' := c3; clear c3
        try simp only [decide_eq_true_eq, decide_eq_false_iff_not, Bool.not_eq_true', Bool.not_eq_false', Bool.and_eq_true, Bool.or_eq_true, Bool.and_eq_false_iff, Bool.or_eq_false_iff, Int.not_le, Int.not_lt] at c3'
        obtain rfl : k = c.p.things.length := by omega
        refine RunC.exit ?_
        refine RunE.pass_exit ?_
        refine RunE.pass_exit ?_
        refine RunE.block_here ?_
        refine RunE.next ?_
        refine RunC.seq ?_
        refine RunC.region ?_
        refine RunL.callP (isCall_func rfl ent_11) rfl rfl rfl (fun w hm => mawake_calls w) ?_
        refine RunL.val (Val.pure rfl) rfl rfl rfl ?_
        refine RunL.nil ?_
        refine RunE.next ?_
        refine RunC.ret ?_
        exact RunE.retP (.r1 rfl (.tmp rfl)) (by first | rfl | simp)
end Go.Proofs.Ythoheicppmbepaa
