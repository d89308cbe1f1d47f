/- Walks of the laws of layer 10: HeapShares. -/
import Derived.Test.YtlhdalcipflblaaDoorHk1
import Derived.Test.YtlhdalcipflblaaDoorHzb
import Derived.Test.YtlhdalcipflblaaDoorHyJ
set_option linter.unusedSimpArgs false
set_option linter.unusedVariables false
namespace Go.Proofs.YtlhdalcipflblaaDoor
open Go Go.Eng Go.Hp Go.Pw1

theorem hshare_far (m : MxA) (W : World) (hM : MOk W m) (hf : farX m.pl = true) : Calls Tryd.prog 7 #[m.v] W (Pure (.bool true) W) := by
  refine calls_start Tryd.func7 rfl rfl ?_
  refine RunC.seq ?_
  refine RunC.region ?_
  refine RunL.new (New.box rfl) rfl rfl rfl (fun b1 => ?_)
  refine RunL.val (Val.pure rfl) rfl rfl rfl ?_
  refine RunL.nil ?_
  refine RunE.next ?_
  refine RunC.seq ?_
  refine RunC.seq ?_
  refine RunC.region ?_
  refine RunL.val (Val.load_agg rfl (.head _) ty_25 rfl) rfl rfl rfl ?_
  refine RunL.callP (isCall_func rfl ent_12) rfl rfl rfl (fun w hm => far_calls m w (hM.mono0 hm)) ?_
  refine RunL.nil ?_
  refine RunE.next ?_
  refine RunC.cond rfl ?_ (fun h => absurd h (by simp [hf]))
  intro c0
  clear c0
  refine RunC.seq ?_
  refine RunC.region ?_
  refine RunL.callP (isCall_func rfl ent_13) rfl rfl rfl (fun w hm => hawake_calls w) ?_
  refine RunL.val (Val.pure rfl) rfl rfl rfl ?_
  refine RunL.nil ?_
  refine RunE.next ?_
  refine RunC.ret ?_
  refine RunE.pass_ret ?_
  exact RunE.retP (.r1 rfl (.tmp rfl)) (by first | rfl | simp)
theorem hshare_bad (m : MxA) (W : World) (hM : MOk W m) (hf : farX m.pl = false) (hX : mixedX m.pl = false) : Calls Tryd.prog 7 #[m.v] W (Pure (.bool true) W) := by
  have hsm := far_sm hf
  have hw : waysE m.pl = 1 := by unfold waysE; rw [hX]; rfl
  have e1 : CountX m.pl = (0, 1) := by unfold CountX; rw [hX]; rfl
  have e2 : LostX m.pl = ((0, 0), 1) := by unfold LostX; rw [hw]; rfl
  refine calls_start Tryd.func7 rfl rfl ?_
  refine RunC.seq ?_
  refine RunC.region ?_
  refine RunL.new (New.box rfl) rfl rfl rfl (fun b1 => ?_)
  refine RunL.val (Val.pure rfl) rfl rfl rfl ?_
  refine RunL.nil ?_
  refine RunE.next ?_
  refine RunC.seq ?_
  refine RunC.seq ?_
  refine RunC.region ?_
  refine RunL.val (Val.load_agg rfl (.head _) ty_25 rfl) rfl rfl rfl ?_
  refine RunL.callP (isCall_func rfl ent_12) rfl rfl rfl (fun w hm => far_calls m w (hM.mono0 hm)) ?_
  refine RunL.nil ?_
  refine RunE.next ?_
  refine RunC.cond rfl (fun h => absurd h (by simp [hf])) ?_
  intro c0
  clear c0
  refine RunC.skip ?_
  refine RunE.next ?_
  refine RunC.seq ?_
  refine RunC.region ?_
  refine RunL.val (Val.load_agg rfl (.head _) ty_25 rfl) rfl rfl rfl ?_
  refine RunL.callP (isCall_func rfl ent_19) rfl rfl rfl (fun w hm => (by have h9 := counth_calls m hsm w (hM.mono0 hm); rw [e1] at h9; exact h9)) ?_
  iterate 5 refine RunL.val (Val.pure rfl) rfl rfl rfl ?_
  refine RunL.nil ?_
  refine RunE.next ?_
  refine RunC.seq ?_
  refine RunC.region ?_
  refine RunL.val (Val.load_agg rfl (.head _) ty_25 rfl) rfl rfl rfl ?_
  refine RunL.callP (isCall_func rfl ent_25) rfl rfl rfl (fun w hm => (by have h9 := sure_err m hsm w (hM.mono0 hm) (by rw [hw]; decide); rw [hw] at h9; exact h9)) ?_
  iterate 5 refine RunL.val (Val.pure rfl) rfl rfl rfl ?_
  refine RunL.nil ?_
  refine RunE.next ?_
  refine RunC.seq ?_
  refine RunC.region ?_
  refine RunL.val (Val.load_agg rfl (.head _) ty_25 rfl) rfl rfl rfl ?_
  refine RunL.callP (isCall_func rfl ent_27) rfl rfl rfl (fun w hm => (by have h9 := lost_calls m hsm w (hM.mono0 hm); rw [e2] at h9; exact h9)) ?_
  iterate 7 refine RunL.val (Val.pure rfl) rfl rfl rfl ?_
  refine RunL.nil ?_
  refine RunE.next ?_
  refine RunC.seq ?_
  refine RunC.seq ?_
  refine RunC.region ?_
  iterate 3 refine RunL.val (Val.pure rfl) rfl rfl rfl ?_
  refine RunL.sure (dj := 43) true rfl (by simp [hX]) ?_
  iterate 3 refine RunL.no rfl rfl rfl ?_
  refine RunL.val (Val.pure rfl) rfl rfl rfl ?_
  refine RunL.nil ?_
  refine RunE.next ?_
  refine RunC.cond rfl ?_ (fun h => absurd h (by simp))
  intro c1
  clear c1
  refine RunC.seq ?_
  refine RunC.region ?_
  iterate 3 refine RunL.val (Val.pure rfl) rfl rfl rfl ?_
  refine RunL.sure (dj := 50) true rfl (by simp [hX]) ?_
  refine RunL.val (Val.pure rfl) rfl rfl rfl ?_
  refine RunL.val (Val.len_sl rfl sl_34) rfl rfl rfl ?_
  iterate 3 refine RunL.val (Val.pure rfl) rfl rfl rfl ?_
  refine RunL.sure (dj := 55) true rfl (by simp [hX]) ?_
  iterate 4 refine RunL.val (Val.pure rfl) rfl rfl rfl ?_
  refine RunL.sure (dj := 59) true rfl (by simp [hX]) ?_
  iterate 4 refine RunL.val (Val.pure rfl) rfl rfl rfl ?_
  refine RunL.sure (dj := 63) true rfl (by simp [hX]) ?_
  iterate 4 refine RunL.val (Val.pure rfl) rfl rfl rfl ?_
  refine RunL.sure (dj := 67) true rfl (by simp [hX]) ?_
  iterate 5 refine RunL.val (Val.pure rfl) rfl rfl rfl ?_
  refine RunL.sure (dj := 72) true rfl (by simp [hX]) ?_
  iterate 5 refine RunL.val (Val.pure rfl) rfl rfl rfl ?_
  refine RunL.sure (dj := 77) true rfl (by simp [hX]) ?_
  refine RunL.val (Val.load_agg rfl (.head _) ty_25 rfl) rfl rfl rfl ?_
  refine RunL.callP (isCall_func rfl ent_33) rfl rfl rfl (fun w hm => rMixed_calls m hsm w (hM.mono0 hm)) ?_
  iterate 3 refine RunL.val (Val.pure rfl) rfl rfl rfl ?_
  refine RunL.sure (dj := 82) true rfl (by simp [hX]) ?_
  refine RunL.callP (isCall_func rfl ent_13) rfl rfl rfl (fun w hm => hawake_calls w) ?_
  refine RunL.val (Val.pure rfl) rfl rfl rfl ?_
  refine RunL.val (Val.pure rfl) rfl rfl rfl ?_
  refine RunL.nil ?_
  refine RunE.next ?_
  refine RunC.ret ?_
  refine RunE.pass_ret ?_
  exact RunE.retP (.r1 rfl (.tmp rfl)) (by first | rfl | simp)
set_option maxHeartbeats 1000000 in
theorem hshare_ok (m : MxA) (W : World) (hM : MOk W m) (hf : farX m.pl = false) (hX : mixedX m.pl = true) : Calls Tryd.prog 7 #[m.v] W (Pure (.bool true) W) := by
  have hsm := far_sm hf
  obtain ⟨h4, h8, h12⟩ := mixed_ok hX
  have hfl := fs_len m
  have hall := fs12 hX
  have e1 : CountX m.pl = ((cntX m.pl : Int), 0) := by unfold CountX; rw [if_pos hX]
  obtain ⟨E, S, lo, ca, hSL⟩ := sl_is hX
  have hcs := cnt_small m hX
  have hp12 : 2 ^ (esX m).length ≤ 2 ^ 12 := Nat.pow_le_pow_right (by decide) h12
  have hlo := hSL.lol
  have hca := hSL.cal
  obtain ⟨n, hn⟩ : ∃ n, cntX m.pl = n := ⟨_, rfl⟩
  have hcn : cntL (esX m).length (fsX m.pl) 0 = n := hn
  have hok := hSL.ok
  have hno := hSL.no
  rw [hn] at hok hno hcs e1
  have hE : (E = 0 ∧ 0 < n ∧ S.length = m.cards.length) ∨ (E = 4 ∧ n = 0 ∧ S.length = 0 ∧ lo = 0 ∧ ca = 0) := by
    by_cases h0 : E = 0
    · obtain ⟨h1, h2, _⟩ := hok h0
      exact .inl ⟨h0, h1, by rw [h2]; simp⟩
    · obtain ⟨h1, h2, h3, h5, h6⟩ := hno h0
      exact .inr ⟨h1, h2, by rw [h3]; rfl, h5, h6⟩
  have hsure : ∀ (w : World), MOk w m → Calls Tryd.prog 25 #[m.v] w (News (fun z : IO S => .tuple #[.slice (ownQ z.1) S.length (ownC z.1), .int .i64 E]) (fun z => ownB 3 z.1 (intsW S).flatten ++ []) w) := fun w hM => by
    have h9 := sure_any m hsm w hM
    rw [hSL.sure] at h9
    exact h9
  have hl9 : lo >>> (esX m).length = 0 := by rw [Nat.shiftRight_eq_div_pow]; exact Nat.div_eq_of_lt hlo
  have hc9 : ca >>> (esX m).length = 0 := by rw [Nat.shiftRight_eq_div_pow]; exact Nat.div_eq_of_lt hca
  refine calls_start Tryd.func7 rfl rfl ?_
  refine RunC.seq ?_
  refine RunC.region ?_
  refine RunL.new (New.box rfl) rfl rfl rfl (fun b1 => ?_)
  refine RunL.val (Val.pure rfl) rfl rfl rfl ?_
  refine RunL.nil ?_
  refine RunE.next ?_
  refine RunC.seq ?_
  refine RunC.seq ?_
  refine RunC.region ?_
  refine RunL.val (Val.load_agg rfl (.head _) ty_25 rfl) rfl rfl rfl ?_
  refine RunL.callP (isCall_func rfl ent_12) rfl rfl rfl (fun w hm => far_calls m w (hM.mono0 hm)) ?_
  refine RunL.nil ?_
  refine RunE.next ?_
  refine RunC.cond rfl (fun h => absurd h (by simp [hf])) ?_
  intro c0
  clear c0
  refine RunC.skip ?_
  refine RunE.next ?_
  refine RunC.seq ?_
  refine RunC.region ?_
  refine RunL.val (Val.load_agg rfl (.head _) ty_25 rfl) rfl rfl rfl ?_
  refine RunL.callP (isCall_func rfl ent_19) rfl rfl rfl (fun w hm => (by have h9 := counth_calls m hsm w (hM.mono0 hm); rw [e1] at h9; exact h9)) ?_
  iterate 5 refine RunL.val (Val.pure rfl) rfl rfl rfl ?_
  refine RunL.nil ?_
  refine RunE.next ?_
  refine RunC.seq ?_
  refine RunC.region ?_
  refine RunL.val (Val.load_agg rfl (.head _) ty_25 rfl) rfl rfl rfl ?_
  refine RunL.callNT (isCall_func rfl ent_25) rfl rfl rfl (fun w hm => hsure w (hM.mono0 hm)) (fun z32 => ?_)
  obtain ⟨x32, hx32⟩ := z32
  dsimp only
  iterate 5 refine RunL.val (Val.pure rfl) rfl rfl rfl ?_
  refine RunL.nil ?_
  refine RunE.next ?_
  refine RunC.seq ?_
  refine RunC.region ?_
  refine RunL.val (Val.load_agg rfl (.head _) ty_25 rfl) rfl rfl rfl ?_
  refine RunL.callP (isCall_func rfl ent_27) rfl rfl rfl (fun w hm => (by have h9 := lost_calls m hsm w (hM.mono0 hm); rw [hSL.lost] at h9; exact h9)) ?_
  iterate 7 refine RunL.val (Val.pure rfl) rfl rfl rfl ?_
  refine RunL.nil ?_
  refine RunE.next ?_
  refine RunC.seq ?_
  refine RunC.seq ?_
  refine RunC.region ?_
  iterate 3 refine RunL.val (Val.pure rfl) rfl rfl rfl ?_
  refine RunL.orPart (dj := 43) (dp := 47) 4 rfl (fun g43 => by
    have g43' := g43
    try simp only [decide_eq_true_eq, decide_eq_false_iff_not, Bool.not_eq_true', Bool.not_eq_false', Bool.and_eq_true, Bool.or_eq_true, Bool.and_eq_false_iff, Bool.or_eq_false_iff, Int.not_le, Int.not_lt] at g43'
    refine RunL.val (Val.load_agg rfl (.head _) ty_25 rfl) rfl rfl rfl ?_
    refine RunL.callP (isCall_func rfl ent_33) rfl rfl rfl (fun w hm => rMixed_calls m hsm w (hM.mono0 hm)) ?_
    refine RunL.val (Val.pure rfl) rfl rfl rfl ?_
    refine RunL.val (Val.pure rfl) rfl rfl rfl ?_
    exact RunL.segEnd (Sub.cons rfl (Sub.skip rfl (Sub.skip rfl (Sub.skip rfl (Sub.skip rfl (Sub.same rfl (by rw [g43]) (Sub.refl _))))))) (List.Sublist.refl _)
  ) (fun g43 => by
    have g43' := g43
    try simp only [decide_eq_true_eq, decide_eq_false_iff_not, Bool.not_eq_true', Bool.not_eq_false', Bool.and_eq_true, Bool.or_eq_true, Bool.and_eq_false_iff, Bool.or_eq_false_iff, Int.not_le, Int.not_lt] at g43'
    iterate 3 refine RunL.no rfl rfl rfl ?_
    refine RunL.val (Val.pure rfl) rfl rfl rfl ?_
    exact RunL.segEnd (Sub.cons rfl (Sub.skip rfl (Sub.skip rfl (Sub.skip rfl (Sub.skip rfl (Sub.same rfl (by rw [g43]) (Sub.refl _))))))) (List.Sublist.refl _)
  ) ?_
  refine RunL.nil ?_
  refine RunE.next ?_
  refine RunC.cond rfl (fun h => absurd h (by simp [hX])) ?_
  intro c1
  clear c1
  refine RunC.skip ?_
  refine RunE.next ?_
  refine RunC.seq ?_
  refine RunC.seq ?_
  refine RunC.region ?_
  iterate 3 refine RunL.val (Val.pure rfl) rfl rfl rfl ?_
  refine RunL.orPart (dj := 87) (dp := 93) 6 rfl (fun g87 => by
    have g87' := g87
    try simp only [decide_eq_true_eq, decide_eq_false_iff_not, Bool.not_eq_true', Bool.not_eq_false', Bool.and_eq_true, Bool.or_eq_true, Bool.and_eq_false_iff, Bool.or_eq_false_iff, Int.not_le, Int.not_lt] at g87'
    iterate 4 refine RunL.val (Val.pure rfl) rfl rfl rfl ?_
    refine RunL.val (Val.neq_bool rfl rfl boolB_4) rfl rfl rfl ?_
    refine RunL.val (Val.pure rfl) rfl rfl rfl ?_
    exact RunL.segEnd (Sub.cons rfl (Sub.skip rfl (Sub.skip rfl (Sub.skip rfl (Sub.skip rfl (Sub.skip rfl (Sub.skip rfl (Sub.same rfl (by rw [g87]) (Sub.refl _))))))))) (List.Sublist.refl _)
  ) (fun g87 => by
    have g87' := g87
    try simp only [decide_eq_true_eq, decide_eq_false_iff_not, Bool.not_eq_true', Bool.not_eq_false', Bool.and_eq_true, Bool.or_eq_true, Bool.and_eq_false_iff, Bool.or_eq_false_iff, Int.not_le, Int.not_lt] at g87'
    iterate 5 refine RunL.no rfl rfl rfl ?_
    refine RunL.val (Val.pure rfl) rfl rfl rfl ?_
    exact RunL.segEnd (Sub.cons rfl (Sub.skip rfl (Sub.skip rfl (Sub.skip rfl (Sub.skip rfl (Sub.skip rfl (Sub.skip rfl (Sub.same rfl (by rw [g87]) (Sub.refl _))))))))) (List.Sublist.refl _)
  ) ?_
  refine RunL.val (Val.pure rfl) rfl rfl rfl ?_
  refine RunL.orPart (dj := 94) (dp := 98) 4 rfl (fun g94 => by
    have g94' := g94
    try simp only [decide_eq_true_eq, decide_eq_false_iff_not, Bool.not_eq_true', Bool.not_eq_false', Bool.and_eq_true, Bool.or_eq_true, Bool.and_eq_false_iff, Bool.or_eq_false_iff, Int.not_le, Int.not_lt] at g94'
    iterate 4 refine RunL.val (Val.pure rfl) rfl rfl rfl ?_
    exact RunL.segEnd (Sub.cons rfl (Sub.skip rfl (Sub.skip rfl (Sub.skip rfl (Sub.skip rfl (Sub.same rfl (by rw [g94]) (Sub.refl _))))))) (List.Sublist.refl _)
  ) (fun g94 => by
    have g94' := g94
    try simp only [decide_eq_true_eq, decide_eq_false_iff_not, Bool.not_eq_true', Bool.not_eq_false', Bool.and_eq_true, Bool.or_eq_true, Bool.and_eq_false_iff, Bool.or_eq_false_iff, Int.not_le, Int.not_lt] at g94'
    iterate 3 refine RunL.no rfl rfl rfl ?_
    refine RunL.val (Val.pure rfl) rfl rfl rfl ?_
    exact RunL.segEnd (Sub.cons rfl (Sub.skip rfl (Sub.skip rfl (Sub.skip rfl (Sub.skip rfl (Sub.same rfl (by rw [g94]) (Sub.refl _))))))) (List.Sublist.refl _)
  ) ?_
  refine RunL.val (Val.pure rfl) rfl rfl rfl ?_
  refine RunL.orPart (dj := 99) (dp := 119) 20 rfl (fun g99 => by
    have g99' := g99
    try simp only [decide_eq_true_eq, decide_eq_false_iff_not, Bool.not_eq_true', Bool.not_eq_false', Bool.and_eq_true, Bool.or_eq_true, Bool.and_eq_false_iff, Bool.or_eq_false_iff, Int.not_le, Int.not_lt] at g99'
    iterate 3 refine RunL.val (Val.pure rfl) rfl rfl rfl ?_
    refine RunL.andPart (dj := 102) (dp := 118) 16 rfl (fun g102 => by
      have g102' := g102
      try simp only [decide_eq_true_eq, decide_eq_false_iff_not, Bool.not_eq_true', Bool.not_eq_false', Bool.and_eq_true, Bool.or_eq_true, Bool.and_eq_false_iff, Bool.or_eq_false_iff, Int.not_le, Int.not_lt] at g102'
      iterate 3 refine RunL.val (Val.pure rfl) rfl rfl rfl ?_
      refine RunL.orPart (dj := 105) (dp := 109) 4 rfl (fun g105 => by
        have g105' := g105
        try simp only [decide_eq_true_eq, decide_eq_false_iff_not, Bool.not_eq_true', Bool.not_eq_false', Bool.and_eq_true, Bool.or_eq_true, Bool.and_eq_false_iff, Bool.or_eq_false_iff, Int.not_le, Int.not_lt] at g105'
        refine RunL.val (Val.pure rfl) rfl rfl rfl ?_
        refine RunL.val (Val.len_sl rfl sl_34) rfl rfl rfl ?_
        refine RunL.val (Val.pure rfl) rfl rfl rfl ?_
        refine RunL.val (Val.pure rfl) rfl rfl rfl ?_
        exact RunL.segEnd (Sub.cons rfl (Sub.skip rfl (Sub.skip rfl (Sub.skip rfl (Sub.skip rfl (Sub.same rfl (by rw [g105]) (Sub.refl _))))))) (List.Sublist.refl _)
      ) (fun g105 => by
        have g105' := g105
        try simp only [decide_eq_true_eq, decide_eq_false_iff_not, Bool.not_eq_true', Bool.not_eq_false', Bool.and_eq_true, Bool.or_eq_true, Bool.and_eq_false_iff, Bool.or_eq_false_iff, Int.not_le, Int.not_lt] at g105'
        iterate 3 refine RunL.no rfl rfl rfl ?_
        refine RunL.val (Val.pure rfl) rfl rfl rfl ?_
        exact RunL.segEnd (Sub.cons rfl (Sub.skip rfl (Sub.skip rfl (Sub.skip rfl (Sub.skip rfl (Sub.same rfl (by rw [g105]) (Sub.refl _))))))) (List.Sublist.refl _)
      ) ?_
      refine RunL.val (Val.pure rfl) rfl rfl rfl ?_
      refine RunL.orPart (dj := 110) (dp := 113) 3 rfl (fun g110 => by
        have g110' := g110
        try simp only [decide_eq_true_eq, decide_eq_false_iff_not, Bool.not_eq_true', Bool.not_eq_false', Bool.and_eq_true, Bool.or_eq_true, Bool.and_eq_false_iff, Bool.or_eq_false_iff, Int.not_le, Int.not_lt] at g110'
        iterate 3 refine RunL.val (Val.pure rfl) rfl rfl rfl ?_
        exact RunL.segEnd (Sub.cons rfl (Sub.skip rfl (Sub.skip rfl (Sub.skip rfl (Sub.same rfl (by rw [g110]) (Sub.refl _)))))) (List.Sublist.refl _)
      ) (fun g110 => by
        have g110' := g110
        try simp only [decide_eq_true_eq, decide_eq_false_iff_not, Bool.not_eq_true', Bool.not_eq_false', Bool.and_eq_true, Bool.or_eq_true, Bool.and_eq_false_iff, Bool.or_eq_false_iff, Int.not_le, Int.not_lt] at g110'
        refine RunL.no rfl rfl rfl ?_
        refine RunL.no rfl rfl rfl ?_
        refine RunL.val (Val.pure rfl) rfl rfl rfl ?_
        exact RunL.segEnd (Sub.cons rfl (Sub.skip rfl (Sub.skip rfl (Sub.skip rfl (Sub.same rfl (by rw [g110]) (Sub.refl _)))))) (List.Sublist.refl _)
      ) ?_
      refine RunL.val (Val.pure rfl) rfl rfl rfl ?_
      refine RunL.orPart (dj := 114) (dp := 117) 3 rfl (fun g114 => by
        have g114' := g114
        try simp only [decide_eq_true_eq, decide_eq_false_iff_not, Bool.not_eq_true', Bool.not_eq_false', Bool.and_eq_true, Bool.or_eq_true, Bool.and_eq_false_iff, Bool.or_eq_false_iff, Int.not_le, Int.not_lt] at g114'
        iterate 3 refine RunL.val (Val.pure rfl) rfl rfl rfl ?_
        exact RunL.segEnd (Sub.cons rfl (Sub.skip rfl (Sub.skip rfl (Sub.skip rfl (Sub.same rfl (by rw [g114]) (Sub.refl _)))))) (List.Sublist.refl _)
      ) (fun g114 => by
        have g114' := g114
        try simp only [decide_eq_true_eq, decide_eq_false_iff_not, Bool.not_eq_true', Bool.not_eq_false', Bool.and_eq_true, Bool.or_eq_true, Bool.and_eq_false_iff, Bool.or_eq_false_iff, Int.not_le, Int.not_lt] at g114'
        refine RunL.no rfl rfl rfl ?_
        refine RunL.no rfl rfl rfl ?_
        refine RunL.val (Val.pure rfl) rfl rfl rfl ?_
        exact RunL.segEnd (Sub.cons rfl (Sub.skip rfl (Sub.skip rfl (Sub.skip rfl (Sub.same rfl (by rw [g114]) (Sub.refl _)))))) (List.Sublist.refl _)
      ) ?_
      refine RunL.val (Val.pure rfl) rfl rfl rfl ?_
      exact RunL.segEnd (Sub.cons rfl (Sub.skip rfl (Sub.skip rfl (Sub.skip rfl (Sub.skip rfl (Sub.skip rfl (Sub.skip rfl (Sub.skip rfl (Sub.skip rfl (Sub.skip rfl (Sub.same rfl (by rw [g102]) (Sub.refl _)))))))))))) (List.Sublist.refl _)
    ) (fun g102 => by
      have g102' := g102
      try simp only [decide_eq_true_eq, decide_eq_false_iff_not, Bool.not_eq_true', Bool.not_eq_false', Bool.and_eq_true, Bool.or_eq_true, Bool.and_eq_false_iff, Bool.or_eq_false_iff, Int.not_le, Int.not_lt] at g102'
      iterate 15 refine RunL.no rfl rfl rfl ?_
      refine RunL.val (Val.pure rfl) rfl rfl rfl ?_
      exact RunL.segEnd (Sub.cons rfl (Sub.skip rfl (Sub.skip rfl (Sub.skip rfl (Sub.skip rfl (Sub.skip rfl (Sub.skip rfl (Sub.skip rfl (Sub.skip rfl (Sub.skip rfl (Sub.skip rfl (Sub.skip rfl (Sub.skip rfl (Sub.skip rfl (Sub.skip rfl (Sub.skip rfl (Sub.skip rfl (Sub.same rfl (by rw [g102]) (Sub.refl _))))))))))))))))))) (List.Sublist.refl _)
    ) ?_
    refine RunL.val (Val.pure rfl) rfl rfl rfl ?_
    exact RunL.segEnd (Sub.cons rfl (Sub.skip rfl (Sub.skip rfl (Sub.skip rfl (Sub.skip rfl (Sub.skip rfl (Sub.same rfl (by rw [g99]) (Sub.refl _)))))))) (List.Sublist.refl _)
  ) (fun g99 => by
    have g99' := g99
    try simp only [decide_eq_true_eq, decide_eq_false_iff_not, Bool.not_eq_true', Bool.not_eq_false', Bool.and_eq_true, Bool.or_eq_true, Bool.and_eq_false_iff, Bool.or_eq_false_iff, Int.not_le, Int.not_lt] at g99'
    iterate 19 refine RunL.no rfl rfl rfl ?_
    refine RunL.val (Val.pure rfl) rfl rfl rfl ?_
    exact RunL.segEnd (Sub.cons rfl (Sub.skip rfl (Sub.skip rfl (Sub.skip rfl (Sub.skip rfl (Sub.skip rfl (Sub.skip rfl (Sub.skip rfl (Sub.skip rfl (Sub.skip rfl (Sub.skip rfl (Sub.skip rfl (Sub.skip rfl (Sub.skip rfl (Sub.skip rfl (Sub.skip rfl (Sub.skip rfl (Sub.skip rfl (Sub.skip rfl (Sub.skip rfl (Sub.skip rfl (Sub.same rfl (by rw [g99]) (Sub.refl _))))))))))))))))))))))) (List.Sublist.refl _)
  ) ?_
  refine RunL.val (Val.pure rfl) rfl rfl rfl ?_
  refine RunL.orPart (dj := 120) (dp := 131) 11 rfl (fun g120 => by
    have g120' := g120
    try simp only [decide_eq_true_eq, decide_eq_false_iff_not, Bool.not_eq_true', Bool.not_eq_false', Bool.and_eq_true, Bool.or_eq_true, Bool.and_eq_false_iff, Bool.or_eq_false_iff, Int.not_le, Int.not_lt] at g120'
    iterate 3 refine RunL.val (Val.pure rfl) rfl rfl rfl ?_
    refine RunL.andPart (dj := 123) (dp := 130) 7 rfl (fun g123 => by
      have g123' := g123
      try simp only [decide_eq_true_eq, decide_eq_false_iff_not, Bool.not_eq_true', Bool.not_eq_false', Bool.and_eq_true, Bool.or_eq_true, Bool.and_eq_false_iff, Bool.or_eq_false_iff, Int.not_le, Int.not_lt] at g123'
      refine RunL.val (Val.pure rfl) rfl rfl rfl ?_
      refine RunL.val (Val.len_sl rfl sl_34) rfl rfl rfl ?_
      refine RunL.val (Val.fieldAddr rfl fld_25_1) rfl rfl rfl ?_
      refine RunL.val (Val.load_one rfl (.head _) ty_23 rfl) rfl rfl rfl ?_
      refine RunL.val (Val.len_sl rfl sl_23) rfl rfl rfl ?_
      refine RunL.val (Val.pure rfl) rfl rfl rfl ?_
      refine RunL.val (Val.pure rfl) rfl rfl rfl ?_
      exact RunL.segEnd (Sub.cons rfl (Sub.skip rfl (Sub.skip rfl (Sub.skip rfl (Sub.skip rfl (Sub.skip rfl (Sub.skip rfl (Sub.skip rfl (Sub.same rfl (by rw [g123]) (Sub.refl _)))))))))) (List.Sublist.refl _)
    ) (fun g123 => by
      have g123' := g123
      try simp only [decide_eq_true_eq, decide_eq_false_iff_not, Bool.not_eq_true', Bool.not_eq_false', Bool.and_eq_true, Bool.or_eq_true, Bool.and_eq_false_iff, Bool.or_eq_false_iff, Int.not_le, Int.not_lt] at g123'
      iterate 6 refine RunL.no rfl rfl rfl ?_
      refine RunL.val (Val.pure rfl) rfl rfl rfl ?_
      exact RunL.segEnd (Sub.cons rfl (Sub.skip rfl (Sub.skip rfl (Sub.skip rfl (Sub.skip rfl (Sub.skip rfl (Sub.skip rfl (Sub.skip rfl (Sub.same rfl (by rw [g123]) (Sub.refl _)))))))))) (List.Sublist.refl _)
    ) ?_
    refine RunL.val (Val.pure rfl) rfl rfl rfl ?_
    exact RunL.segEnd (Sub.cons rfl (Sub.skip rfl (Sub.skip rfl (Sub.skip rfl (Sub.skip rfl (Sub.skip rfl (Sub.same rfl (by rw [g120]) (Sub.refl _)))))))) (List.Sublist.refl _)
  ) (fun g120 => by
    have g120' := g120
    try simp only [decide_eq_true_eq, decide_eq_false_iff_not, Bool.not_eq_true', Bool.not_eq_false', Bool.and_eq_true, Bool.or_eq_true, Bool.and_eq_false_iff, Bool.or_eq_false_iff, Int.not_le, Int.not_lt] at g120'
    iterate 10 refine RunL.no rfl rfl rfl ?_
    refine RunL.val (Val.pure rfl) rfl rfl rfl ?_
    exact RunL.segEnd (Sub.cons rfl (Sub.skip rfl (Sub.skip rfl (Sub.skip rfl (Sub.skip rfl (Sub.skip rfl (Sub.skip rfl (Sub.skip rfl (Sub.skip rfl (Sub.skip rfl (Sub.skip rfl (Sub.skip rfl (Sub.same rfl (by rw [g120]) (Sub.refl _)))))))))))))) (List.Sublist.refl _)
  ) ?_
  refine RunL.nil ?_
  refine RunE.next ?_
  refine RunC.cond rfl (fun h => absurd h (by rcases hE with ⟨a1, a2, a3⟩ | ⟨a1, a2, a3, a4, a5⟩ <;> simp [a1, a2, a3, *] <;> omega)) ?_
  intro c2
  clear c2
  refine RunC.skip ?_
  refine RunE.next ?_
  refine RunC.seq ?_
  refine RunC.region ?_
  refine RunL.val (Val.load_agg rfl (.head _) ty_25 rfl) rfl rfl rfl ?_
  refine RunL.callNA [(b1, _)] _ rfl (isCall_func rfl ent_34) rfl rfl rfl (fun w hm => rEntries_calls m hsm hX w (hM.mono0 hm)) (fun z133 => ?_)
  obtain ⟨x133, hx133⟩ := z133
  dsimp only
  refine RunL.val (Val.len_sl rfl sl_53) rfl rfl rfl ?_
  refine RunL.val (Val.pure rfl) rfl rfl rfl ?_
  refine RunL.nil ?_
  refine RunE.next ?_
  refine RunC.seq ?_
  refine RunC.region ?_
  refine RunL.val (Val.pure rfl) rfl rfl rfl ?_
  refine RunL.new (New.makeSlice rfl rfl ap_34 zero_3 (by omega) (by decide)) rfl rfl rfl (fun b136 => ?_)
  refine RunL.val (Val.pure rfl) rfl rfl rfl ?_
  refine RunL.nil ?_
  refine RunE.next ?_
  refine RunC.seq ?_
  refine RunC.seq ?_
  refine RunC.region ?_
  refine RunL.val (Val.fieldAddr rfl fld_25_1) rfl rfl rfl ?_
  refine RunL.val (Val.load_one rfl (.tail _ (.head _)) ty_23 rfl) rfl rfl rfl ?_
  refine RunL.val (Val.len_sl rfl sl_23) rfl rfl rfl ?_
  refine RunL.val (Val.pure rfl) rfl rfl rfl ?_
  refine RunL.nil ?_
  refine RunE.next ?_
  refine RunC.block ?_
  refine RunC.loopK (m.cards.length) (fun k q => (140, .int .i64 (k : Int)) :: q) (fun _ => _) (fun k => [(b136, .cells (intsW (byL (esX m).length (fsX m.pl) k 0)).flatten.toArray 3 (0, 0))]) (fun _ => True) trivial rfl (Sub.consE (t := 140) rfl rfl (Sub.cons (t := 1) rfl (Sub.cons (t := 3) rfl (Sub.cons (t := 5) rfl (Sub.cons (t := 6) rfl (Sub.cons (t := 7) rfl (Sub.cons (t := 8) rfl (Sub.cons (t := 10) rfl (Sub.cons (t := 11) rfl (Sub.cons (t := 139) rfl (Sub.nil _))))))))))) (.cons .here (by rw [by_start]) (.cons .here rfl (Pick.refl _))) ?_
  intro k kN kI
  clear kI
  refine RunC.seq ?_
  refine RunC.region ?_
  refine RunL.val (Val.pure rfl) rfl rfl rfl ?_
  refine RunL.nil ?_
  refine RunE.next ?_
  refine RunC.seq ?_
  refine RunC.cond rfl ?_ ?_
  · intro c3
    have c3' := c3; clear c3
    try simp only [decide_eq_true_eq, decide_eq_false_iff_not, Bool.not_eq_true', Bool.not_eq_false', Bool.and_eq_true, Bool.or_eq_true, Bool.and_eq_false_iff, Bool.or_eq_false_iff, Int.not_le, Int.not_lt] at c3'
    have hk : k < m.cards.length := by omega
    have hk2 : k < (fsX m.pl).length := by omega
    obtain ⟨f, hf2⟩ : ∃ f, (fsX m.pl)[k] = f := ⟨_, rfl⟩
    have hf12 := hall f (hf2 ▸ List.getElem_mem hk2)
    have hss := share_sum (ne := (esX m).length) hk2
    rw [hcn] at hss
    have hsl : ∀ j, shareL (esX m).length (fsX m.pl) k j ≤ n := fun j => hcn ▸ share_le hk2 j
    obtain ⟨zz, hzz⟩ : ∃ zz, S.getD k 0 = zz := ⟨_, rfl⟩
    have hSk : E = 0 → zz = lastP (sureP m.pl k) (esX m).length := fun h0 => by (rw [← hzz, (hok h0).2.1]; simp [hk]; rfl)
    have hkS : E = 0 → k < S.length := fun h0 => by rcases hE with ⟨a1, a2, a3⟩ | ⟨a1, a2, a3, a4, a5⟩ <;> omega
    refine RunC.skip ?_
    refine RunE.next ?_
    refine RunC.seq ?_
    refine RunC.block ?_
    refine RunC.seq ?_
    refine RunC.region ?_
    refine RunL.val (Val.pure rfl) rfl rfl rfl ?_
    refine RunL.val (Val.pure rfl) rfl rfl rfl ?_
    refine RunL.nil ?_
    refine RunE.next ?_
    refine RunC.seq ?_
    refine RunC.region ?_
    refine RunL.val (Val.load_agg rfl (.tail _ (.head _)) ty_25 rfl) rfl rfl rfl ?_
    refine RunL.val (Val.pure rfl) rfl rfl rfl ?_
    refine RunL.callP (isCall_func rfl ent_14) rfl rfl rfl (fun w hm => (by have h9 := fits_calls m hsm (k : Int) w (hM.mono0 hm); rw [fits_at hX hk2 hf2] at h9; exact h9)) ?_
    iterate 5 refine RunL.val (Val.pure rfl) rfl rfl rfl ?_
    refine RunL.nil ?_
    refine RunE.next ?_
    refine RunC.seq ?_
    refine RunC.seq ?_
    refine RunC.region ?_
    refine RunL.val (Val.pure rfl) rfl rfl rfl ?_
    refine RunL.val (Val.pure rfl) rfl rfl rfl ?_
    refine RunL.nil ?_
    refine RunE.next ?_
    refine RunC.cond rfl (fun h => absurd h (by simp)) ?_
    intro c4
    clear c4
    refine RunC.skip ?_
    refine RunE.next ?_
    refine RunC.seq ?_
    refine RunC.region ?_
    refine RunL.val (Val.pure rfl) rfl rfl rfl ?_
    refine RunL.val (Val.pure rfl) rfl rfl rfl ?_
    refine RunL.nil ?_
    refine RunE.next ?_
    refine RunC.seq ?_
    refine RunC.seq ?_
    refine RunC.region ?_
    refine RunL.val (Val.pure rfl) rfl rfl rfl ?_
    refine RunL.val (Val.pure rfl) rfl rfl rfl ?_
    refine RunL.nil ?_
    refine RunE.next ?_
    refine RunC.block ?_
    refine RunC.loopK ((esX m).length) (fun j q => (152, .int .i64 (j : Int)) :: (15, .int .i64 ((((List.range j).map (shareL (esX m).length (fsX m.pl) k)).sum : Nat) : Int)) :: (16, .int .i64 (lastP (sureP m.pl k) j)) :: q) (fun _ => _) (fun j => [(b136, .cells (intsW (byL (esX m).length (fsX m.pl) k j)).flatten.toArray 3 (0, 0))]) (fun _ => True) trivial rfl (Sub.consE (t := 152) rfl rfl (Sub.consE (t := 15) rfl rfl (Sub.consE (t := 16) rfl rfl (Sub.cons (t := 1) rfl (Sub.cons (t := 3) rfl (Sub.cons (t := 5) rfl (Sub.cons (t := 6) rfl (Sub.cons (t := 7) rfl (Sub.cons (t := 8) rfl (Sub.cons (t := 10) rfl (Sub.cons (t := 11) rfl (Sub.cons (t := 12) rfl (Sub.cons (t := 13) rfl (Sub.cons (t := 14) rfl (Sub.cons (t := 139) rfl (Sub.cons (t := 140) rfl (Sub.cons (t := 151) rfl (Sub.nil _)))))))))))))))))) (.cons .here rfl (.cons .here rfl (Pick.refl _))) ?_
    intro j jN jI
    clear jI
    refine RunC.seq ?_
    refine RunC.region ?_
    refine RunL.val (Val.pure rfl) rfl rfl rfl ?_
    refine RunL.nil ?_
    refine RunE.next ?_
    refine RunC.seq ?_
    refine RunC.cond rfl ?_ ?_
    · intro c5
      have c5' := c5; clear c5
      try simp only [decide_eq_true_eq, decide_eq_false_iff_not, Bool.not_eq_true', Bool.not_eq_false', Bool.and_eq_true, Bool.or_eq_true, Bool.and_eq_false_iff, Bool.or_eq_false_iff, Int.not_le, Int.not_lt] at c5'
      have hj : j < (esX m).length := by omega
      obtain ⟨v, hv⟩ : ∃ v, shareL (esX m).length (fsX m.pl) k j = v := ⟨_, rfl⟩
      have hvn : v ≤ n := hv ▸ hsl j
      have hsum9 := sum_range_le hsl j
      have hjn : j * n ≤ 12 * n := Nat.mul_le_mul_right n (by omega)
      have hbn := byN_le (ne := (esX m).length) hk2 j j
      rw [hcn] at hbn
      have hkn : (k + 1) * n ≤ 8 * n := Nat.mul_le_mul_right n (by omega)
      have hsk := Nat.shiftRight_le f j
      have hand := Nat.and_le_right (n := f >>> j) (m := 1)
      have hz : f.testBit j = false → v = 0 := fun hb => by
        rcases Nat.eq_zero_or_pos v with h0 | h0
        · exact h0
        · have h9 := share_fit hk2 (hv ▸ h0)
          rw [getD_at hk2 hf2, hb] at h9
          cases h9.1
      refine RunC.skip ?_
      refine RunE.next ?_
      refine RunC.seq ?_
      refine RunC.block ?_
      refine RunC.seq ?_
      refine RunC.region ?_
      refine RunL.val (Val.pure rfl) rfl rfl rfl ?_
      refine RunL.val (Val.pure rfl) rfl rfl rfl ?_
      refine RunL.nil ?_
      refine RunE.next ?_
      refine RunC.seq ?_
      refine RunC.region ?_
      refine RunL.val (Val.load_agg rfl (.tail _ (.head _)) ty_25 rfl) rfl rfl rfl ?_
      refine RunL.val (Val.pure rfl) rfl rfl rfl ?_
      refine RunL.val (Val.pure rfl) rfl rfl rfl ?_
      refine RunL.callP (isCall_func rfl ent_21) rfl rfl rfl (fun w hm => (by have h9 := shareh_calls m hsm (k : Int) (j : Int) w (hM.mono0 hm); rw [share_at hX hk hj, hv] at h9; exact h9)) ?_
      iterate 5 refine RunL.val (Val.pure rfl) rfl rfl rfl ?_
      refine RunL.nil ?_
      refine RunE.next ?_
      refine RunC.seq ?_
      refine RunC.seq ?_
      refine RunC.region ?_
      iterate 3 refine RunL.val (Val.pure rfl) rfl rfl rfl ?_
      refine RunL.orPart (dj := 164) (dp := 167) 3 rfl (fun g164 => by
        have g164' := g164
        try simp only [decide_eq_true_eq, decide_eq_false_iff_not, Bool.not_eq_true', Bool.not_eq_false', Bool.and_eq_true, Bool.or_eq_true, Bool.and_eq_false_iff, Bool.or_eq_false_iff, Int.not_le, Int.not_lt] at g164'
        iterate 3 refine RunL.val (Val.pure rfl) rfl rfl rfl ?_
        exact RunL.segEnd (Sub.cons rfl (Sub.skip rfl (Sub.skip rfl (Sub.skip rfl (Sub.same rfl (by rw [g164]) (Sub.refl _)))))) (List.Sublist.refl _)
      ) (fun g164 => by
        have g164' := g164
        try simp only [decide_eq_true_eq, decide_eq_false_iff_not, Bool.not_eq_true', Bool.not_eq_false', Bool.and_eq_true, Bool.or_eq_true, Bool.and_eq_false_iff, Bool.or_eq_false_iff, Int.not_le, Int.not_lt] at g164'
        refine RunL.no rfl rfl rfl ?_
        refine RunL.no rfl rfl rfl ?_
        refine RunL.val (Val.pure rfl) rfl rfl rfl ?_
        exact RunL.segEnd (Sub.cons rfl (Sub.skip rfl (Sub.skip rfl (Sub.skip rfl (Sub.same rfl (by rw [g164]) (Sub.refl _)))))) (List.Sublist.refl _)
      ) ?_
      refine RunL.val (Val.pure rfl) rfl rfl rfl ?_
      refine RunL.orPart (dj := 168) (dp := 172) 4 rfl (fun g168 => by
        have g168' := g168
        try simp only [decide_eq_true_eq, decide_eq_false_iff_not, Bool.not_eq_true', Bool.not_eq_false', Bool.and_eq_true, Bool.or_eq_true, Bool.and_eq_false_iff, Bool.or_eq_false_iff, Int.not_le, Int.not_lt] at g168'
        iterate 4 refine RunL.val (Val.pure rfl) rfl rfl rfl ?_
        exact RunL.segEnd (Sub.cons rfl (Sub.skip rfl (Sub.skip rfl (Sub.skip rfl (Sub.skip rfl (Sub.same rfl (by rw [g168]) (Sub.refl _))))))) (List.Sublist.refl _)
      ) (fun g168 => by
        have g168' := g168
        try simp only [decide_eq_true_eq, decide_eq_false_iff_not, Bool.not_eq_true', Bool.not_eq_false', Bool.and_eq_true, Bool.or_eq_true, Bool.and_eq_false_iff, Bool.or_eq_false_iff, Int.not_le, Int.not_lt] at g168'
        iterate 3 refine RunL.no rfl rfl rfl ?_
        refine RunL.val (Val.pure rfl) rfl rfl rfl ?_
        exact RunL.segEnd (Sub.cons rfl (Sub.skip rfl (Sub.skip rfl (Sub.skip rfl (Sub.skip rfl (Sub.same rfl (by rw [g168]) (Sub.refl _))))))) (List.Sublist.refl _)
      ) ?_
      refine RunL.val (Val.pure rfl) rfl rfl rfl ?_
      refine RunL.orPart (dj := 173) (dp := 183) 10 rfl (fun g173 => by
        have g173' := g173
        try simp only [decide_eq_true_eq, decide_eq_false_iff_not, Bool.not_eq_true', Bool.not_eq_false', Bool.and_eq_true, Bool.or_eq_true, Bool.and_eq_false_iff, Bool.or_eq_false_iff, Int.not_le, Int.not_lt] at g173'
        iterate 3 refine RunL.val (Val.pure rfl) rfl rfl rfl ?_
        refine RunL.andPart (dj := 176) (dp := 182) 6 rfl (fun g176 => by
          have g176' := g176
          try simp only [decide_eq_true_eq, decide_eq_false_iff_not, Bool.not_eq_true', Bool.not_eq_false', Bool.and_eq_true, Bool.or_eq_true, Bool.and_eq_false_iff, Bool.or_eq_false_iff, Int.not_le, Int.not_lt] at g176'
          refine RunL.val (Val.pure rfl) rfl rfl rfl ?_
          refine RunL.val (Val.pure rfl) rfl rfl rfl ?_
          refine RunL.val (Val.shrN (a := f) (b := j) rfl rfl (by show j ≤ 64; omega)) rfl rfl rfl ?_
          refine RunL.val (Val.and (a := f >>> j) (b := 1) rfl rfl (by show _ < 18446744073709551616; omega) (by decide) (i64_inN (by omega))) rfl rfl rfl ?_
          refine RunL.val (Val.pure rfl) rfl rfl rfl ?_
          refine RunL.val (Val.pure rfl) rfl rfl rfl ?_
          exact RunL.segEnd (Sub.cons rfl (Sub.skip rfl (Sub.skip rfl (Sub.skip rfl (Sub.skip rfl (Sub.skip rfl (Sub.skip rfl (Sub.same rfl (by rw [g176]) (Sub.refl _))))))))) (List.Sublist.refl _)
        ) (fun g176 => by
          have g176' := g176
          try simp only [decide_eq_true_eq, decide_eq_false_iff_not, Bool.not_eq_true', Bool.not_eq_false', Bool.and_eq_true, Bool.or_eq_true, Bool.and_eq_false_iff, Bool.or_eq_false_iff, Int.not_le, Int.not_lt] at g176'
          iterate 5 refine RunL.no rfl rfl rfl ?_
          refine RunL.val (Val.pure rfl) rfl rfl rfl ?_
          exact RunL.segEnd (Sub.cons rfl (Sub.skip rfl (Sub.skip rfl (Sub.skip rfl (Sub.skip rfl (Sub.skip rfl (Sub.skip rfl (Sub.same rfl (by rw [g176]) (Sub.refl _))))))))) (List.Sublist.refl _)
        ) ?_
        refine RunL.val (Val.pure rfl) rfl rfl rfl ?_
        exact RunL.segEnd (Sub.cons rfl (Sub.skip rfl (Sub.skip rfl (Sub.skip rfl (Sub.skip rfl (Sub.skip rfl (Sub.same rfl (by rw [g173]) (Sub.refl _)))))))) (List.Sublist.refl _)
      ) (fun g173 => by
        have g173' := g173
        try simp only [decide_eq_true_eq, decide_eq_false_iff_not, Bool.not_eq_true', Bool.not_eq_false', Bool.and_eq_true, Bool.or_eq_true, Bool.and_eq_false_iff, Bool.or_eq_false_iff, Int.not_le, Int.not_lt] at g173'
        iterate 9 refine RunL.no rfl rfl rfl ?_
        refine RunL.val (Val.pure rfl) rfl rfl rfl ?_
        exact RunL.segEnd (Sub.cons rfl (Sub.skip rfl (Sub.skip rfl (Sub.skip rfl (Sub.skip rfl (Sub.skip rfl (Sub.skip rfl (Sub.skip rfl (Sub.skip rfl (Sub.skip rfl (Sub.skip rfl (Sub.same rfl (by rw [g173]) (Sub.refl _))))))))))))) (List.Sublist.refl _)
      ) ?_
      refine RunL.nil ?_
      refine RunE.next ?_
      refine RunC.cond rfl (fun h => absurd h (by cases hb : f.testBit j with | true => (rw [shr_one hb]; simp; omega) | false => (have h0 := hz hb; simp; omega))) ?_
      intro c6
      clear c6
      refine RunC.skip ?_
      refine RunE.next ?_
      refine RunC.seq ?_
      refine RunC.draw 12 fol_ (.cons .here rfl (.cons .here rfl .nil)) ?_
      refine RunA.val (i := 0) rfl (by kernel_rfl) (by kernel_rfl) (Val.pure rfl) rfl rfl rfl (fun _ _ _ h => h) (.cons .here rfl (.cons .here rfl .nil)) rfl ?_
      refine RunA.val (i := 1) rfl (by kernel_rfl) (by kernel_rfl) (Val.pure rfl) rfl rfl rfl (fun _ _ _ h => h) (.cons .here rfl (.cons .here rfl .nil)) rfl ?_
      refine RunA.val (i := 2) rfl (by kernel_rfl) (by kernel_rfl) (Val.pure rfl) rfl rfl rfl (fun _ _ _ h => h) (.cons .here rfl (.cons .here rfl .nil)) rfl ?_
      refine RunA.val (i := 3) rfl (by kernel_rfl) (by kernel_rfl) (Val.pure rfl) rfl rfl rfl (fun _ _ _ h => h) (.cons .here rfl (.cons .here rfl .nil)) rfl ?_
      refine RunA.val (i := 4) rfl (by kernel_rfl) (by kernel_rfl) (Val.addN (a := ((List.range j).map (shareL (esX m).length (fsX m.pl) k)).sum) (b := v) (((List.range j).map (shareL (esX m).length (fsX m.pl) k)).sum + v) rfl rfl rfl (i64_inN (by omega))) rfl rfl rfl (fun _ _ _ h => h) (.cons .here rfl (.cons .here rfl .nil)) rfl ?_
      refine RunA.val (i := 5) rfl (by kernel_rfl) (by kernel_rfl) (Val.pure rfl) rfl rfl rfl (fun _ _ _ h => h) (.cons .here rfl (.cons .here rfl .nil)) rfl ?_
      refine RunA.val (i := 6) rfl (by kernel_rfl) (by kernel_rfl) (Val.pure rfl) rfl rfl rfl (fun _ _ _ h => h) (.cons .here rfl (.cons .here rfl .nil)) rfl ?_
      refine RunA.val (i := 7) rfl (by kernel_rfl) (by kernel_rfl) (Val.indexAddr_sl rfl rfl sl_34 (by omega) (by omega)) rfl rfl rfl (fun _ _ _ h => h) (.cons .here rfl (.cons .here rfl .nil)) rfl ?_
      refine RunA.val (i := 8) rfl (by kernel_rfl) (by kernel_rfl) (Val.load_gen rfl (fun w hm => (Sl.rows (xs := intsW (byL (esX m).length (fsX m.pl) k j)) (hm.at (.head _)) (ints_row _)).loadM1 (by decide) (Mem.refl w) (by simp) ty_3 (by rw [byL_len]; exact hj) (v := .int .i64 ((byN (esX m).length (fsX m.pl) k j j : Nat) : Int)) (by simp [by_at hj]))) rfl rfl rfl (fun _ _ _ h => h) (.cons .here rfl (.cons .here rfl .nil)) rfl ?_
      refine RunA.val (i := 9) rfl (by kernel_rfl) (by kernel_rfl) (Val.pure rfl) rfl rfl rfl (fun _ _ _ h => h) (.cons .here rfl (.cons .here rfl .nil)) rfl ?_
      refine RunA.val (i := 10) rfl (by kernel_rfl) (by kernel_rfl) (Val.addN (a := byN (esX m).length (fsX m.pl) k j j) (b := v) (byN (esX m).length (fsX m.pl) k j j + v) rfl rfl rfl (i64_inN (by omega))) rfl rfl rfl (fun _ _ _ h => h) (.cons .here rfl (.cons .here rfl .nil)) rfl ?_
      refine RunA.val (i := 11) rfl (by kernel_rfl) (by kernel_rfl) (Val.pure rfl) rfl rfl rfl (fun _ _ _ h => h) (.cons .here rfl (.cons .here rfl .nil)) rfl ?_
      refine RunA.toB (by kernel_rfl) ?_
      refine RunB.one (i := 12) (by kernel_rfl) ?_
      refine RunI.val rfl (Val.indexAddr_sl rfl rfl sl_34 (by omega) (by omega)) rfl rfl rfl (RunK.toB ?_)
      refine RunB.one (i := 13) (by kernel_rfl) ?_
      refine RunI.sto rfl (Sto.store (cs := (intsW (byL (esX m).length (fsX m.pl) k j)).flatten) (cs' := (intsW ((byL (esX m).length (fsX m.pl) k j).set j ((byN (esX m).length (fsX m.pl) k j j + v : Nat) : Int))).flatten) rfl rfl .here ty_3 rfl (by have h9 := paste_setI (l := byL (esX m).length (fsX m.pl) k j) (j := j) (v := ((byN (esX m).length (fsX m.pl) k j j + v : Nat) : Int)) (by rw [byL_len]; exact hj); rw [Nat.zero_add, Int.toNat_natCast, Nat.mul_one]; exact h9)) rfl rfl (RunK.toB ?_)
      refine RunB.done (by kernel_rfl) ?_
      refine RunE.next ?_
      refine RunC.seq ?_
      refine RunC.region ?_
      iterate 3 refine RunL.val (Val.pure rfl) rfl rfl rfl ?_
      refine RunL.nil ?_
      refine RunE.next ?_
      refine RunC.cond rfl ?_ ?_
      · intro c7
        have c7' := c7; clear c7
        try simp only [decide_eq_true_eq, decide_eq_false_iff_not, Bool.not_eq_true', Bool.not_eq_false', Bool.and_eq_true, Bool.or_eq_true, Bool.and_eq_false_iff, Bool.or_eq_false_iff, Int.not_le, Int.not_lt] at c7'
        have q3 : lastP (sureP m.pl k) (j + 1) = (j : Int) := if_pos (decide_eq_true (by show shareL (esX m).length (fsX m.pl) k j = cntX m.pl; rw [hv, hn]; omega))
        refine RunC.region ?_
        refine RunL.val (Val.pure rfl) rfl rfl rfl ?_
        refine RunL.val (Val.pure rfl) rfl rfl rfl ?_
        refine RunL.nil ?_
        refine RunE.block_normal ?_
        refine RunE.next ?_
        refine RunC.region ?_
        refine RunL.val (Val.add rfl rfl (IntWalk.i64_in _ ⟨by omega, by omega⟩)) rfl rfl rfl ?_
        refine RunL.val (Val.pure rfl) rfl rfl rfl ?_
        refine RunL.nil ?_
        exact RunE.round (by omega) trivial rfl (Sub.consE (t := 152) rfl rfl (Sub.consE (t := 15) rfl (by rw [sum_range_succ, hv]) (Sub.consE (t := 16) rfl (by rw [q3]) (Sub.cons (t := 1) rfl (Sub.cons (t := 3) rfl (Sub.cons (t := 5) rfl (Sub.cons (t := 6) rfl (Sub.cons (t := 7) rfl (Sub.cons (t := 8) rfl (Sub.cons (t := 10) rfl (Sub.cons (t := 11) rfl (Sub.cons (t := 12) rfl (Sub.cons (t := 13) rfl (Sub.cons (t := 14) rfl (Sub.cons (t := 139) rfl (Sub.cons (t := 140) rfl (Sub.cons (t := 151) rfl (Sub.nil _)))))))))))))))))) (.cons .here (by rw [← by_set hj, hv]) (.cons .here rfl (Pick.refl _)))
      · intro c7
        have c7' := c7; clear c7
        try simp only [decide_eq_true_eq, decide_eq_false_iff_not, Bool.not_eq_true', Bool.not_eq_false', Bool.and_eq_true, Bool.or_eq_true, Bool.and_eq_false_iff, Bool.or_eq_false_iff, Int.not_le, Int.not_lt] at c7'
        have q3 : lastP (sureP m.pl k) (j + 1) = lastP (sureP m.pl k) j := if_neg (fun h9 => c7' (by have h10 : shareL (esX m).length (fsX m.pl) k j = cntX m.pl := of_decide_eq_true h9; rw [hv, hn] at h10; omega))
        refine RunC.skip ?_
        refine RunE.block_normal ?_
        refine RunE.next ?_
        refine RunC.region ?_
        refine RunL.val (Val.add rfl rfl (IntWalk.i64_in _ ⟨by omega, by omega⟩)) rfl rfl rfl ?_
        refine RunL.val (Val.pure rfl) rfl rfl rfl ?_
        refine RunL.nil ?_
        exact RunE.round (by omega) trivial rfl (Sub.consE (t := 152) rfl rfl (Sub.consE (t := 15) rfl (by rw [sum_range_succ, hv]) (Sub.consE (t := 16) rfl (by rw [q3]) (Sub.cons (t := 1) rfl (Sub.cons (t := 3) rfl (Sub.cons (t := 5) rfl (Sub.cons (t := 6) rfl (Sub.cons (t := 7) rfl (Sub.cons (t := 8) rfl (Sub.cons (t := 10) rfl (Sub.cons (t := 11) rfl (Sub.cons (t := 12) rfl (Sub.cons (t := 13) rfl (Sub.cons (t := 14) rfl (Sub.cons (t := 139) rfl (Sub.cons (t := 140) rfl (Sub.cons (t := 151) rfl (Sub.nil _)))))))))))))))))) (.cons .here (by rw [← by_set hj, hv]) (.cons .here rfl (Pick.refl _)))
    · intro c5
      have c5' := c5; clear c5
      try simp only [decide_eq_true_eq, decide_eq_false_iff_not, Bool.not_eq_true', Bool.not_eq_false', Bool.and_eq_true, Bool.or_eq_true, Bool.and_eq_false_iff, Bool.or_eq_false_iff, Int.not_le, Int.not_lt] at c5'
      have hjn : j = (esX m).length := by omega
      subst hjn
      have hsum : ((List.range (esX m).length).map (shareL (esX m).length (fsX m.pl) k)).sum = n := hss
      refine RunC.exit ?_
      refine RunE.pass_exit ?_
      refine RunE.pass_exit ?_
      refine RunE.block_here ?_
      refine RunE.next ?_
      refine RunC.seq ?_
      refine RunC.region ?_
      iterate 4 refine RunL.val (Val.pure rfl) rfl rfl rfl ?_
      refine RunL.orPart (dj := 204) (dp := 215) 11 rfl (fun g204 => by
        have g204' := g204
        try simp only [decide_eq_true_eq, decide_eq_false_iff_not, Bool.not_eq_true', Bool.not_eq_false', Bool.and_eq_true, Bool.or_eq_true, Bool.and_eq_false_iff, Bool.or_eq_false_iff, Int.not_le, Int.not_lt] at g204'
        iterate 3 refine RunL.val (Val.pure rfl) rfl rfl rfl ?_
        refine RunL.andPart (dj := 207) (dp := 214) 7 rfl (fun g207 => by
          have g207' := g207
          try simp only [decide_eq_true_eq, decide_eq_false_iff_not, Bool.not_eq_true', Bool.not_eq_false', Bool.and_eq_true, Bool.or_eq_true, Bool.and_eq_false_iff, Bool.or_eq_false_iff, Int.not_le, Int.not_lt] at g207'
          refine RunL.val (Val.pure rfl) rfl rfl rfl ?_
          refine RunL.val (Val.pure rfl) rfl rfl rfl ?_
          refine RunL.val (Val.indexAddr_slp rfl rfl sl_34 (by omega) (by have := hkS (by simpa using g207); omega) (own_ptr hx32 (by have := hkS (by simpa using g207); omega))) rfl rfl rfl ?_
          refine RunL.val (Val.load_gen rfl (fun w hm => (ints_sl hx32 (fun b o h => hm.at (.tail _ (.tail _ ((by first | exact List.mem_append_right _ (List.mem_append_left _ h) | exact List.mem_append_right _ (List.mem_append_right _ (List.mem_append_left _ h)))))))).loadM1 (by decide) (Mem.refl w) (by simp) ty_3 (hkS (by simpa using g207)) (v := .int .i64 zz) (by rw [← hzz]; simp [hkS (by simpa using g207)]))) rfl rfl rfl ?_
          iterate 3 refine RunL.val (Val.pure rfl) rfl rfl rfl ?_
          exact RunL.segEnd (Sub.cons rfl (Sub.skip rfl (Sub.skip rfl (Sub.skip rfl (Sub.skip rfl (Sub.skip rfl (Sub.skip rfl (Sub.skip rfl (Sub.same rfl (by rw [g207]) (Sub.refl _)))))))))) (List.Sublist.refl _)
        ) (fun g207 => by
          have g207' := g207
          try simp only [decide_eq_true_eq, decide_eq_false_iff_not, Bool.not_eq_true', Bool.not_eq_false', Bool.and_eq_true, Bool.or_eq_true, Bool.and_eq_false_iff, Bool.or_eq_false_iff, Int.not_le, Int.not_lt] at g207'
          iterate 6 refine RunL.no rfl rfl rfl ?_
          refine RunL.val (Val.pure rfl) rfl rfl rfl ?_
          exact RunL.segEnd (Sub.cons rfl (Sub.skip rfl (Sub.skip rfl (Sub.skip rfl (Sub.skip rfl (Sub.skip rfl (Sub.skip rfl (Sub.skip rfl (Sub.same rfl (by rw [g207]) (Sub.refl _)))))))))) (List.Sublist.refl _)
        ) ?_
        refine RunL.val (Val.pure rfl) rfl rfl rfl ?_
        exact RunL.segEnd (Sub.cons rfl (Sub.skip rfl (Sub.skip rfl (Sub.skip rfl (Sub.skip rfl (Sub.skip rfl (Sub.same rfl (by rw [g204]) (Sub.refl _)))))))) (List.Sublist.refl _)
      ) (fun g204 => by
        have g204' := g204
        try simp only [decide_eq_true_eq, decide_eq_false_iff_not, Bool.not_eq_true', Bool.not_eq_false', Bool.and_eq_true, Bool.or_eq_true, Bool.and_eq_false_iff, Bool.or_eq_false_iff, Int.not_le, Int.not_lt] at g204'
        iterate 10 refine RunL.no rfl rfl rfl ?_
        refine RunL.val (Val.pure rfl) rfl rfl rfl ?_
        exact RunL.segEnd (Sub.cons rfl (Sub.skip rfl (Sub.skip rfl (Sub.skip rfl (Sub.skip rfl (Sub.skip rfl (Sub.skip rfl (Sub.skip rfl (Sub.skip rfl (Sub.skip rfl (Sub.skip rfl (Sub.skip rfl (Sub.same rfl (by rw [g204]) (Sub.refl _)))))))))))))) (List.Sublist.refl _)
      ) ?_
      refine RunL.nil ?_
      refine RunE.next ?_
      refine RunC.cond rfl (fun h => absurd h (by rw [hsum]; rcases hE with ⟨a1, a2, a3⟩ | ⟨a1, a2, a3, a4, a5⟩ <;> simp [a1] <;> exact hSk a1)) ?_
      intro c8
      clear c8
      refine RunC.skip ?_
      refine RunE.block_normal ?_
      refine RunE.next ?_
      refine RunC.region ?_
      refine RunL.val (Val.add rfl rfl (IntWalk.i64_in _ ⟨by omega, by omega⟩)) rfl rfl rfl ?_
      refine RunL.val (Val.pure rfl) rfl rfl rfl ?_
      refine RunL.nil ?_
      exact RunE.round (by omega) trivial rfl (Sub.consE (t := 140) rfl rfl (Sub.cons (t := 1) rfl (Sub.cons (t := 3) rfl (Sub.cons (t := 5) rfl (Sub.cons (t := 6) rfl (Sub.cons (t := 7) rfl (Sub.cons (t := 8) rfl (Sub.cons (t := 10) rfl (Sub.cons (t := 11) rfl (Sub.cons (t := 139) rfl (Sub.nil _))))))))))) (.cons .here (by rw [by_next]) (.cons .here rfl (Pick.refl _)))
  · intro c3
    have c3' := c3; clear c3
    try simp only [decide_eq_true_eq, decide_eq_false_iff_not, Bool.not_eq_true', Bool.not_eq_false', Bool.and_eq_true, Bool.or_eq_true, Bool.and_eq_false_iff, Bool.or_eq_false_iff, Int.not_le, Int.not_lt] at c3'
    have hkn : k = m.cards.length := by omega
    rw [hkn, ← hfl]
    refine RunC.exit ?_
    refine RunE.pass_exit ?_
    refine RunE.pass_exit ?_
    refine RunE.block_here ?_
    refine RunE.next ?_
    refine RunC.seq ?_
    refine RunC.seq ?_
    refine RunC.region ?_
    refine RunL.val (Val.pure rfl) rfl rfl rfl ?_
    refine RunL.val (Val.len_sl rfl sl_34) rfl rfl rfl ?_
    refine RunL.val (Val.pure rfl) rfl rfl rfl ?_
    refine RunL.nil ?_
    refine RunE.next ?_
    refine RunC.block ?_
    refine RunC.loopK ((esX m).length) (fun k q => (219, .int .i64 (k : Int)) :: q) (fun _ => _) (fun _ => []) (fun _ => True) trivial rfl (Sub.consE (t := 219) rfl rfl (Sub.cons (t := 1) rfl (Sub.cons (t := 3) rfl (Sub.cons (t := 6) rfl (Sub.cons (t := 7) rfl (Sub.cons (t := 8) rfl (Sub.cons (t := 10) rfl (Sub.cons (t := 217) rfl (Sub.cons (t := 218) rfl (Sub.nil _)))))))))) (.cons .here rfl (.cons .here rfl (Pick.refl _))) ?_
    intro k kN kI
    clear kI
    refine RunC.seq ?_
    refine RunC.region ?_
    refine RunL.val (Val.pure rfl) rfl rfl rfl ?_
    refine RunL.nil ?_
    refine RunE.next ?_
    refine RunC.seq ?_
    refine RunC.cond rfl ?_ ?_
    · intro c9
      have c9' := c9; clear c9
      try simp only [decide_eq_true_eq, decide_eq_false_iff_not, Bool.not_eq_true', Bool.not_eq_false', Bool.and_eq_true, Bool.or_eq_true, Bool.and_eq_false_iff, Bool.or_eq_false_iff, Int.not_le, Int.not_lt] at c9'
      have hk3 : k < (esX m).length := by omega
      obtain ⟨u, hu⟩ : ∃ u, byN (esX m).length (fsX m.pl) (fsX m.pl).length 0 k = u := ⟨_, rfl⟩
      have hu2 : usedL (esX m).length (fsX m.pl) k = u := by rw [← by_used]; exact hu
      have hun : u ≤ n := by rw [← hu2, ← hcn]; exact used_le hk3
      have hsk1 := Nat.shiftRight_le lo k
      have hand1 := Nat.and_le_right (n := lo >>> k) (m := 1)
      have hsk2 := Nat.shiftRight_le ca k
      have hand2 := Nat.and_le_right (n := ca >>> k) (m := 1)
      refine RunC.skip ?_
      refine RunE.next ?_
      refine RunC.seq ?_
      refine RunC.block ?_
      refine RunC.seq ?_
      refine RunC.region ?_
      refine RunL.val (Val.pure rfl) rfl rfl rfl ?_
      refine RunL.val (Val.indexAddr_sl rfl rfl sl_34 (by omega) (by omega)) rfl rfl rfl ?_
      refine RunL.val (Val.load_gen rfl (fun w hm => (Sl.rows (xs := intsW (byL (esX m).length (fsX m.pl) (fsX m.pl).length 0)) (hm.at (.head _)) (ints_row _)).loadM1 (by decide) (Mem.refl w) (by simp) ty_3 (by rw [byL_len]; exact hk3) (v := .int .i64 ((u : Nat) : Int)) (by simp [by_at hk3, hu]))) rfl rfl rfl ?_
      refine RunL.val (Val.pure rfl) rfl rfl rfl ?_
      refine RunL.val (Val.pure rfl) rfl rfl rfl ?_
      refine RunL.nil ?_
      refine RunE.next ?_
      refine RunC.seq ?_
      refine RunC.region ?_
      iterate 4 refine RunL.val (Val.pure rfl) rfl rfl rfl ?_
      refine RunL.orPart (dj := 227) (dp := 251) 24 rfl (fun g227 => by
        have g227' := g227
        try simp only [decide_eq_true_eq, decide_eq_false_iff_not, Bool.not_eq_true', Bool.not_eq_false', Bool.and_eq_true, Bool.or_eq_true, Bool.and_eq_false_iff, Bool.or_eq_false_iff, Int.not_le, Int.not_lt] at g227'
        iterate 3 refine RunL.val (Val.pure rfl) rfl rfl rfl ?_
        refine RunL.andPart (dj := 230) (dp := 250) 20 rfl (fun g230 => by
          have g230' := g230
          try simp only [decide_eq_true_eq, decide_eq_false_iff_not, Bool.not_eq_true', Bool.not_eq_false', Bool.and_eq_true, Bool.or_eq_true, Bool.and_eq_false_iff, Bool.or_eq_false_iff, Int.not_le, Int.not_lt] at g230'
          refine RunL.val (Val.pure rfl) rfl rfl rfl ?_
          refine RunL.val (Val.pure rfl) rfl rfl rfl ?_
          refine RunL.val (Val.shrN (a := lo) (b := k) rfl rfl (by show k ≤ 64; omega)) rfl rfl rfl ?_
          refine RunL.val (Val.and (a := lo >>> k) (b := 1) rfl rfl (by show _ < 18446744073709551616; omega) (by decide) (i64_inN (by omega))) rfl rfl rfl ?_
          iterate 3 refine RunL.val (Val.pure rfl) rfl rfl rfl ?_
          refine RunL.val (Val.neq_bool rfl rfl boolB_4) rfl rfl rfl ?_
          refine RunL.val (Val.pure rfl) rfl rfl rfl ?_
          refine RunL.orPart (dj := 239) (dp := 249) 10 rfl (fun g239 => by
            have g239' := g239
            try simp only [decide_eq_true_eq, decide_eq_false_iff_not, Bool.not_eq_true', Bool.not_eq_false', Bool.and_eq_true, Bool.or_eq_true, Bool.and_eq_false_iff, Bool.or_eq_false_iff, Int.not_le, Int.not_lt] at g239'
            refine RunL.val (Val.pure rfl) rfl rfl rfl ?_
            refine RunL.val (Val.pure rfl) rfl rfl rfl ?_
            refine RunL.val (Val.shrN (a := ca) (b := k) rfl rfl (by show k ≤ 64; omega)) rfl rfl rfl ?_
            refine RunL.val (Val.and (a := ca >>> k) (b := 1) rfl rfl (by show _ < 18446744073709551616; omega) (by decide) (i64_inN (by omega))) rfl rfl rfl ?_
            iterate 4 refine RunL.val (Val.pure rfl) rfl rfl rfl ?_
            refine RunL.val (Val.neq_bool rfl rfl boolB_4) rfl rfl rfl ?_
            refine RunL.val (Val.pure rfl) rfl rfl rfl ?_
            exact RunL.segEnd (Sub.cons rfl (Sub.skip rfl (Sub.skip rfl (Sub.skip rfl (Sub.skip rfl (Sub.skip rfl (Sub.skip rfl (Sub.skip rfl (Sub.skip rfl (Sub.skip rfl (Sub.skip rfl (Sub.same rfl (by rw [g239]) (Sub.refl _))))))))))))) (List.Sublist.refl _)
          ) (fun g239 => by
            have g239' := g239
            try simp only [decide_eq_true_eq, decide_eq_false_iff_not, Bool.not_eq_true', Bool.not_eq_false', Bool.and_eq_true, Bool.or_eq_true, Bool.and_eq_false_iff, Bool.or_eq_false_iff, Int.not_le, Int.not_lt] at g239'
            iterate 9 refine RunL.no rfl rfl rfl ?_
            refine RunL.val (Val.pure rfl) rfl rfl rfl ?_
            exact RunL.segEnd (Sub.cons rfl (Sub.skip rfl (Sub.skip rfl (Sub.skip rfl (Sub.skip rfl (Sub.skip rfl (Sub.skip rfl (Sub.skip rfl (Sub.skip rfl (Sub.skip rfl (Sub.skip rfl (Sub.same rfl (by rw [g239]) (Sub.refl _))))))))))))) (List.Sublist.refl _)
          ) ?_
          refine RunL.val (Val.pure rfl) rfl rfl rfl ?_
          exact RunL.segEnd (Sub.cons rfl (Sub.skip rfl (Sub.skip rfl (Sub.skip rfl (Sub.skip rfl (Sub.skip rfl (Sub.skip rfl (Sub.skip rfl (Sub.skip rfl (Sub.skip rfl (Sub.skip rfl (Sub.skip rfl (Sub.same rfl (by rw [g230]) (Sub.refl _)))))))))))))) (List.Sublist.refl _)
        ) (fun g230 => by
          have g230' := g230
          try simp only [decide_eq_true_eq, decide_eq_false_iff_not, Bool.not_eq_true', Bool.not_eq_false', Bool.and_eq_true, Bool.or_eq_true, Bool.and_eq_false_iff, Bool.or_eq_false_iff, Int.not_le, Int.not_lt] at g230'
          iterate 19 refine RunL.no rfl rfl rfl ?_
          refine RunL.val (Val.pure rfl) rfl rfl rfl ?_
          exact RunL.segEnd (Sub.cons rfl (Sub.skip rfl (Sub.skip rfl (Sub.skip rfl (Sub.skip rfl (Sub.skip rfl (Sub.skip rfl (Sub.skip rfl (Sub.skip rfl (Sub.skip rfl (Sub.skip rfl (Sub.skip rfl (Sub.skip rfl (Sub.skip rfl (Sub.skip rfl (Sub.skip rfl (Sub.skip rfl (Sub.skip rfl (Sub.skip rfl (Sub.skip rfl (Sub.skip rfl (Sub.same rfl (by rw [g230]) (Sub.refl _))))))))))))))))))))))) (List.Sublist.refl _)
        ) ?_
        refine RunL.val (Val.pure rfl) rfl rfl rfl ?_
        exact RunL.segEnd (Sub.cons rfl (Sub.skip rfl (Sub.skip rfl (Sub.skip rfl (Sub.skip rfl (Sub.skip rfl (Sub.same rfl (by rw [g227]) (Sub.refl _)))))))) (List.Sublist.refl _)
      ) (fun g227 => by
        have g227' := g227
        try simp only [decide_eq_true_eq, decide_eq_false_iff_not, Bool.not_eq_true', Bool.not_eq_false', Bool.and_eq_true, Bool.or_eq_true, Bool.and_eq_false_iff, Bool.or_eq_false_iff, Int.not_le, Int.not_lt] at g227'
        iterate 23 refine RunL.no rfl rfl rfl ?_
        refine RunL.val (Val.pure rfl) rfl rfl rfl ?_
        exact RunL.segEnd (Sub.cons rfl (Sub.skip rfl (Sub.skip rfl (Sub.skip rfl (Sub.skip rfl (Sub.skip rfl (Sub.skip rfl (Sub.skip rfl (Sub.skip rfl (Sub.skip rfl (Sub.skip rfl (Sub.skip rfl (Sub.skip rfl (Sub.skip rfl (Sub.skip rfl (Sub.skip rfl (Sub.skip rfl (Sub.skip rfl (Sub.skip rfl (Sub.skip rfl (Sub.skip rfl (Sub.skip rfl (Sub.skip rfl (Sub.skip rfl (Sub.skip rfl (Sub.same rfl (by rw [g227]) (Sub.refl _))))))))))))))))))))))))))) (List.Sublist.refl _)
      ) ?_
      refine RunL.nil ?_
      refine RunE.next ?_
      refine RunC.cond rfl (fun h => absurd h (share_fin hun (fun a1 => by (obtain ⟨u1, u2⟩ := (hok a1).2.2 k hk3; rw [bit_iff, hu2] at u1 u2; exact ⟨u1, u2⟩)))) ?_
      intro c10
      clear c10
      refine RunC.skip ?_
      refine RunE.block_normal ?_
      refine RunE.next ?_
      refine RunC.region ?_
      refine RunL.val (Val.add rfl rfl (IntWalk.i64_in _ ⟨by omega, by omega⟩)) rfl rfl rfl ?_
      refine RunL.val (Val.pure rfl) rfl rfl rfl ?_
      refine RunL.nil ?_
      exact RunE.round (by omega) trivial rfl (Sub.consE (t := 219) rfl rfl (Sub.cons (t := 1) rfl (Sub.cons (t := 3) rfl (Sub.cons (t := 6) rfl (Sub.cons (t := 7) rfl (Sub.cons (t := 8) rfl (Sub.cons (t := 10) rfl (Sub.cons (t := 217) rfl (Sub.cons (t := 218) rfl (Sub.nil _)))))))))) (.cons .here rfl (.cons .here rfl (Pick.refl _)))
    · intro c9
      have c9' := c9; clear c9
      try simp only [decide_eq_true_eq, decide_eq_false_iff_not, Bool.not_eq_true', Bool.not_eq_false', Bool.and_eq_true, Bool.or_eq_true, Bool.and_eq_false_iff, Bool.or_eq_false_iff, Int.not_le, Int.not_lt] at c9'
      refine RunC.exit ?_
      refine RunE.pass_exit ?_
      refine RunE.pass_exit ?_
      refine RunE.block_here ?_
      refine RunE.next ?_
      refine RunC.seq ?_
      refine RunC.region ?_
      refine RunL.val (Val.pure rfl) rfl rfl rfl ?_
      refine RunL.val (Val.pure rfl) rfl rfl rfl ?_
      refine RunL.val (Val.shrN (a := lo) (b := (esX m).length) rfl rfl (by show _ ≤ 64; omega)) rfl rfl rfl ?_
      refine RunL.val (Val.pure rfl) rfl rfl rfl ?_
      refine RunL.val (Val.pure rfl) rfl rfl rfl ?_
      refine RunL.sure (dj := 257) true rfl (by simp [hl9]) ?_
      refine RunL.val (Val.pure rfl) rfl rfl rfl ?_
      refine RunL.val (Val.pure rfl) rfl rfl rfl ?_
      refine RunL.val (Val.shrN (a := ca) (b := (esX m).length) rfl rfl (by show _ ≤ 64; omega)) rfl rfl rfl ?_
      iterate 3 refine RunL.val (Val.pure rfl) rfl rfl rfl ?_
      refine RunL.sure (dj := 263) true rfl (by simp [hc9]) ?_
      refine RunL.callP (isCall_func rfl ent_13) rfl rfl rfl (fun w hm => hawake_calls w) ?_
      refine RunL.val (Val.pure rfl) rfl rfl rfl ?_
      refine RunL.val (Val.pure rfl) rfl rfl rfl ?_
      refine RunL.nil ?_
      refine RunE.next ?_
      refine RunC.ret ?_
      exact RunE.retP (.r1 rfl (.tmp rfl)) (by first | rfl | simp)
end Go.Proofs.YtlhdalcipflblaaDoor
