/- Walks of layer 10: the reference's Lost; HeapWays. -/
import Derived.Test.YtlhdalcipflblaaDoorW05
set_option linter.unusedSimpArgs false
set_option linter.unusedVariables false
namespace Go.Hp
open Go Go.Eng Go.Pw1 Go.Proofs.YtlhdalcipflblaaDoor
theorem far_ti {m : MxA} (h : farX m.pl = false) : ∀ B ∈ m.bxs, B.bx.titles.length ≤ 30 := by
  unfold farX MxA.pl at h
  simp only [List.length_map, any_map_bx, Bool.or_eq_false_iff, decide_eq_false_iff_not, List.any_eq_false] at h
  obtain ⟨⟨⟨h1, h2⟩, h3⟩, h4⟩ := h
  intro x hx
  have h5 := h3 x hx
  simp only [farB, Bool.or_eq_true, decide_eq_true_eq, not_or] at h5
  omega
theorem first_len {m : MxA} (hsm : MSm m) : (FirstX m.pl).1.length ≤ 1000 := by
  unfold FirstX
  split
  · rename_i hw
    obtain ⟨hX, h0⟩ := ways_ok hw
    have h1 := (first_way (ne := neX m.pl) (fs := fsX m.pl) (u := 0) (Nat.pos_of_ne_zero h0)).len
    rw [fs_len] at h1
    show (List.map _ _).length ≤ 1000
    rw [List.length_map, h1]
    exact hsm.cd
  · exact Nat.zero_le _
theorem sure_len {m : MxA} (hsm : MSm m) : (SureX m.pl).1.length ≤ 1000 := by
  unfold SureX
  split
  · show (List.map _ _).length ≤ 1000
    rw [List.length_map, List.length_range]
    exact hsm.cd
  · exact Nat.zero_le _
end Go.Hp
namespace Go.Proofs.YtlhdalcipflblaaDoor
open Go Go.Eng Go.Hp Go.Pw1

theorem rLost_calls (m : MxA) (hsm : MSm m) (hbx : m.bxs.length ≤ 12) (hti : ∀ B ∈ m.bxs, B.bx.titles.length ≤ 30) (hc4 : mixedX m.pl = true → m.cards.length ≤ 4) (W : World) (hM : MOk W m) : Calls Tryd.prog 28 #[m.v] W (Pure (.tuple #[.int .i64 (LostX m.pl).1.1, .int .i64 (LostX m.pl).1.2, .int .i64 (LostX m.pl).2]) W) := by
  by_cases hw : waysE m.pl = 0
  · obtain ⟨hX, h0⟩ := ways_ok hw
    obtain ⟨base, hbase⟩ : ∃ base, waysL (esX m).length (fsX m.pl) 0 = base := ⟨_, rfl⟩
    have hcn : cntX m.pl = (waysL (esX m).length (fsX m.pl) 0).length := cnt_ways _ _ _
    have hwl := waysO_len (m := m)
    obtain ⟨h4, h8, h12⟩ := mixed_ok hX
    have hbl := ways_bd h12 (show (fsX m.pl).length ≤ 4 by rw [fs_len]; exact hc4 hX) 0
    rw [hbase] at hcn hwl hbl
    obtain ⟨pL, hpL⟩ : ∃ p : Nat → Bool, p = fun e => decide (usedL (esX m).length (fsX m.pl) e = 0) := ⟨_, rfl⟩
    obtain ⟨pC, hpC⟩ : ∃ p : Nat → Bool, p = fun e => decide (usedL (esX m).length (fsX m.pl) e < cntX m.pl) := ⟨_, rfl⟩
    have hL : ∀ e, pL e = decide (usedL (esX m).length (fsX m.pl) e = 0) := fun e => by rw [hpL]
    have hC : ∀ e, pC e = decide (usedL (esX m).length (fsX m.pl) e < cntX m.pl) := fun e => by rw [hpC]
    have e : LostX m.pl = ((((setOf pL (esX m).length : Nat) : Int), ((setOf pC (esX m).length : Nat) : Int)), 0) := by unfold LostX; rw [if_pos hw, hpL, hpC]; rfl
    rw [e]
    clear hpL hpC e
    refine calls_start Tryd.func28 rfl rfl ?_
    refine RunC.seq ?_
    refine RunC.region ?_
    refine RunL.new (New.box rfl) rfl rfl rfl (fun b1 => ?_)
    iterate 3 refine RunL.val (Val.pure rfl) rfl rfl rfl ?_
    refine RunL.nil ?_
    refine RunE.next ?_
    refine RunC.seq ?_
    refine RunC.region ?_
    refine RunL.val (Val.load_agg rfl (.head _) ty_25 rfl) rfl rfl rfl ?_
    refine RunL.callNT (isCall_func rfl ent_56) rfl rfl rfl (fun w hm => ropen_ok m hsm (hc4 hX) hw base hbase w (hM.mono0 hm)) (fun z14 => ?_)
    obtain ⟨⟨x14, L14⟩, hG14⟩ := z14
    have hlen := hG14.len
    have hx14 := hG14.ok
    dsimp only at hlen hx14 ⊢
    iterate 5 refine RunL.val (Val.pure rfl) rfl rfl rfl ?_
    refine RunL.nil ?_
    refine RunE.next ?_
    refine RunC.seq ?_
    refine RunC.seq ?_
    refine RunC.region ?_
    refine RunL.val (Val.pure rfl) rfl rfl rfl ?_
    refine RunL.val (Val.pure rfl) rfl rfl rfl ?_
    refine RunL.nil ?_
    refine RunE.next ?_
    refine RunC.cond rfl (fun h => absurd h (by simp)) ?_
    intro c0
    clear c0
    refine RunC.skip ?_
    refine RunE.next ?_
    refine RunC.seq ?_
    refine RunC.region ?_
    refine RunL.val (Val.pure rfl) rfl rfl rfl ?_
    refine RunL.val (Val.pure rfl) rfl rfl rfl ?_
    refine RunL.nil ?_
    refine RunE.next ?_
    refine RunC.seq ?_
    refine RunC.seq ?_
    refine RunC.region ?_
    refine RunL.val (Val.pure rfl) rfl rfl rfl ?_
    refine RunL.nil ?_
    refine RunE.next ?_
    refine RunC.block ?_
    refine RunC.loopK ((esX m).length) (fun k q => (9, .int .i64 (k : Int)) :: (7, .int .i64 ((setOf pL k : Nat) : Int)) :: (8, .int .i64 ((setOf pC k : Nat) : Int)) :: q) (fun _ => _) (fun _ => []) (fun _ => True) trivial rfl (Sub.consE (t := 9) rfl rfl (Sub.consE (t := 7) rfl rfl (Sub.consE (t := 8) rfl rfl (Sub.cons (t := 1) rfl (Sub.cons (t := 5) rfl (Sub.nil _)))))) (.cons .here rfl (Pick.refl _)) ?_
    intro k kN kI
    clear kI
    refine RunC.seq ?_
    refine RunC.seq ?_
    refine RunC.region ?_
    refine RunL.val (Val.pure rfl) rfl rfl rfl ?_
    refine RunL.val (Val.load_agg rfl (.head _) ty_25 rfl) rfl rfl rfl ?_
    refine RunL.callN (isCall_func rfl ent_34) rfl rfl rfl (fun w hm => rEntries0_calls m hsm hbx hti w (hM.mono0 hm)) (fun b22 => ?_)
    refine RunL.val (Val.len_sl rfl sl_53) rfl rfl rfl ?_
    refine RunL.val (Val.pure rfl) rfl rfl rfl ?_
    refine RunL.nil ?_
    refine RunE.next ?_
    refine RunC.cond rfl ?_ ?_
    · intro c1
      have c1' := c1; clear c1
      try simp only [decide_eq_true_eq, decide_eq_false_iff_not, Bool.not_eq_true', Bool.not_eq_false', Bool.and_eq_true, Bool.or_eq_true, Bool.and_eq_false_iff, Bool.or_eq_false_iff, Int.not_le, Int.not_lt] at c1'
      have hk : k < (esX m).length := by omega
      have hlt := setOf_lt pL k
      have hlt2 := setOf_lt pC k
      have h2k : 2 ^ k < 2 ^ 12 := Nat.pow_lt_pow_right (by decide) (by omega)
      have hnu := noE_used hbase hk
      refine RunC.skip ?_
      refine RunE.next ?_
      refine RunC.seq ?_
      refine RunC.block ?_
      refine RunC.seq ?_
      refine RunC.region ?_
      refine RunL.val (Val.pure rfl) rfl rfl rfl ?_
      refine RunL.nil ?_
      refine RunE.next ?_
      refine RunC.seq ?_
      refine RunC.seq ?_
      refine RunC.region ?_
      refine RunL.val (Val.pure rfl) rfl rfl rfl ?_
      refine RunL.nil ?_
      refine RunE.next ?_
      refine RunC.block ?_
      refine RunC.loopK (base.length) (fun i q => (11, .int .i64 (i : Int)) :: (10, .int .i64 (((base.take i).countP (noE k) : Nat) : Int)) :: q) (fun _ => _) (fun _ => []) (fun _ => True) trivial rfl (Sub.consE (t := 11) rfl rfl (Sub.consE (t := 10) rfl rfl (Sub.cons (t := 1) rfl (Sub.cons (t := 5) rfl (Sub.cons (t := 7) rfl (Sub.cons (t := 8) rfl (Sub.cons (t := 9) rfl (Sub.nil _)))))))) (.cons .here rfl (Pick.refl _)) ?_
      intro i iN iI
      clear iI
      refine RunC.seq ?_
      refine RunC.seq ?_
      refine RunC.region ?_
      refine RunL.val (Val.pure rfl) rfl rfl rfl ?_
      refine RunL.val (Val.pure rfl) rfl rfl rfl ?_
      refine RunL.val (Val.len_sl rfl sl_86) rfl rfl rfl ?_
      refine RunL.val (Val.pure rfl) rfl rfl rfl ?_
      refine RunL.nil ?_
      refine RunE.next ?_
      refine RunC.cond rfl ?_ ?_
      · intro c2
        have c2' := c2; clear c2
        try simp only [decide_eq_true_eq, decide_eq_false_iff_not, Bool.not_eq_true', Bool.not_eq_false', Bool.and_eq_true, Bool.or_eq_true, Bool.and_eq_false_iff, Bool.or_eq_false_iff, Int.not_le, Int.not_lt] at c2'
        have hi : i < base.length := by omega
        obtain ⟨B, hBm, hk2, hBk, hBl⟩ := hG14.at hi
        dsimp only at hBm hk2 hBk
        have hBo := hG14.each B hBm
        have hBc : B.l.length = m.cards.length := by (rw [hBl]; exact hwl _ (List.getElem_mem hi))
        have hcle := List.countP_le_length (p := noE k) (l := base.take i)
        rw [List.length_take] at hcle
        have hcy := take_cnt (noE k) hi hBl.symm
        rw [show noE k B.l = !decide (k ∈ B.l) from rfl] at hcy
        refine RunC.skip ?_
        refine RunE.next ?_
        refine RunC.seq ?_
        refine RunC.block ?_
        refine RunC.seq ?_
        refine RunC.region ?_
        refine RunL.val (Val.pure rfl) rfl rfl rfl ?_
        refine RunL.val (Val.pure rfl) rfl rfl rfl ?_
        obtain ⟨bx14, cx14, rx14, rfl, lx141, lx142, lx143⟩ := hx14.has (by omega)
        refine RunL.val (Val.indexAddr_slp rfl rfl sl_86 (by omega) (by omega) rfl) rfl rfl rfl ?_
        refine RunL.val (Val.load_gen rfl (fun w hm => (Sl.rowsR (xs := L14.reverse.map WB.cells) (t := rx14) (hm.at (.tail _ (.head _))) (w_row L14)).loadM1 (by decide) (Mem.refl w) (by simp) ty_34 hk2 (v := .slice (ownQ B.x) B.l.length (ownC B.x)) (by rw [hBk]; rfl))) rfl rfl rfl ?_
        refine RunL.val (Val.pure rfl) rfl rfl rfl ?_
        refine RunL.callP (isCall_func rfl ent_58) rfl rfl rfl (fun w hm => rhas_calls B.l (by omega) k _ _ 0 _ w (ints_sl (l := natI B.l) (by rw [natI_len]; exact hBo) (fun b o h0 => by have h := wR_mem hBm h0; exact hm.at (.tail _ (.tail _ ((by first | exact List.mem_append_left _ h | exact List.mem_append_right _ (List.mem_append_left _ h)))))))) ?_
        refine RunL.val (Val.pure rfl) rfl rfl rfl ?_
        refine RunL.nil ?_
        refine RunE.next ?_
        refine RunC.cond rfl ?_ ?_
        · intro c3
          have c3' := c3; clear c3
          try simp only [decide_eq_true_eq, decide_eq_false_iff_not, Bool.not_eq_true', Bool.not_eq_false', Bool.and_eq_true, Bool.or_eq_true, Bool.and_eq_false_iff, Bool.or_eq_false_iff, Int.not_le, Int.not_lt] at c3'
          rw [if_pos (by simpa using c3')] at hcy
          refine RunC.region ?_
          refine RunL.val (Val.pure rfl) rfl rfl rfl ?_
          refine RunL.val (Val.add rfl rfl (IntWalk.i64_in _ ⟨by omega, by omega⟩)) rfl rfl rfl ?_
          refine RunL.val (Val.pure rfl) rfl rfl rfl ?_
          refine RunL.nil ?_
          refine RunE.block_normal ?_
          refine RunE.next ?_
          refine RunC.region ?_
          refine RunL.val (Val.pure rfl) rfl rfl rfl ?_
          refine RunL.val (Val.add rfl rfl (IntWalk.i64_in _ ⟨by omega, by omega⟩)) rfl rfl rfl ?_
          refine RunL.val (Val.pure rfl) rfl rfl rfl ?_
          refine RunL.nil ?_
          exact RunE.round (by omega) trivial rfl (Sub.consE (t := 11) rfl rfl (Sub.consE (t := 10) rfl (by rw [hcy]; rfl) (Sub.cons (t := 1) rfl (Sub.cons (t := 5) rfl (Sub.cons (t := 7) rfl (Sub.cons (t := 8) rfl (Sub.cons (t := 9) rfl (Sub.nil _)))))))) (.cons .here rfl (.cons .here rfl (Pick.refl _)))
        · intro c3
          have c3' := c3; clear c3
          try simp only [decide_eq_true_eq, decide_eq_false_iff_not, Bool.not_eq_true', Bool.not_eq_false', Bool.and_eq_true, Bool.or_eq_true, Bool.and_eq_false_iff, Bool.or_eq_false_iff, Int.not_le, Int.not_lt] at c3'
          rw [if_neg (by simpa using c3')] at hcy
          refine RunC.skip ?_
          refine RunE.block_normal ?_
          refine RunE.next ?_
          refine RunC.region ?_
          refine RunL.val (Val.pure rfl) rfl rfl rfl ?_
          refine RunL.val (Val.add rfl rfl (IntWalk.i64_in _ ⟨by omega, by omega⟩)) rfl rfl rfl ?_
          refine RunL.val (Val.pure rfl) rfl rfl rfl ?_
          refine RunL.nil ?_
          exact RunE.round (by omega) trivial rfl (Sub.consE (t := 11) rfl rfl (Sub.consE (t := 10) rfl (by rw [hcy]; rfl) (Sub.cons (t := 1) rfl (Sub.cons (t := 5) rfl (Sub.cons (t := 7) rfl (Sub.cons (t := 8) rfl (Sub.cons (t := 9) rfl (Sub.nil _)))))))) (.cons .here rfl (.cons .here rfl (Pick.refl _)))
      · intro c2
        have c2' := c2; clear c2
        try simp only [decide_eq_true_eq, decide_eq_false_iff_not, Bool.not_eq_true', Bool.not_eq_false', Bool.and_eq_true, Bool.or_eq_true, Bool.and_eq_false_iff, Bool.or_eq_false_iff, Int.not_le, Int.not_lt] at c2'
        obtain rfl : i = base.length := by omega
        rw [List.take_length]
        refine RunC.exit ?_
        refine RunE.pass_exit ?_
        refine RunE.pass_exit ?_
        refine RunE.block_here ?_
        refine RunE.next ?_
        refine RunC.seq ?_
        refine RunC.seq ?_
        refine RunC.region ?_
        refine RunL.val (Val.pure rfl) rfl rfl rfl ?_
        refine RunL.val (Val.pure rfl) rfl rfl rfl ?_
        refine RunL.val (Val.len_sl rfl sl_86) rfl rfl rfl ?_
        refine RunL.val (Val.pure rfl) rfl rfl rfl ?_
        refine RunL.nil ?_
        refine RunE.next ?_
        refine RunC.cond rfl ?_ ?_
        · intro c4
          have c4' := c4; clear c4
          try simp only [decide_eq_true_eq, decide_eq_false_iff_not, Bool.not_eq_true', Bool.not_eq_false', Bool.and_eq_true, Bool.or_eq_true, Bool.and_eq_false_iff, Bool.or_eq_false_iff, Int.not_le, Int.not_lt] at c4'
          have hl7 : setOf pL (k + 1) = setOf pL k + 2 ^ k := by rw [setOf_s, if_pos (by rw [hL]; exact decide_eq_true (by omega))]
          refine RunC.region ?_
          refine RunL.val (Val.pure rfl) rfl rfl rfl ?_
          refine RunL.val (Val.pure rfl) rfl rfl rfl ?_
          refine RunL.callP (isCall_func rfl ent_48) rfl rfl rfl (fun w hm => rpower_calls k (by omega) w) ?_
          refine RunL.val (Val.addN (a := setOf pL k) (b := 2 ^ k) (setOf pL k + 2 ^ k) rfl rfl rfl (i64_inN (by omega))) rfl rfl rfl ?_
          refine RunL.val (Val.pure rfl) rfl rfl rfl ?_
          refine RunL.nil ?_
          refine RunE.next ?_
          refine RunC.seq ?_
          refine RunC.region ?_
          refine RunL.val (Val.pure rfl) rfl rfl rfl ?_
          refine RunL.val (Val.pure rfl) rfl rfl rfl ?_
          refine RunL.nil ?_
          refine RunE.next ?_
          refine RunC.cond rfl ?_ ?_
          · intro c5
            have c5' := c5; clear c5
            try simp only [decide_eq_true_eq, decide_eq_false_iff_not, Bool.not_eq_true', Bool.not_eq_false', Bool.and_eq_true, Bool.or_eq_true, Bool.and_eq_false_iff, Bool.or_eq_false_iff, Int.not_le, Int.not_lt] at c5'
            have hl8 : setOf pC (k + 1) = setOf pC k + 2 ^ k := by rw [setOf_s, if_pos (by rw [hC]; exact decide_eq_true (by omega))]
            refine RunC.region ?_
            refine RunL.val (Val.pure rfl) rfl rfl rfl ?_
            refine RunL.val (Val.pure rfl) rfl rfl rfl ?_
            refine RunL.callP (isCall_func rfl ent_48) rfl rfl rfl (fun w hm => rpower_calls k (by omega) w) ?_
            refine RunL.val (Val.addN (a := setOf pC k) (b := 2 ^ k) (setOf pC k + 2 ^ k) rfl rfl rfl (i64_inN (by omega))) rfl rfl rfl ?_
            refine RunL.val (Val.pure rfl) rfl rfl rfl ?_
            refine RunL.nil ?_
            refine RunE.block_normal ?_
            refine RunE.next ?_
            refine RunC.region ?_
            refine RunL.val (Val.pure rfl) rfl rfl rfl ?_
            refine RunL.val (Val.add rfl rfl (IntWalk.i64_in _ ⟨by omega, by omega⟩)) rfl rfl rfl ?_
            refine RunL.val (Val.pure rfl) rfl rfl rfl ?_
            refine RunL.nil ?_
            exact RunE.round (by omega) trivial rfl (Sub.consE (t := 9) rfl rfl (Sub.consE (t := 7) rfl (by rw [hl7]) (Sub.consE (t := 8) rfl (by rw [hl8]) (Sub.cons (t := 1) rfl (Sub.cons (t := 5) rfl (Sub.nil _)))))) (.cons .here rfl (Pick.refl _))
          · intro c5
            have c5' := c5; clear c5
            try simp only [decide_eq_true_eq, decide_eq_false_iff_not, Bool.not_eq_true', Bool.not_eq_false', Bool.and_eq_true, Bool.or_eq_true, Bool.and_eq_false_iff, Bool.or_eq_false_iff, Int.not_le, Int.not_lt] at c5'
            have hl8 : setOf pC (k + 1) = setOf pC k := by rw [setOf_s, if_neg (by rw [hC, decide_eq_true_eq]; omega)]
            refine RunC.skip ?_
            refine RunE.block_normal ?_
            refine RunE.next ?_
            refine RunC.region ?_
            refine RunL.val (Val.pure rfl) rfl rfl rfl ?_
            refine RunL.val (Val.add rfl rfl (IntWalk.i64_in _ ⟨by omega, by omega⟩)) rfl rfl rfl ?_
            refine RunL.val (Val.pure rfl) rfl rfl rfl ?_
            refine RunL.nil ?_
            exact RunE.round (by omega) trivial rfl (Sub.consE (t := 9) rfl rfl (Sub.consE (t := 7) rfl (by rw [hl7]) (Sub.consE (t := 8) rfl (by rw [hl8]) (Sub.cons (t := 1) rfl (Sub.cons (t := 5) rfl (Sub.nil _)))))) (.cons .here rfl (Pick.refl _))
        · intro c4
          have c4' := c4; clear c4
          try simp only [decide_eq_true_eq, decide_eq_false_iff_not, Bool.not_eq_true', Bool.not_eq_false', Bool.and_eq_true, Bool.or_eq_true, Bool.and_eq_false_iff, Bool.or_eq_false_iff, Int.not_le, Int.not_lt] at c4'
          have hl7 : setOf pL (k + 1) = setOf pL k := by rw [setOf_s, if_neg (by rw [hL, decide_eq_true_eq]; omega)]
          refine RunC.skip ?_
          refine RunE.next ?_
          refine RunC.seq ?_
          refine RunC.region ?_
          refine RunL.val (Val.pure rfl) rfl rfl rfl ?_
          refine RunL.val (Val.pure rfl) rfl rfl rfl ?_
          refine RunL.nil ?_
          refine RunE.next ?_
          refine RunC.cond rfl ?_ ?_
          · intro c5
            have c5' := c5; clear c5
            try simp only [decide_eq_true_eq, decide_eq_false_iff_not, Bool.not_eq_true', Bool.not_eq_false', Bool.and_eq_true, Bool.or_eq_true, Bool.and_eq_false_iff, Bool.or_eq_false_iff, Int.not_le, Int.not_lt] at c5'
            have hl8 : setOf pC (k + 1) = setOf pC k + 2 ^ k := by rw [setOf_s, if_pos (by rw [hC]; exact decide_eq_true (by omega))]
            refine RunC.region ?_
            refine RunL.val (Val.pure rfl) rfl rfl rfl ?_
            refine RunL.val (Val.pure rfl) rfl rfl rfl ?_
            refine RunL.callP (isCall_func rfl ent_48) rfl rfl rfl (fun w hm => rpower_calls k (by omega) w) ?_
            refine RunL.val (Val.addN (a := setOf pC k) (b := 2 ^ k) (setOf pC k + 2 ^ k) rfl rfl rfl (i64_inN (by omega))) rfl rfl rfl ?_
            refine RunL.val (Val.pure rfl) rfl rfl rfl ?_
            refine RunL.nil ?_
            refine RunE.block_normal ?_
            refine RunE.next ?_
            refine RunC.region ?_
            refine RunL.val (Val.pure rfl) rfl rfl rfl ?_
            refine RunL.val (Val.add rfl rfl (IntWalk.i64_in _ ⟨by omega, by omega⟩)) rfl rfl rfl ?_
            refine RunL.val (Val.pure rfl) rfl rfl rfl ?_
            refine RunL.nil ?_
            exact RunE.round (by omega) trivial rfl (Sub.consE (t := 9) rfl rfl (Sub.consE (t := 7) rfl (by rw [hl7]) (Sub.consE (t := 8) rfl (by rw [hl8]) (Sub.cons (t := 1) rfl (Sub.cons (t := 5) rfl (Sub.nil _)))))) (.cons .here rfl (Pick.refl _))
          · intro c5
            have c5' := c5; clear c5
            try simp only [decide_eq_true_eq, decide_eq_false_iff_not, Bool.not_eq_true', Bool.not_eq_false', Bool.and_eq_true, Bool.or_eq_true, Bool.and_eq_false_iff, Bool.or_eq_false_iff, Int.not_le, Int.not_lt] at c5'
            have hl8 : setOf pC (k + 1) = setOf pC k := by rw [setOf_s, if_neg (by rw [hC, decide_eq_true_eq]; omega)]
            refine RunC.skip ?_
            refine RunE.block_normal ?_
            refine RunE.next ?_
            refine RunC.region ?_
            refine RunL.val (Val.pure rfl) rfl rfl rfl ?_
            refine RunL.val (Val.add rfl rfl (IntWalk.i64_in _ ⟨by omega, by omega⟩)) rfl rfl rfl ?_
            refine RunL.val (Val.pure rfl) rfl rfl rfl ?_
            refine RunL.nil ?_
            exact RunE.round (by omega) trivial rfl (Sub.consE (t := 9) rfl rfl (Sub.consE (t := 7) rfl (by rw [hl7]) (Sub.consE (t := 8) rfl (by rw [hl8]) (Sub.cons (t := 1) rfl (Sub.cons (t := 5) rfl (Sub.nil _)))))) (.cons .here rfl (Pick.refl _))
    · intro c1
      have c1' := c1; clear c1
      try simp only [decide_eq_true_eq, decide_eq_false_iff_not, Bool.not_eq_true', Bool.not_eq_false', Bool.and_eq_true, Bool.or_eq_true, Bool.and_eq_false_iff, Bool.or_eq_false_iff, Int.not_le, Int.not_lt] at c1'
      obtain rfl : k = (esX m).length := by omega
      refine RunC.exit ?_
      refine RunE.pass_exit ?_
      refine RunE.pass_exit ?_
      refine RunE.block_here ?_
      refine RunE.next ?_
      refine RunC.seq ?_
      refine RunC.region ?_
      iterate 5 refine RunL.val (Val.pure rfl) rfl rfl rfl ?_
      refine RunL.nil ?_
      refine RunE.next ?_
      refine RunC.ret ?_
      exact RunE.retP (.r3 rfl (.tmp rfl) (.tmp rfl) (.tmp rfl)) (by first | rfl | simp)
  · have e : LostX m.pl = ((0, 0), waysE m.pl) := by unfold LostX; rw [if_neg hw]
    rw [e]
    refine calls_start Tryd.func28 rfl rfl ?_
    refine RunC.seq ?_
    refine RunC.region ?_
    refine RunL.new (New.box rfl) rfl rfl rfl (fun b1 => ?_)
    iterate 3 refine RunL.val (Val.pure rfl) rfl rfl rfl ?_
    refine RunL.nil ?_
    refine RunE.next ?_
    refine RunC.seq ?_
    refine RunC.region ?_
    refine RunL.val (Val.load_agg rfl (.head _) ty_25 rfl) rfl rfl rfl ?_
    refine RunL.callP (isCall_func rfl ent_56) rfl rfl rfl (fun w hm => ropen_err m hsm hc4 hw w (hM.mono0 hm)) ?_
    iterate 5 refine RunL.val (Val.pure rfl) rfl rfl rfl ?_
    refine RunL.nil ?_
    refine RunE.next ?_
    refine RunC.seq ?_
    refine RunC.seq ?_
    refine RunC.region ?_
    refine RunL.val (Val.pure rfl) rfl rfl rfl ?_
    refine RunL.val (Val.pure rfl) rfl rfl rfl ?_
    refine RunL.nil ?_
    refine RunE.next ?_
    refine RunC.cond rfl ?_ (fun h => absurd h (by simpa using hw))
    intro c0
    clear c0
    refine RunC.seq ?_
    refine RunC.region ?_
    iterate 4 refine RunL.val (Val.pure rfl) rfl rfl rfl ?_
    refine RunL.nil ?_
    refine RunE.next ?_
    refine RunC.ret ?_
    refine RunE.pass_ret ?_
    exact RunE.retP (.r3 rfl (.tmp rfl) (.tmp rfl) (.tmp rfl)) rfl
theorem heavy_calls (m : MxA) (hsm : MSm m) (n : Nat) (W : World) (hM : MOk W m) : Calls Tryd.prog 18 #[m.v, .int .i64 (n : Int)] W (Pure (.bool (decide (n < m.cards.length) && mixedX m.pl)) W) := by
  refine calls_start Tryd.func18 rfl rfl ?_
  refine RunC.seq ?_
  refine RunC.region ?_
  refine RunL.new (New.box rfl) rfl rfl rfl (fun b2 => ?_)
  refine RunL.val (Val.pure rfl) rfl rfl rfl ?_
  refine RunL.nil ?_
  refine RunE.next ?_
  refine RunC.seq ?_
  refine RunC.region ?_
  refine RunL.val (Val.fieldAddr rfl fld_25_1) rfl rfl rfl ?_
  refine RunL.val (Val.load_one rfl (.head _) ty_23 rfl) rfl rfl rfl ?_
  refine RunL.val (Val.len_sl rfl sl_23) rfl rfl rfl ?_
  iterate 3 refine RunL.val (Val.pure rfl) rfl rfl rfl ?_
  refine RunL.andPart (dj := 10) (dp := 13) 3 rfl (fun g10 => by
    have g10' := g10
    try simp only [decide_eq_true_eq, decide_eq_false_iff_not, Bool.not_eq_true', Bool.not_eq_false', Bool.and_eq_true, Bool.or_eq_true, Bool.and_eq_false_iff, Bool.or_eq_false_iff, Int.not_le, Int.not_lt] at g10'
    refine RunL.val (Val.load_agg rfl (.head _) ty_25 rfl) rfl rfl rfl ?_
    refine RunL.callP (isCall_func rfl ent_33) rfl rfl rfl (fun w hm => rMixed_calls m hsm w (hM.mono0 hm)) ?_
    refine RunL.val (Val.pure rfl) rfl rfl rfl ?_
    exact RunL.segEnd (Sub.cons rfl (Sub.skip rfl (Sub.skip rfl (Sub.skip rfl (Sub.same rfl (by rw [g10]) (Sub.refl _)))))) (List.Sublist.refl _)
  ) (fun g10 => by
    have g10' := g10
    try simp only [decide_eq_true_eq, decide_eq_false_iff_not, Bool.not_eq_true', Bool.not_eq_false', Bool.and_eq_true, Bool.or_eq_true, Bool.and_eq_false_iff, Bool.or_eq_false_iff, Int.not_le, Int.not_lt] at g10'
    refine RunL.no rfl rfl rfl ?_
    refine RunL.no rfl rfl rfl ?_
    refine RunL.val (Val.pure rfl) rfl rfl rfl ?_
    exact RunL.segEnd (Sub.cons rfl (Sub.skip rfl (Sub.skip rfl (Sub.skip rfl (Sub.same rfl (by rw [g10]) (Sub.refl _)))))) (List.Sublist.refl _)
  ) ?_
  refine RunL.val (Val.pure rfl) rfl rfl rfl ?_
  refine RunL.nil ?_
  refine RunE.next ?_
  refine RunC.ret ?_
  exact RunE.retP (.r1 rfl (.tmp rfl)) (by simp)
theorem first_any (m : MxA) (hsm : MSm m) (W : World) (hM : MOk W m) : Calls Tryd.prog 23 #[m.v] W
    (News (fun z : IO (FirstX m.pl).1 => .tuple #[.slice (ownQ z.1) (FirstX m.pl).1.length (ownC z.1), .int .i64 (FirstX m.pl).2]) (fun z => ownB 3 z.1 (intsW (FirstX m.pl).1).flatten ++ []) W) := by
  by_cases hw : waysE m.pl = 0
  · have h1 := first_calls m hsm W hM hw
    refine calls_mono h1 ?_
    rintro ed w' ⟨z, rfl, hm⟩
    have e2 : (FirstX m.pl).2 = 0 := by unfold FirstX; rw [if_pos hw]
    exact ⟨z, by show Ending.returned (.tuple #[ownV z.1 _, .int .i64 0]) = _; rw [ownV_slice z.2, e2], hm⟩
  · have h1 := first_err m hsm W hM hw
    have e1 : FirstX m.pl = ([], waysE m.pl) := by unfold FirstX; rw [if_neg hw]
    rw [e1]
    refine calls_mono h1 ?_
    rintro ed w' ⟨rfl, hm⟩
    exact ⟨⟨none, OwnOk.start⟩, rfl, hm⟩
theorem sure_anyW (m : MxA) (hsm : MSm m) (W : World) (hM : MOk W m) : Calls Tryd.prog 25 #[m.v] W
    (News (fun z : IO (SureX m.pl).1 => .tuple #[.slice (ownQ z.1) (SureX m.pl).1.length (ownC z.1), .int .i64 (SureX m.pl).2]) (fun z => ownB 3 z.1 (intsW (SureX m.pl).1).flatten ++ []) W) := by
  by_cases hw : waysE m.pl = 0
  · have h1 := sure_calls m hsm W hM hw
    refine calls_mono h1 ?_
    rintro ed w' ⟨z, rfl, hm⟩
    have e2 : (SureX m.pl).2 = 0 := by unfold SureX; rw [if_pos hw]
    exact ⟨z, by show Ending.returned (.tuple #[ownV z.1 _, .int .i64 0]) = _; rw [ownV_slice z.2, e2], hm⟩
  · have h1 := sure_err m hsm W hM hw
    have e1 : SureX m.pl = ([], waysE m.pl) := by unfold SureX; rw [if_neg hw]
    rw [e1]
    refine calls_mono h1 ?_
    rintro ed w' ⟨rfl, hm⟩
    exact ⟨⟨none, OwnOk.start⟩, rfl, hm⟩
theorem hways_calls (m : MxA) (c e : Int) (W : World) (hM : MOk W m) : Calls Tryd.prog 4 #[m.v, .int .i64 c, .int .i64 e] W (Pure (.bool true) W) := by
  cases hf : farX m.pl with
  | true =>
    refine calls_start Tryd.func4 rfl rfl ?_
    refine RunC.seq ?_
    refine RunC.region ?_
    refine RunL.new (New.box rfl) rfl rfl rfl (fun b3 => ?_)
    refine RunL.val (Val.pure rfl) rfl rfl rfl ?_
    refine RunL.nil ?_
    refine RunE.next ?_
    refine RunC.seq ?_
    refine RunC.seq ?_
    refine RunC.region ?_
    refine RunL.val (Val.load_agg rfl (.head _) ty_25 rfl) rfl rfl rfl ?_
    refine RunL.callP (isCall_func rfl ent_12) rfl rfl rfl (fun w hm => far_calls m w (hM.mono0 hm)) ?_
    refine RunL.val (Val.pure rfl) rfl rfl rfl ?_
    refine RunL.sure (dj := 31) true rfl hf ?_
    refine RunL.no rfl rfl rfl ?_
    refine RunL.no rfl rfl rfl ?_
    refine RunL.val (Val.pure rfl) rfl rfl rfl ?_
    refine RunL.nil ?_
    refine RunE.next ?_
    refine RunC.cond rfl ?_ (fun h => absurd h (by simp [hf]))
    intro c0
    clear c0
    refine RunC.seq ?_
    refine RunC.region ?_
    refine RunL.callP (isCall_func rfl ent_13) rfl rfl rfl (fun w hm => hawake_calls w) ?_
    refine RunL.val (Val.pure rfl) rfl rfl rfl ?_
    refine RunL.nil ?_
    refine RunE.next ?_
    refine RunC.ret ?_
    refine RunE.pass_ret ?_
    exact RunE.retP (.r1 rfl (.tmp rfl)) (by first | rfl | simp)
  | false =>
    have hsm := far_sm hf
    have hb := far_bd hf
    have hti : ∀ B ∈ m.bxs, B.bx.titles.length ≤ 30 := far_ti hf
    cases hv : decide (4 < m.cards.length) && mixedX m.pl with
    | true =>
      refine calls_start Tryd.func4 rfl rfl ?_
      refine RunC.seq ?_
      refine RunC.region ?_
      refine RunL.new (New.box rfl) rfl rfl rfl (fun b3 => ?_)
      refine RunL.val (Val.pure rfl) rfl rfl rfl ?_
      refine RunL.nil ?_
      refine RunE.next ?_
      refine RunC.seq ?_
      refine RunC.seq ?_
      refine RunC.region ?_
      refine RunL.val (Val.load_agg rfl (.head _) ty_25 rfl) rfl rfl rfl ?_
      refine RunL.callP (isCall_func rfl ent_12) rfl rfl rfl (fun w hm => far_calls m w (hM.mono0 hm)) ?_
      refine RunL.val (Val.pure rfl) rfl rfl rfl ?_
      refine RunL.sure (dj := 31) false rfl hf ?_
      refine RunL.val (Val.load_agg rfl (.head _) ty_25 rfl) rfl rfl rfl ?_
      refine RunL.callP (isCall_func rfl ent_18) rfl rfl rfl (fun w hm => heavy_calls m hsm 4 w (hM.mono0 hm)) ?_
      refine RunL.val (Val.pure rfl) rfl rfl rfl ?_
      refine RunL.nil ?_
      refine RunE.next ?_
      refine RunC.cond rfl ?_ (fun h => absurd h (by simp [hf, hv]))
      intro c0
      clear c0
      refine RunC.seq ?_
      refine RunC.region ?_
      refine RunL.callP (isCall_func rfl ent_13) rfl rfl rfl (fun w hm => hawake_calls w) ?_
      refine RunL.val (Val.pure rfl) rfl rfl rfl ?_
      refine RunL.nil ?_
      refine RunE.next ?_
      refine RunC.ret ?_
      refine RunE.pass_ret ?_
      exact RunE.retP (.r1 rfl (.tmp rfl)) (by first | rfl | simp)
    | false =>
      have hc4 : mixedX m.pl = true → m.cards.length ≤ 4 := fun h => by rw [h, Bool.and_true, decide_eq_false_iff_not] at hv; omega
      obtain ⟨F, hF⟩ : ∃ F, FirstX m.pl = F := ⟨_, rfl⟩
      obtain ⟨S, hS⟩ : ∃ S, SureX m.pl = S := ⟨_, rfl⟩
      have hFl : F.1.length ≤ 1000 := by rw [← hF]; exact first_len hsm
      have hSl : S.1.length ≤ 1000 := by rw [← hS]; exact sure_len hsm
      have c1 := fun w h => first_any m hsm w h
      have c2 := fun w h => rFirst_any m hsm hc4 w h
      have c3 := fun w h => sure_anyW m hsm w h
      have c4 := fun w h => rSure_any m hsm hc4 w h
      rw [hF] at c1 c2
      rw [hS] at c3 c4
      refine calls_start Tryd.func4 rfl rfl ?_
      refine RunC.seq ?_
      refine RunC.region ?_
      refine RunL.new (New.box rfl) rfl rfl rfl (fun b3 => ?_)
      refine RunL.val (Val.pure rfl) rfl rfl rfl ?_
      refine RunL.nil ?_
      refine RunE.next ?_
      refine RunC.seq ?_
      refine RunC.seq ?_
      refine RunC.region ?_
      refine RunL.val (Val.load_agg rfl (.head _) ty_25 rfl) rfl rfl rfl ?_
      refine RunL.callP (isCall_func rfl ent_12) rfl rfl rfl (fun w hm => far_calls m w (hM.mono0 hm)) ?_
      refine RunL.val (Val.pure rfl) rfl rfl rfl ?_
      refine RunL.sure (dj := 31) false rfl hf ?_
      refine RunL.val (Val.load_agg rfl (.head _) ty_25 rfl) rfl rfl rfl ?_
      refine RunL.callP (isCall_func rfl ent_18) rfl rfl rfl (fun w hm => heavy_calls m hsm 4 w (hM.mono0 hm)) ?_
      refine RunL.val (Val.pure rfl) rfl rfl rfl ?_
      refine RunL.nil ?_
      refine RunE.next ?_
      refine RunC.cond rfl (fun h => absurd h (by simp [hf, hv])) ?_
      intro c0
      clear c0
      refine RunC.skip ?_
      refine RunE.next ?_
      refine RunC.seq ?_
      refine RunC.region ?_
      refine RunL.val (Val.load_agg rfl (.head _) ty_25 rfl) rfl rfl rfl ?_
      refine RunL.callP (isCall_func rfl ent_19) rfl rfl rfl (fun w hm => counth_calls m hsm w (hM.mono0 hm)) ?_
      iterate 5 refine RunL.val (Val.pure rfl) rfl rfl rfl ?_
      refine RunL.nil ?_
      refine RunE.next ?_
      refine RunC.seq ?_
      refine RunC.region ?_
      refine RunL.val (Val.load_agg rfl (.head _) ty_25 rfl) rfl rfl rfl ?_
      refine RunL.callP (isCall_func rfl ent_20) rfl rfl rfl (fun w hm => rCount_calls m hsm hc4 w (hM.mono0 hm)) ?_
      iterate 5 refine RunL.val (Val.pure rfl) rfl rfl rfl ?_
      refine RunL.nil ?_
      refine RunE.next ?_
      refine RunC.seq ?_
      refine RunC.region ?_
      refine RunL.val (Val.load_agg rfl (.head _) ty_25 rfl) rfl rfl rfl ?_
      refine RunL.val (Val.pure rfl) rfl rfl rfl ?_
      refine RunL.val (Val.pure rfl) rfl rfl rfl ?_
      refine RunL.callP (isCall_func rfl ent_21) rfl rfl rfl (fun w hm => shareh_calls m hsm c e w (hM.mono0 hm)) ?_
      iterate 5 refine RunL.val (Val.pure rfl) rfl rfl rfl ?_
      refine RunL.nil ?_
      refine RunE.next ?_
      refine RunC.seq ?_
      refine RunC.region ?_
      refine RunL.val (Val.load_agg rfl (.head _) ty_25 rfl) rfl rfl rfl ?_
      refine RunL.val (Val.pure rfl) rfl rfl rfl ?_
      refine RunL.val (Val.pure rfl) rfl rfl rfl ?_
      refine RunL.callP (isCall_func rfl ent_22) rfl rfl rfl (fun w hm => rShare_calls m hsm hb.2 hb.1 hti hc4 c e w (hM.mono0 hm)) ?_
      iterate 5 refine RunL.val (Val.pure rfl) rfl rfl rfl ?_
      refine RunL.nil ?_
      refine RunE.next ?_
      refine RunC.seq ?_
      refine RunC.region ?_
      refine RunL.val (Val.load_agg rfl (.head _) ty_25 rfl) rfl rfl rfl ?_
      refine RunL.callNT (isCall_func rfl ent_23) rfl rfl rfl (fun w hm => c1 w (hM.mono0 hm)) (fun z62 => ?_)
      obtain ⟨x62, hx62⟩ := z62
      dsimp only
      iterate 5 refine RunL.val (Val.pure rfl) rfl rfl rfl ?_
      refine RunL.nil ?_
      refine RunE.next ?_
      refine RunC.seq ?_
      refine RunC.region ?_
      refine RunL.val (Val.load_agg rfl (.head _) ty_25 rfl) rfl rfl rfl ?_
      refine RunL.callNA [(b3, _)] _ rfl (isCall_func rfl ent_24) rfl rfl rfl (fun w hm => c2 w (hM.mono0 hm)) (fun z67 => ?_)
      obtain ⟨x67, hx67⟩ := z67
      dsimp only
      iterate 5 refine RunL.val (Val.pure rfl) rfl rfl rfl ?_
      refine RunL.nil ?_
      refine RunE.next ?_
      refine RunC.seq ?_
      refine RunC.region ?_
      refine RunL.val (Val.load_agg rfl (.head _) ty_25 rfl) rfl rfl rfl ?_
      refine RunL.callNA [(b3, _)] _ rfl (isCall_func rfl ent_25) rfl rfl rfl (fun w hm => c3 w (hM.mono0 hm)) (fun z72 => ?_)
      obtain ⟨x72, hx72⟩ := z72
      dsimp only
      iterate 5 refine RunL.val (Val.pure rfl) rfl rfl rfl ?_
      refine RunL.nil ?_
      refine RunE.next ?_
      refine RunC.seq ?_
      refine RunC.region ?_
      refine RunL.val (Val.load_agg rfl (.head _) ty_25 rfl) rfl rfl rfl ?_
      refine RunL.callNA [(b3, _)] _ rfl (isCall_func rfl ent_26) rfl rfl rfl (fun w hm => c4 w (hM.mono0 hm)) (fun z77 => ?_)
      obtain ⟨x77, hx77⟩ := z77
      dsimp only
      iterate 5 refine RunL.val (Val.pure rfl) rfl rfl rfl ?_
      refine RunL.nil ?_
      refine RunE.next ?_
      refine RunC.seq ?_
      refine RunC.region ?_
      refine RunL.val (Val.load_agg rfl (.head _) ty_25 rfl) rfl rfl rfl ?_
      refine RunL.callP (isCall_func rfl ent_27) rfl rfl rfl (fun w hm => lost_calls m hsm w (hM.mono0 hm)) ?_
      iterate 7 refine RunL.val (Val.pure rfl) rfl rfl rfl ?_
      refine RunL.nil ?_
      refine RunE.next ?_
      refine RunC.seq ?_
      refine RunC.region ?_
      refine RunL.val (Val.load_agg rfl (.head _) ty_25 rfl) rfl rfl rfl ?_
      refine RunL.callP (isCall_func rfl ent_28) rfl rfl rfl (fun w hm => rLost_calls m hsm hb.1 hti hc4 w (hM.mono0 hm)) ?_
      iterate 7 refine RunL.val (Val.pure rfl) rfl rfl rfl ?_
      refine RunL.nil ?_
      refine RunE.next ?_
      refine RunC.seq ?_
      refine RunC.region ?_
      iterate 4 refine RunL.val (Val.pure rfl) rfl rfl rfl ?_
      refine RunL.sure (dj := 95) true rfl (by simp) ?_
      iterate 5 refine RunL.val (Val.pure rfl) rfl rfl rfl ?_
      refine RunL.sure (dj := 100) true rfl (by simp) ?_
      iterate 5 refine RunL.val (Val.pure rfl) rfl rfl rfl ?_
      refine RunL.sure (dj := 105) true rfl (by simp) ?_
      iterate 5 refine RunL.val (Val.pure rfl) rfl rfl rfl ?_
      refine RunL.sure (dj := 110) true rfl (by simp) ?_
      refine RunL.val (Val.pure rfl) rfl rfl rfl ?_
      refine RunL.val (Val.pure rfl) rfl rfl rfl ?_
      refine RunL.callP (isCall_func rfl ent_29) rfl rfl rfl (fun w hm => rInts_calls F.1 F.1 _ _ 0 _ _ _ 0 _ hFl hFl w (ints_sl hx62 (fun b o h => hm.at (.tail _ ((by first | exact List.mem_append_right _ (List.mem_append_right _ (List.mem_append_right _ (List.mem_append_left _ h))) | exact List.mem_append_right _ (List.mem_append_right _ (List.mem_append_right _ (List.mem_append_right _ (List.mem_append_left _ h))))))))) (ints_sl hx67 (fun b o h => hm.at (.tail _ ((by first | exact List.mem_append_right _ (List.mem_append_right _ (List.mem_append_left _ h)) | exact List.mem_append_right _ (List.mem_append_right _ (List.mem_append_right _ (List.mem_append_left _ h))))))))) ?_
      refine RunL.val (Val.pure rfl) rfl rfl rfl ?_
      refine RunL.val (Val.pure rfl) rfl rfl rfl ?_
      refine RunL.sure (dj := 115) true rfl (by simp) ?_
      iterate 5 refine RunL.val (Val.pure rfl) rfl rfl rfl ?_
      refine RunL.sure (dj := 120) true rfl (by simp) ?_
      refine RunL.val (Val.pure rfl) rfl rfl rfl ?_
      refine RunL.val (Val.pure rfl) rfl rfl rfl ?_
      refine RunL.callP (isCall_func rfl ent_29) rfl rfl rfl (fun w hm => rInts_calls S.1 S.1 _ _ 0 _ _ _ 0 _ hSl hSl w (ints_sl hx72 (fun b o h => hm.at (.tail _ ((by first | exact List.mem_append_right _ (List.mem_append_left _ h) | exact List.mem_append_right _ (List.mem_append_right _ (List.mem_append_left _ h))))))) (ints_sl hx77 (fun b o h => hm.at (.tail _ ((by first | exact List.mem_append_left _ h | exact List.mem_append_right _ (List.mem_append_left _ h))))))) ?_
      refine RunL.val (Val.pure rfl) rfl rfl rfl ?_
      refine RunL.val (Val.pure rfl) rfl rfl rfl ?_
      refine RunL.sure (dj := 125) true rfl (by simp) ?_
      iterate 5 refine RunL.val (Val.pure rfl) rfl rfl rfl ?_
      refine RunL.sure (dj := 130) true rfl (by simp) ?_
      iterate 5 refine RunL.val (Val.pure rfl) rfl rfl rfl ?_
      refine RunL.sure (dj := 135) true rfl (by simp) ?_
      iterate 5 refine RunL.val (Val.pure rfl) rfl rfl rfl ?_
      refine RunL.sure (dj := 140) true rfl (by simp) ?_
      iterate 5 refine RunL.val (Val.pure rfl) rfl rfl rfl ?_
      refine RunL.sure (dj := 145) true rfl (by simp) ?_
      refine RunL.callP (isCall_func rfl ent_13) rfl rfl rfl (fun w hm => hawake_calls w) ?_
      refine RunL.val (Val.pure rfl) rfl rfl rfl ?_
      refine RunL.val (Val.pure rfl) rfl rfl rfl ?_
      refine RunL.nil ?_
      refine RunE.next ?_
      refine RunC.ret ?_
      exact RunE.retP (.r1 rfl (.tmp rfl)) (by first | rfl | simp)
end Go.Proofs.YtlhdalcipflblaaDoor
