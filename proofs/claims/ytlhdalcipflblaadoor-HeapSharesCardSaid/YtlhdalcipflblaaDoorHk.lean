/- Walks of package heap: Lost. -/
import Derived.Test.YtlhdalcipflblaaDoorHj
import Derived.Test.YtlhdalcipflblaaDoorHy6
set_option linter.unusedSimpArgs false
set_option linter.unusedVariables false
namespace Go.Hp
open Go Go.Eng Go.Pw1
theorem ways_ok {m : Mx} (hw : waysE m = 0) : mixedX m = true ∧ cntX m ≠ 0 := by
  have hX : mixedX m = true := by
    cases h : mixedX m with
    | true => rfl
    | false => unfold waysE at hw; rw [h] at hw; cases hw
  exact ⟨hX, fun h => by
    unfold waysE at hw
    rw [if_pos hX, if_pos h] at hw
    cases hw⟩
def usum (ne : Nat) (fs : List Nat) (e j : Nat) : Nat := ((List.range j).map fun c => shareL ne fs c e).sum
theorem usum_s (ne : Nat) (fs : List Nat) (e j : Nat) : usum ne fs e (j + 1) = usum ne fs e j + shareL ne fs j e := by
  unfold usum
  rw [List.range_succ, List.map_append, List.sum_append]
  simp
theorem share_bd {ne : Nat} {fs : List Nat} (h1 : ne ≤ 12) (h2 : fs.length ≤ 8) (c e : Nat) : shareL ne fs c e ≤ 429981696 := cnt_bd h1 (by rw [setC_len]; exact h2) 0
theorem usum_le {ne : Nat} {fs : List Nat} {B : Nat} (hB : ∀ c e, shareL ne fs c e ≤ B) (e j : Nat) : usum ne fs e j ≤ j * B := by
  induction j with
  | zero => simp [usum]
  | succ j ih =>
    have b := hB j e
    rw [usum_s, Nat.succ_mul]
    omega
theorem usum_all (ne : Nat) (fs : List Nat) (e : Nat) : usum ne fs e fs.length = usedL ne fs e := rfl
end Go.Hp
namespace Go.Proofs.YtlhdalcipflblaaDoor
open Go Go.Eng Go.Hp Go.Pw1

theorem lost_calls (m : MxA) (hsm : MSm m) (W : World) (hM : MOk W m) : Calls Tryd.prog 27 #[m.v] W (Pure (.tuple #[.int .i64 (LostX m.pl).1.1, .int .i64 (LostX m.pl).1.2, .int .i64 (LostX m.pl).2]) W) := by
  by_cases hw : waysE m.pl = 0
  · obtain ⟨hX, h0⟩ := ways_ok hw
    obtain ⟨h4, h8, h12⟩ := mixed_ok hX
    have hfl := fs_len m
    have hcs := cnt_small m hX
    have e : LostX m.pl = (((lostX m.pl : Int), (canX m.pl : Int)), 0) := by unfold LostX; rw [if_pos hw]
    rw [e]
    have hall : cntL (esX m).length (fsX m.pl) 0 = cntX m.pl := rfl
    refine calls_start Tryd.func27 rfl rfl ?_
    refine RunC.seq ?_
    refine RunC.region ?_
    refine RunL.new (New.box rfl) rfl rfl rfl (fun b1 => ?_)
    iterate 3 refine RunL.val (Val.pure rfl) rfl rfl rfl ?_
    refine RunL.nil ?_
    refine RunE.next ?_
    refine RunC.seq ?_
    refine RunC.region ?_
    refine RunL.val (Val.load_agg rfl (.head _) ty_25 rfl) rfl rfl rfl ?_
    refine RunL.callNT (isCall_func rfl ent_55) rfl rfl rfl (fun w hm => ways_calls m hsm w (hM.mono0 hm) hw) (fun z12 => ?_)
    obtain ⟨⟨⟨bh12, bm12, x12, y12⟩, l12⟩, hx12, hy12, hg12⟩ := z12
    dsimp only
    iterate 5 refine RunL.val (Val.pure rfl) rfl rfl rfl ?_
    refine RunL.nil ?_
    refine RunE.next ?_
    refine RunC.seq ?_
    refine RunC.seq ?_
    refine RunC.region ?_
    refine RunL.val (Val.pure rfl) rfl rfl rfl ?_
    refine RunL.val (Val.pure rfl) rfl rfl rfl ?_
    refine RunL.nil ?_
    refine RunE.next ?_
    refine RunC.cond rfl (fun h => absurd h (by simp)) ?_
    intro c0
    clear c0
    refine RunC.skip ?_
    refine RunE.next ?_
    refine RunC.seq ?_
    refine RunC.region ?_
    refine RunL.val (Val.pure rfl) rfl rfl rfl ?_
    refine RunL.callN (isCall_func rfl ent_51) rfl rfl rfl (fun w hm => count0_calls bh12 w) (fun b19 => ?_)
    refine RunL.callZ (isCall_value rfl rfl ent_68) rfl rfl rfl (fun _ => (.there (.there (.there (.there .here))))) (fun w hm => on_calls (fsX m.pl).length 0 m (esX m).length _ _ (fsX m.pl) _ _ _ (by omega) 0 (by decide) l12 hg12 bh12 bm12 b19.1 b19.2 w (hp_at hX (hm.at (.tail _ (.tail _ (.tail _ (.head _))))) hy12 (fun b o h => hm.at (.tail _ (.tail _ (.tail _ (.tail _ (.tail _ ((by first | exact List.mem_append_left _ h | exact List.mem_append_right _ (List.mem_append_left _ h)))))))))) (hm.at (.tail _ (.tail _ (.tail _ (.tail _ (.head _)))))) (hm.at (.tail _ (.head _))) (hm.at (.head _))) (fun x20 hx20 => ?_)
    refine RunL.val (Val.pure rfl) rfl rfl rfl ?_
    refine RunL.nil ?_
    refine RunE.next ?_
    refine RunC.seq ?_
    refine RunC.seq ?_
    refine RunC.region ?_
    refine RunL.val (Val.pure rfl) rfl rfl rfl ?_
    refine RunL.val (Val.pure rfl) rfl rfl rfl ?_
    refine RunL.val (Val.fieldAddr rfl fld_73_1) rfl rfl rfl ?_
    refine RunL.val (Val.load_one rfl (.tail _ (.tail _ (.tail _ (.head _)))) ty_69 rfl) rfl rfl rfl ?_
    refine RunL.val (Val.len_sl rfl sl_69) rfl rfl rfl ?_
    refine RunL.val (Val.pure rfl) rfl rfl rfl ?_
    refine RunL.nil ?_
    refine RunE.next ?_
    refine RunC.block ?_
    refine RunC.loopK ((esX m).length) (fun k q => (26, .int .i64 (k : Int)) :: (2, .int .i64 ((setOf (fun e => decide (usedL (esX m).length (fsX m.pl) e = 0)) k : Nat) : Int)) :: (3, .int .i64 ((setOf (fun e => decide (usedL (esX m).length (fsX m.pl) e < cntX m.pl)) k : Nat) : Int)) :: q) (fun _ => _) (fun _ => []) (fun _ => True) trivial rfl (Sub.consE (t := 26) rfl rfl (Sub.consE (t := 2) rfl rfl (Sub.consE (t := 3) rfl rfl (Sub.cons (t := 5) rfl (Sub.cons (t := 6) rfl (Sub.cons (t := 25) rfl (Sub.nil _))))))) (.cons (.there (.there (.there .here))) rfl (.cons (.there (.there (.there .here))) rfl (Pick.skip (Pick.skip (Pick.skip (Pick.refl _)))))) ?_
    intro k kN kI
    clear kI
    refine RunC.seq ?_
    refine RunC.region ?_
    refine RunL.val (Val.pure rfl) rfl rfl rfl ?_
    refine RunL.nil ?_
    refine RunE.next ?_
    refine RunC.seq ?_
    refine RunC.cond rfl ?_ ?_
    · intro c1
      have c1' := c1; clear c1
      try simp only [decide_eq_true_eq, decide_eq_false_iff_not, Bool.not_eq_true', Bool.not_eq_false', Bool.and_eq_true, Bool.or_eq_true, Bool.and_eq_false_iff, Bool.or_eq_false_iff, Int.not_le, Int.not_lt] at c1'
      have hk : k < (esX m).length := by omega
      have hs3 := setOf_lt (fun e => decide (usedL (esX m).length (fsX m.pl) e = 0)) k
      have hs4 := setOf_lt (fun e => decide (usedL (esX m).length (fsX m.pl) e < cntX m.pl)) k
      have h2k : 2 ^ k < 2 ^ 12 := Nat.pow_lt_pow_right (by decide) (by omega)
      have ho3 : setOf (fun e => decide (usedL (esX m).length (fsX m.pl) e = 0)) k ||| 2 ^ k < 2 ^ 12 := Nat.or_lt_two_pow (by omega) h2k
      have ho4 : setOf (fun e => decide (usedL (esX m).length (fsX m.pl) e < cntX m.pl)) k ||| 2 ^ k < 2 ^ 12 := Nat.or_lt_two_pow (by omega) h2k
      refine RunC.skip ?_
      refine RunE.next ?_
      refine RunC.seq ?_
      refine RunC.block ?_
      refine RunC.seq ?_
      refine RunC.region ?_
      refine RunL.val (Val.pure rfl) rfl rfl rfl ?_
      refine RunL.val (Val.pure rfl) rfl rfl rfl ?_
      refine RunL.nil ?_
      refine RunE.next ?_
      refine RunC.seq ?_
      refine RunC.region ?_
      refine RunL.val (Val.pure rfl) rfl rfl rfl ?_
      refine RunL.nil ?_
      refine RunE.next ?_
      refine RunC.seq ?_
      refine RunC.seq ?_
      refine RunC.region ?_
      refine RunL.val (Val.pure rfl) rfl rfl rfl ?_
      refine RunL.val (Val.pure rfl) rfl rfl rfl ?_
      refine RunL.val (Val.fieldAddr rfl fld_73_0) rfl rfl rfl ?_
      refine RunL.val (Val.fieldAddr rfl fld_25_1) rfl rfl rfl ?_
      refine RunL.val (Val.load_one rfl (.head _) ty_23 rfl) rfl rfl rfl ?_
      refine RunL.val (Val.len_sl rfl sl_23) rfl rfl rfl ?_
      refine RunL.val (Val.pure rfl) rfl rfl rfl ?_
      refine RunL.nil ?_
      refine RunE.next ?_
      refine RunC.block ?_
      refine RunC.loopK (m.cards.length) (fun j q => (35, .int .i64 (j : Int)) :: (8, .int .i64 ((usum (esX m).length (fsX m.pl) k j : Nat) : Int)) :: q) (fun _ => _) (fun _ => []) (fun _ => True) trivial rfl (Sub.consE (t := 35) rfl rfl (Sub.consE (t := 8) rfl rfl (Sub.cons (t := 5) rfl (Sub.cons (t := 6) rfl (Sub.cons (t := 25) rfl (Sub.cons (t := 26) rfl (Sub.cons (t := 2) rfl (Sub.cons (t := 3) rfl (Sub.cons (t := 7) rfl (Sub.cons (t := 34) rfl (Sub.nil _))))))))))) (.cons .here rfl (.cons .here rfl (Pick.refl _))) ?_
      intro j jN jI
      clear jI
      refine RunC.seq ?_
      refine RunC.region ?_
      refine RunL.val (Val.pure rfl) rfl rfl rfl ?_
      refine RunL.nil ?_
      refine RunE.next ?_
      refine RunC.seq ?_
      refine RunC.cond rfl ?_ ?_
      · intro c2
        have c2' := c2; clear c2
        try simp only [decide_eq_true_eq, decide_eq_false_iff_not, Bool.not_eq_true', Bool.not_eq_false', Bool.and_eq_true, Bool.or_eq_true, Bool.and_eq_false_iff, Bool.or_eq_false_iff, Int.not_le, Int.not_lt] at c2'
        have hj : j < m.cards.length := by omega
        have hu := usum_le (share_bd h12 (by omega : (fsX m.pl).length ≤ 8)) k j
        have hsb := share_bd h12 (by omega : (fsX m.pl).length ≤ 8) j k
        refine RunC.skip ?_
        refine RunE.next ?_
        refine RunC.seq ?_
        refine RunC.block ?_
        refine RunC.seq ?_
        refine RunC.region ?_
        refine RunL.val (Val.pure rfl) rfl rfl rfl ?_
        refine RunL.val (Val.pure rfl) rfl rfl rfl ?_
        refine RunL.nil ?_
        refine RunE.next ?_
        refine RunC.region ?_
        iterate 4 refine RunL.val (Val.pure rfl) rfl rfl rfl ?_
        refine RunL.callP (isCall_func rfl ent_54) rfl rfl rfl (fun w hm => share_calls m (esX m).length _ _ (fsX m.pl) _ _ _ j k (by omega) hk bh12 bm12 w (hp_at hX (hm.at (.head _)) hy12 (fun b o h => hm.at (.tail _ (.tail _ ((by first | exact List.mem_append_left _ h | exact List.mem_append_right _ (List.mem_append_left _ h)))))))) ?_
        refine RunL.val (Val.addN (a := usum (esX m).length (fsX m.pl) k j) (b := shareL (esX m).length (fsX m.pl) j k) (usum (esX m).length (fsX m.pl) k j + shareL (esX m).length (fsX m.pl) j k) rfl rfl rfl (i64_inN (by omega))) rfl rfl rfl ?_
        refine RunL.val (Val.pure rfl) rfl rfl rfl ?_
        refine RunL.nil ?_
        refine RunE.block_normal ?_
        refine RunE.next ?_
        refine RunC.region ?_
        refine RunL.val (Val.add rfl rfl (IntWalk.i64_in _ ⟨by omega, by omega⟩)) rfl rfl rfl ?_
        refine RunL.val (Val.pure rfl) rfl rfl rfl ?_
        refine RunL.nil ?_
        exact RunE.round (by omega) trivial rfl (Sub.consE (t := 35) rfl rfl (Sub.consE (t := 8) rfl (by rw [usum_s]) (Sub.cons (t := 5) rfl (Sub.cons (t := 6) rfl (Sub.cons (t := 25) rfl (Sub.cons (t := 26) rfl (Sub.cons (t := 2) rfl (Sub.cons (t := 3) rfl (Sub.cons (t := 7) rfl (Sub.cons (t := 34) rfl (Sub.nil _))))))))))) (.cons .here rfl (.cons .here rfl (Pick.refl _)))
      · intro c2
        have c2' := c2; clear c2
        try simp only [decide_eq_true_eq, decide_eq_false_iff_not, Bool.not_eq_true', Bool.not_eq_false', Bool.and_eq_true, Bool.or_eq_true, Bool.and_eq_false_iff, Bool.or_eq_false_iff, Int.not_le, Int.not_lt] at c2'
        have hjn : j = (fsX m.pl).length := by omega
        have hu0 : usum (esX m).length (fsX m.pl) k j = usedL (esX m).length (fsX m.pl) k := by (rw [hjn, usum_all])
        rw [hu0]
        clear hu0
        refine RunC.exit ?_
        refine RunE.pass_exit ?_
        refine RunE.pass_exit ?_
        refine RunE.block_here ?_
        refine RunE.next ?_
        refine RunC.seq ?_
        refine RunC.seq ?_
        refine RunC.region ?_
        refine RunL.val (Val.pure rfl) rfl rfl rfl ?_
        refine RunL.val (Val.pure rfl) rfl rfl rfl ?_
        refine RunL.nil ?_
        refine RunE.next ?_
        refine RunC.cond rfl ?_ ?_
        · intro c3
          have c3' := c3; clear c3
          try simp only [decide_eq_true_eq, decide_eq_false_iff_not, Bool.not_eq_true', Bool.not_eq_false', Bool.and_eq_true, Bool.or_eq_true, Bool.and_eq_false_iff, Bool.or_eq_false_iff, Int.not_le, Int.not_lt] at c3'
          have q3 : setOf (fun e => decide (usedL (esX m).length (fsX m.pl) e = 0)) (k + 1) = setOf (fun e => decide (usedL (esX m).length (fsX m.pl) e = 0)) k ||| 2 ^ k := if_pos (by simpa using c3')
          refine RunC.region ?_
          refine RunL.val (Val.pure rfl) rfl rfl rfl ?_
          refine RunL.val (Val.pure rfl) rfl rfl rfl ?_
          refine RunL.val (Val.shl1 (b := k) rfl rfl (by show k ≤ 64; omega) (i64_inN (by omega))) rfl rfl rfl ?_
          refine RunL.val (Val.or (a := setOf (fun e => decide (usedL (esX m).length (fsX m.pl) e = 0)) k) (b := 2 ^ k) rfl rfl (by show _ < 18446744073709551616; omega) (by show _ < 18446744073709551616; omega) (i64_inN (by omega))) rfl rfl rfl ?_
          refine RunL.val (Val.pure rfl) rfl rfl rfl ?_
          refine RunL.nil ?_
          refine RunE.next ?_
          refine RunC.seq ?_
          refine RunC.region ?_
          iterate 3 refine RunL.val (Val.pure rfl) rfl rfl rfl ?_
          refine RunL.nil ?_
          refine RunE.next ?_
          refine RunC.cond rfl ?_ ?_
          · intro c4
            have c4' := c4; clear c4
            try simp only [decide_eq_true_eq, decide_eq_false_iff_not, Bool.not_eq_true', Bool.not_eq_false', Bool.and_eq_true, Bool.or_eq_true, Bool.and_eq_false_iff, Bool.or_eq_false_iff, Int.not_le, Int.not_lt] at c4'
            have q4 : setOf (fun e => decide (usedL (esX m).length (fsX m.pl) e < cntX m.pl)) (k + 1) = setOf (fun e => decide (usedL (esX m).length (fsX m.pl) e < cntX m.pl)) k ||| 2 ^ k := if_pos (by simpa [hall] using c4')
            refine RunC.region ?_
            refine RunL.val (Val.pure rfl) rfl rfl rfl ?_
            refine RunL.val (Val.pure rfl) rfl rfl rfl ?_
            refine RunL.val (Val.shl1 (b := k) rfl rfl (by show k ≤ 64; omega) (i64_inN (by omega))) rfl rfl rfl ?_
            refine RunL.val (Val.or (a := setOf (fun e => decide (usedL (esX m).length (fsX m.pl) e < cntX m.pl)) k) (b := 2 ^ k) rfl rfl (by show _ < 18446744073709551616; omega) (by show _ < 18446744073709551616; omega) (i64_inN (by omega))) rfl rfl rfl ?_
            refine RunL.val (Val.pure rfl) rfl rfl rfl ?_
            refine RunL.nil ?_
            refine RunE.block_normal ?_
            refine RunE.next ?_
            refine RunC.region ?_
            refine RunL.val (Val.add rfl rfl (IntWalk.i64_in _ ⟨by omega, by omega⟩)) rfl rfl rfl ?_
            refine RunL.val (Val.pure rfl) rfl rfl rfl ?_
            refine RunL.nil ?_
            exact RunE.round (by omega) trivial rfl (Sub.consE (t := 26) rfl rfl (Sub.consE (t := 2) rfl (by rw [q3]) (Sub.consE (t := 3) rfl (by rw [q4]) (Sub.cons (t := 5) rfl (Sub.cons (t := 6) rfl (Sub.cons (t := 25) rfl (Sub.nil _))))))) (.cons .here rfl (.cons .here rfl (Pick.refl _)))
          · intro c4
            have c4' := c4; clear c4
            try simp only [decide_eq_true_eq, decide_eq_false_iff_not, Bool.not_eq_true', Bool.not_eq_false', Bool.and_eq_true, Bool.or_eq_true, Bool.and_eq_false_iff, Bool.or_eq_false_iff, Int.not_le, Int.not_lt] at c4'
            have q4 : setOf (fun e => decide (usedL (esX m).length (fsX m.pl) e < cntX m.pl)) (k + 1) = setOf (fun e => decide (usedL (esX m).length (fsX m.pl) e < cntX m.pl)) k := if_neg (by simpa [hall] using c4')
            refine RunC.skip ?_
            refine RunE.block_normal ?_
            refine RunE.next ?_
            refine RunC.region ?_
            refine RunL.val (Val.add rfl rfl (IntWalk.i64_in _ ⟨by omega, by omega⟩)) rfl rfl rfl ?_
            refine RunL.val (Val.pure rfl) rfl rfl rfl ?_
            refine RunL.nil ?_
            exact RunE.round (by omega) trivial rfl (Sub.consE (t := 26) rfl rfl (Sub.consE (t := 2) rfl (by rw [q3]) (Sub.consE (t := 3) rfl (by rw [q4]) (Sub.cons (t := 5) rfl (Sub.cons (t := 6) rfl (Sub.cons (t := 25) rfl (Sub.nil _))))))) (.cons .here rfl (.cons .here rfl (Pick.refl _)))
        · intro c3
          have c3' := c3; clear c3
          try simp only [decide_eq_true_eq, decide_eq_false_iff_not, Bool.not_eq_true', Bool.not_eq_false', Bool.and_eq_true, Bool.or_eq_true, Bool.and_eq_false_iff, Bool.or_eq_false_iff, Int.not_le, Int.not_lt] at c3'
          have q3 : setOf (fun e => decide (usedL (esX m).length (fsX m.pl) e = 0)) (k + 1) = setOf (fun e => decide (usedL (esX m).length (fsX m.pl) e = 0)) k := if_neg (by simpa using c3')
          refine RunC.skip ?_
          refine RunE.next ?_
          refine RunC.seq ?_
          refine RunC.region ?_
          iterate 3 refine RunL.val (Val.pure rfl) rfl rfl rfl ?_
          refine RunL.nil ?_
          refine RunE.next ?_
          refine RunC.cond rfl ?_ ?_
          · intro c4
            have c4' := c4; clear c4
            try simp only [decide_eq_true_eq, decide_eq_false_iff_not, Bool.not_eq_true', Bool.not_eq_false', Bool.and_eq_true, Bool.or_eq_true, Bool.and_eq_false_iff, Bool.or_eq_false_iff, Int.not_le, Int.not_lt] at c4'
            have q4 : setOf (fun e => decide (usedL (esX m).length (fsX m.pl) e < cntX m.pl)) (k + 1) = setOf (fun e => decide (usedL (esX m).length (fsX m.pl) e < cntX m.pl)) k ||| 2 ^ k := if_pos (by simpa [hall] using c4')
            refine RunC.region ?_
            refine RunL.val (Val.pure rfl) rfl rfl rfl ?_
            refine RunL.val (Val.pure rfl) rfl rfl rfl ?_
            refine RunL.val (Val.shl1 (b := k) rfl rfl (by show k ≤ 64; omega) (i64_inN (by omega))) rfl rfl rfl ?_
            refine RunL.val (Val.or (a := setOf (fun e => decide (usedL (esX m).length (fsX m.pl) e < cntX m.pl)) k) (b := 2 ^ k) rfl rfl (by show _ < 18446744073709551616; omega) (by show _ < 18446744073709551616; omega) (i64_inN (by omega))) rfl rfl rfl ?_
            refine RunL.val (Val.pure rfl) rfl rfl rfl ?_
            refine RunL.nil ?_
            refine RunE.block_normal ?_
            refine RunE.next ?_
            refine RunC.region ?_
            refine RunL.val (Val.add rfl rfl (IntWalk.i64_in _ ⟨by omega, by omega⟩)) rfl rfl rfl ?_
            refine RunL.val (Val.pure rfl) rfl rfl rfl ?_
            refine RunL.nil ?_
            exact RunE.round (by omega) trivial rfl (Sub.consE (t := 26) rfl rfl (Sub.consE (t := 2) rfl (by rw [q3]) (Sub.consE (t := 3) rfl (by rw [q4]) (Sub.cons (t := 5) rfl (Sub.cons (t := 6) rfl (Sub.cons (t := 25) rfl (Sub.nil _))))))) (.cons .here rfl (.cons .here rfl (Pick.refl _)))
          · intro c4
            have c4' := c4; clear c4
            try simp only [decide_eq_true_eq, decide_eq_false_iff_not, Bool.not_eq_true', Bool.not_eq_false', Bool.and_eq_true, Bool.or_eq_true, Bool.and_eq_false_iff, Bool.or_eq_false_iff, Int.not_le, Int.not_lt] at c4'
            have q4 : setOf (fun e => decide (usedL (esX m).length (fsX m.pl) e < cntX m.pl)) (k + 1) = setOf (fun e => decide (usedL (esX m).length (fsX m.pl) e < cntX m.pl)) k := if_neg (by simpa [hall] using c4')
            refine RunC.skip ?_
            refine RunE.block_normal ?_
            refine RunE.next ?_
            refine RunC.region ?_
            refine RunL.val (Val.add rfl rfl (IntWalk.i64_in _ ⟨by omega, by omega⟩)) rfl rfl rfl ?_
            refine RunL.val (Val.pure rfl) rfl rfl rfl ?_
            refine RunL.nil ?_
            exact RunE.round (by omega) trivial rfl (Sub.consE (t := 26) rfl rfl (Sub.consE (t := 2) rfl (by rw [q3]) (Sub.consE (t := 3) rfl (by rw [q4]) (Sub.cons (t := 5) rfl (Sub.cons (t := 6) rfl (Sub.cons (t := 25) rfl (Sub.nil _))))))) (.cons .here rfl (.cons .here rfl (Pick.refl _)))
    · intro c1
      have c1' := c1; clear c1
      try simp only [decide_eq_true_eq, decide_eq_false_iff_not, Bool.not_eq_true', Bool.not_eq_false', Bool.and_eq_true, Bool.or_eq_true, Bool.and_eq_false_iff, Bool.or_eq_false_iff, Int.not_le, Int.not_lt] at c1'
      have hkn : k = (esX m).length := by omega
      simp only [hkn]
      refine RunC.exit ?_
      refine RunE.pass_exit ?_
      refine RunE.pass_exit ?_
      refine RunE.block_here ?_
      refine RunE.next ?_
      refine RunC.seq ?_
      refine RunC.region ?_
      iterate 5 refine RunL.val (Val.pure rfl) rfl rfl rfl ?_
      refine RunL.nil ?_
      refine RunE.next ?_
      refine RunC.ret ?_
      exact RunE.retP (.r3 rfl (.tmp rfl) (.tmp rfl) (.tmp rfl)) (by first | rfl | simp)
  · have e : LostX m.pl = ((0, 0), waysE m.pl) := by unfold LostX; rw [if_neg hw]
    rw [e]
    refine calls_start Tryd.func27 rfl rfl ?_
    refine RunC.seq ?_
    refine RunC.region ?_
    refine RunL.new (New.box rfl) rfl rfl rfl (fun b1 => ?_)
    iterate 3 refine RunL.val (Val.pure rfl) rfl rfl rfl ?_
    refine RunL.nil ?_
    refine RunE.next ?_
    refine RunC.seq ?_
    refine RunC.region ?_
    refine RunL.val (Val.load_agg rfl (.head _) ty_25 rfl) rfl rfl rfl ?_
    refine RunL.callP (isCall_func rfl ent_55) rfl rfl rfl (fun w hm => ways_err m hsm w (hM.mono0 hm) hw) ?_
    iterate 5 refine RunL.val (Val.pure rfl) rfl rfl rfl ?_
    refine RunL.nil ?_
    refine RunE.next ?_
    refine RunC.seq ?_
    refine RunC.seq ?_
    refine RunC.region ?_
    refine RunL.val (Val.pure rfl) rfl rfl rfl ?_
    refine RunL.val (Val.pure rfl) rfl rfl rfl ?_
    refine RunL.nil ?_
    refine RunE.next ?_
    refine RunC.cond rfl ?_ (fun h => absurd h (by simpa using hw))
    intro c0
    clear c0
    refine RunC.seq ?_
    refine RunC.region ?_
    iterate 4 refine RunL.val (Val.pure rfl) rfl rfl rfl ?_
    refine RunL.nil ?_
    refine RunE.next ?_
    refine RunC.ret ?_
    refine RunE.pass_ret ?_
    exact RunE.retP (.r3 rfl (.tmp rfl) (.tmp rfl) (.tmp rfl)) (by first | rfl | simp)
end Go.Proofs.YtlhdalcipflblaaDoor
