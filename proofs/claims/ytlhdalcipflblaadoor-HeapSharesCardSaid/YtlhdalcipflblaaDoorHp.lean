/- Walks of the reference of layer 10: small functions. -/
import Derived.Test.YtlhdalcipflblaaDoorHo
import Derived.Test.YtlhdalcipflblaaDoorHyB
set_option linter.unusedSimpArgs false
set_option linter.unusedVariables false
namespace Go.Proofs.YtlhdalcipflblaaDoor
open Go Go.Eng Go.Hp Go.Pw1

theorem rin_calls (a b c : Int) (W : World) : Calls Tryd.prog 42 #[.int .i64 a, .int .i64 b, .int .i64 c] W (Pure (.bool (within a b c)) W) := by
  refine calls_start Tryd.func42 rfl rfl ?_
  refine RunC.seq ?_
  refine RunC.region ?_
  refine RunL.val (Val.pure rfl) rfl rfl rfl ?_
  refine RunL.nil ?_
  refine RunE.next ?_
  refine RunC.seq ?_
  refine RunC.region ?_
  iterate 4 refine RunL.val (Val.pure rfl) rfl rfl rfl ?_
  refine RunL.andPart (dj := 10) (dp := 14) 4 rfl (fun g10 => by
    have g10' := g10
    try simp only [decide_eq_true_eq, decide_eq_false_iff_not, Bool.not_eq_true', Bool.not_eq_false', Bool.and_eq_true, Bool.or_eq_true, Bool.and_eq_false_iff, Bool.or_eq_false_iff, Int.not_le, Int.not_lt] at g10'
    iterate 4 refine RunL.val (Val.pure rfl) rfl rfl rfl ?_
    exact RunL.segEnd (Sub.cons rfl (Sub.skip rfl (Sub.skip rfl (Sub.skip rfl (Sub.skip rfl (Sub.same rfl (by rw [g10]) (Sub.refl _))))))) (List.Sublist.refl _)
  ) (fun g10 => by
    have g10' := g10
    try simp only [decide_eq_true_eq, decide_eq_false_iff_not, Bool.not_eq_true', Bool.not_eq_false', Bool.and_eq_true, Bool.or_eq_true, Bool.and_eq_false_iff, Bool.or_eq_false_iff, Int.not_le, Int.not_lt] at g10'
    iterate 3 refine RunL.no rfl rfl rfl ?_
    refine RunL.val (Val.pure rfl) rfl rfl rfl ?_
    exact RunL.segEnd (Sub.cons rfl (Sub.skip rfl (Sub.skip rfl (Sub.skip rfl (Sub.skip rfl (Sub.same rfl (by rw [g10]) (Sub.refl _))))))) (List.Sublist.refl _)
  ) ?_
  refine RunL.val (Val.pure rfl) rfl rfl rfl ?_
  refine RunL.nil ?_
  refine RunE.next ?_
  refine RunC.ret ?_
  exact RunE.retP (.r1 rfl (.tmp rfl)) (by first | rfl | (unfold within; refine congrArg Value.bool ?_; simp only [Bool.or_eq_true, Bool.and_eq_true, Bool.not_eq_true', Bool.or_eq_false_iff, Bool.and_eq_false_iff, Bool.not_eq_false', decide_eq_true_eq, decide_eq_false_iff_not, Bool.false_eq_true, true_iff, false_iff, iff_true, iff_false, and_true, true_and, Bool.and_true, Bool.true_and]; omega))
theorem rpower_calls (n : Nat) (hn : n ≤ 60) (W : World) : Calls Tryd.prog 48 #[.int .i64 (n : Int)] W (Pure (.int .i64 ((2 ^ n : Nat) : Int)) W) := by
  have h60 : 2 ^ n ≤ 2 ^ 60 := Nat.pow_le_pow_right (by decide) hn
  refine calls_start Tryd.func48 rfl rfl ?_
  refine RunC.seq ?_
  refine RunC.region ?_
  refine RunL.val (Val.pure rfl) rfl rfl rfl ?_
  refine RunL.nil ?_
  refine RunE.next ?_
  refine RunC.seq ?_
  refine RunC.region ?_
  refine RunL.val (Val.pure rfl) rfl rfl rfl ?_
  refine RunL.nil ?_
  refine RunE.next ?_
  refine RunC.seq ?_
  refine RunC.seq ?_
  refine RunC.region ?_
  refine RunL.val (Val.pure rfl) rfl rfl rfl ?_
  refine RunL.nil ?_
  refine RunE.next ?_
  refine RunC.block ?_
  refine RunC.loopK (n) (fun k q => (4, .int .i64 (k : Int)) :: (3, .int .i64 ((2 ^ k : Nat) : Int)) :: q) (fun _ => _) (fun _ => []) (fun _ => True) trivial rfl (Sub.consE (t := 4) rfl rfl (Sub.consE (t := 3) rfl rfl (Sub.cons (t := 0) rfl (Sub.nil _)))) .nil ?_
  intro k kN kI
  clear kI
  refine RunC.seq ?_
  refine RunC.seq ?_
  refine RunC.region ?_
  iterate 3 refine RunL.val (Val.pure rfl) rfl rfl rfl ?_
  refine RunL.nil ?_
  refine RunE.next ?_
  refine RunC.cond rfl ?_ ?_
  · intro c0
    have c0' := c0; clear c0
    try simp only [decide_eq_true_eq, decide_eq_false_iff_not, Bool.not_eq_true', Bool.not_eq_false', Bool.and_eq_true, Bool.or_eq_true, Bool.and_eq_false_iff, Bool.or_eq_false_iff, Int.not_le, Int.not_lt] at c0'
    have hk : k < n := by omega
    have hkp : 2 ^ (k + 1) ≤ 2 ^ 60 := Nat.pow_le_pow_right (by decide) (by omega)
    rw [Nat.pow_succ] at hkp
    refine RunC.skip ?_
    refine RunE.next ?_
    refine RunC.seq ?_
    refine RunC.block ?_
    refine RunC.region ?_
    refine RunL.val (Val.pure rfl) rfl rfl rfl ?_
    refine RunL.val (Val.mulN (a := 2) (b := 2 ^ k) (2 * 2 ^ k) rfl rfl rfl (i64_inN (by omega))) rfl rfl rfl ?_
    refine RunL.val (Val.pure rfl) rfl rfl rfl ?_
    refine RunL.nil ?_
    refine RunE.block_normal ?_
    refine RunE.next ?_
    refine RunC.region ?_
    refine RunL.val (Val.pure rfl) rfl rfl rfl ?_
    refine RunL.val (Val.add rfl rfl (IntWalk.i64_in _ ⟨by omega, by omega⟩)) rfl rfl rfl ?_
    refine RunL.val (Val.pure rfl) rfl rfl rfl ?_
    refine RunL.nil ?_
    exact RunE.round (by omega) trivial rfl (Sub.consE (t := 4) rfl rfl (Sub.consE (t := 3) rfl (by rw [Nat.pow_succ, Nat.mul_comm]) (Sub.cons (t := 0) rfl (Sub.nil _)))) .nil
  · intro c0
    have c0' := c0; clear c0
    try simp only [decide_eq_true_eq, decide_eq_false_iff_not, Bool.not_eq_true', Bool.not_eq_false', Bool.and_eq_true, Bool.or_eq_true, Bool.and_eq_false_iff, Bool.or_eq_false_iff, Int.not_le, Int.not_lt] at c0'
    obtain rfl : k = n := by omega
    refine RunC.exit ?_
    refine RunE.pass_exit ?_
    refine RunE.pass_exit ?_
    refine RunE.block_here ?_
    refine RunE.next ?_
    refine RunC.seq ?_
    refine RunC.region ?_
    refine RunL.val (Val.pure rfl) rfl rfl rfl ?_
    refine RunL.val (Val.pure rfl) rfl rfl rfl ?_
    refine RunL.nil ?_
    refine RunE.next ?_
    refine RunC.ret ?_
    exact RunE.retP (.r1 rfl (.tmp rfl)) (by first | rfl | simp)
theorem rHas_eq (s n : Nat) : decide (((s : Int).tdiv ((2 ^ n : Nat) : Int)).tmod 2 = 1) = s.testBit n := by
  have e1 : (s : Int).tdiv ((2 ^ n : Nat) : Int) = ((s / 2 ^ n : Nat) : Int) := (Int.ofNat_tdiv s (2 ^ n)).symm
  have e2 : (((s / 2 ^ n : Nat) : Int)).tmod 2 = ((s / 2 ^ n % 2 : Nat) : Int) := (Int.ofNat_tmod (s / 2 ^ n) 2).symm
  rw [e1, e2, Nat.testBit_eq_decide_div_mod_eq]
  by_cases h : s / 2 ^ n % 2 = 1
  · simp [h]
  · rw [decide_eq_false h, decide_eq_false (by omega)]
theorem rHas_calls (s n : Nat) (hs : s < 4096) (hn : n ≤ 60) (W : World) : Calls Tryd.prog 49 #[.int .i64 (s : Int), .int .i64 (n : Int)] W (Pure (.bool (s.testBit n)) W) := by
  have h2 : 0 < 2 ^ n := Nat.two_pow_pos n
  have e1 : (s : Int).tdiv ((2 ^ n : Nat) : Int) = ((s / 2 ^ n : Nat) : Int) := (Int.ofNat_tdiv s (2 ^ n)).symm
  have hle := Nat.div_le_self s (2 ^ n)
  refine calls_start Tryd.func49 rfl rfl ?_
  refine RunC.seq ?_
  refine RunC.region ?_
  refine RunL.val (Val.pure rfl) rfl rfl rfl ?_
  refine RunL.nil ?_
  refine RunE.next ?_
  refine RunC.seq ?_
  refine RunC.region ?_
  refine RunL.val (Val.pure rfl) rfl rfl rfl ?_
  refine RunL.val (Val.pure rfl) rfl rfl rfl ?_
  refine RunL.callP (isCall_func rfl ent_48) rfl rfl rfl (fun w hm => rpower_calls n hn w) ?_
  refine RunL.val (Val.quoT rfl rfl (by omega) (by rw [e1]; exact i64_inN (by omega))) rfl rfl rfl ?_
  refine RunL.val (Val.remT rfl rfl (by decide)) rfl rfl rfl ?_
  refine RunL.val (Val.pure rfl) rfl rfl rfl ?_
  refine RunL.val (Val.pure rfl) rfl rfl rfl ?_
  refine RunL.nil ?_
  refine RunE.next ?_
  refine RunC.ret ?_
  exact RunE.retP (.r1 rfl (.tmp rfl)) (by rw [rHas_eq])
theorem pc_half (s : Nat) : ∀ k, pc s (k + 1) = s % 2 + pc (s / 2) k
  | 0 => by simp [pc]
  | k + 1 => by
    have ih := pc_half s k
    show pc s (k + 1) + s / 2 ^ (k + 1) % 2 = s % 2 + (pc (s / 2) k + s / 2 / 2 ^ k % 2)
    rw [ih, Nat.div_div_eq_div_mul, Nat.pow_succ, Nat.mul_comm 2]
    omega
theorem pc_le (s : Nat) : ∀ k, pc s k ≤ k
  | 0 => Nat.le_refl _
  | k + 1 => by
    have := pc_le s k
    show pc s k + s / 2 ^ k % 2 ≤ k + 1
    omega
theorem pc_zero : ∀ k, pc 0 k = 0
  | 0 => rfl
  | k + 1 => by simp [pc, pc_zero k]
theorem pc_top {s k : Nat} (h : s / 2 ^ k = 0) : ∀ j, pc s (k + j) = pc s k
  | 0 => rfl
  | j + 1 => by
    show pc s (k + j) + s / 2 ^ (k + j) % 2 = pc s k
    rw [pc_top h j, Nat.pow_add, ← Nat.div_div_eq_div_mul, h, Nat.zero_div]
    exact Nat.add_zero _
theorem z_of {n : Nat} (h : (n : Int) ≤ 0) : n = 0 := by omega
theorem size_lt {s k : Nat} (hs : s < 4096) (hk : k ≤ 12) (h : 0 < s / 2 ^ k) : k < 12 := by
  by_cases e : k = 12
  · subst e; omega
  · omega
theorem rSize_calls (s : Nat) (hs : s < 4096) (W : World) : Calls Tryd.prog 36 #[.int .i64 (s : Int)] W (Pure (.int .i64 (pc s 12 : Int)) W) := by
  refine calls_start Tryd.func36 rfl rfl ?_
  refine RunC.seq ?_
  refine RunC.region ?_
  refine RunL.val (Val.pure rfl) rfl rfl rfl ?_
  refine RunL.nil ?_
  refine RunE.next ?_
  refine RunC.seq ?_
  refine RunC.region ?_
  refine RunL.val (Val.pure rfl) rfl rfl rfl ?_
  refine RunL.nil ?_
  refine RunE.next ?_
  refine RunC.seq ?_
  refine RunC.block ?_
  refine RunC.loopK (12) (fun k q => (0, .int .i64 ((s / 2 ^ k : Nat) : Int)) :: (3, .int .i64 ((pc s k : Nat) : Int)) :: q) (fun _ => _) (fun _ => []) (fun _ => True) trivial rfl (Sub.consE (t := 0) rfl (by simp) (Sub.consE (t := 3) rfl rfl (Sub.nil _))) .nil ?_
  intro k kN kI
  clear kI
  refine RunC.seq ?_
  refine RunC.seq ?_
  refine RunC.region ?_
  refine RunL.val (Val.pure rfl) rfl rfl rfl ?_
  refine RunL.val (Val.pure rfl) rfl rfl rfl ?_
  refine RunL.nil ?_
  refine RunE.next ?_
  refine RunC.cond rfl ?_ ?_
  · intro c0
    have c0' := c0; clear c0
    try simp only [decide_eq_true_eq, decide_eq_false_iff_not, Bool.not_eq_true', Bool.not_eq_false', Bool.and_eq_true, Bool.or_eq_true, Bool.and_eq_false_iff, Bool.or_eq_false_iff, Int.not_le, Int.not_lt] at c0'
    have hk : k < 12 := size_lt hs kN (by omega)
    have hle := Nat.div_le_self s (2 ^ k)
    have hpk := pc_le s k
    refine RunC.skip ?_
    refine RunE.next ?_
    refine RunC.block ?_
    refine RunC.seq ?_
    refine RunC.region ?_
    refine RunL.val (Val.pure rfl) rfl rfl rfl ?_
    refine RunL.val (Val.pure rfl) rfl rfl rfl ?_
    refine RunL.val (Val.remT rfl rfl (by decide)) rfl rfl rfl ?_
    refine RunL.val (Val.addN (a := pc s k) (b := s / 2 ^ k % 2) (pc s k + s / 2 ^ k % 2) rfl rfl rfl (i64_inN (by omega))) rfl rfl rfl ?_
    refine RunL.val (Val.pure rfl) rfl rfl rfl ?_
    refine RunL.nil ?_
    refine RunE.next ?_
    refine RunC.region ?_
    refine RunL.val (Val.pure rfl) rfl rfl rfl ?_
    refine RunL.val (Val.quoT rfl rfl (by decide) (i64_inN (n := s / 2 ^ k / 2) (by omega))) rfl rfl rfl ?_
    refine RunL.val (Val.pure rfl) rfl rfl rfl ?_
    refine RunL.nil ?_
    refine RunE.block_normal ?_
    exact RunE.round (by omega) trivial rfl (Sub.consE (t := 0) rfl (by rw [Nat.pow_succ, ← Nat.div_div_eq_div_mul]; rfl) (Sub.consE (t := 3) rfl (by rfl) (Sub.nil _))) .nil
  · intro c0
    have c0' := c0; clear c0
    try simp only [decide_eq_true_eq, decide_eq_false_iff_not, Bool.not_eq_true', Bool.not_eq_false', Bool.and_eq_true, Bool.or_eq_true, Bool.and_eq_false_iff, Bool.or_eq_false_iff, Int.not_le, Int.not_lt] at c0'
    have hz : s / 2 ^ k = 0 := z_of c0'
    have hpt : pc s 12 = pc s k := by (have h9 := pc_top hz (12 - k); rw [show k + (12 - k) = 12 by omega] at h9; exact h9)
    rw [hpt]
    refine RunC.exit ?_
    refine RunE.pass_exit ?_
    refine RunE.pass_exit ?_
    refine RunE.block_here ?_
    refine RunE.next ?_
    refine RunC.seq ?_
    refine RunC.region ?_
    refine RunL.val (Val.pure rfl) rfl rfl rfl ?_
    refine RunL.val (Val.pure rfl) rfl rfl rfl ?_
    refine RunL.nil ?_
    refine RunE.next ?_
    refine RunC.ret ?_
    exact RunE.retP (.r1 rfl (.tmp rfl)) (by first | rfl | simp)
end Go.Proofs.YtlhdalcipflblaaDoor
