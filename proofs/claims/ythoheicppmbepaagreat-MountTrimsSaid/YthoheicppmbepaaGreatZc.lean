/- Walks of the reference of layer 3: what is seen, eyes, rooms, depths. -/
import Derived.Test.YthoheicppmbepaaGreatZb
set_option linter.unusedSimpArgs false
set_option linter.unusedVariables false
namespace Go.Pw1
open Go Go.Eng
def eyK (c : Cd) (t : Tr) (k : Nat) : Int × Int := narL (1, 10000) (((seenM c.p).take k).map fun e => eyeB c t e.2)
theorem seenM_len (p : Pr) : (seenM p).length = (seenN p).length := by simp [seenN]
theorem seenM_at {p : Pr} {k : Nat} (hk : k < (seenN p).length) {j : Nat} (hi : (seenN p)[k] = (j : Int)) : (seenM p)[k]'(by rw [seenM_len]; exact hk) = ((j : Int), (shiftX p j).1) := by
  have hk2 : k < (seenM p).length := by rw [seenM_len]; exact hk
  obtain ⟨j2, h1, _, _⟩ := seenK_lt p _ _ (List.getElem_mem hk2)
  have h2 : (seenN p)[k] = ((seenM p)[k]'hk2).1 := by simp [seenN]
  have h3 : (seenM p)[k]'hk2 = ((j2 : Int), (shiftX p j2).1) := h1
  rw [h3] at h2 ⊢
  rw [hi] at h2
  simp only at h2
  have h4 : j = j2 := by omega
  rw [h4]
theorem eyK_snoc {c : Cd} {t : Tr} {k : Nat} (hk : k < (seenN c.p).length) {j : Nat} (hi : (seenN c.p)[k] = (j : Int)) : eyK c t (k + 1) = nar (eyK c t k) (eyeB c t (shiftX c.p j).1) := by
  have hk2 : k < (seenM c.p).length := by rw [seenM_len]; exact hk
  unfold eyK
  rw [List.take_succ_eq_append_getElem hk2, List.map_append, seenM_at hk hi]
  exact narL_snoc _ _ _
theorem eyK_all (c : Cd) (t : Tr) : eyK c t (seenN c.p).length = eyesOf c t := by
  unfold eyK eyesOf
  rw [← seenM_len, List.take_length]
def sumP (p : Pr) (k : Nat) : Nat := (((seenN p).take k).map fun i => 2 ^ i.toNat).sum
theorem bitsK_lt {p : Pr} : ∀ k, bitsOf (seenNK p k) < 2 ^ k
  | 0 => by simp [seenNK, seenK, bitsOf]
  | k + 1 => by
    have ih := bitsK_lt (p := p) k
    have h2 : 2 ^ k ≤ 2 ^ (k + 1) := Nat.pow_le_pow_right (by decide) (by omega)
    by_cases h : (whyX p k).1 = 0
    · rw [seenNK_yes h]
      have key : ∀ l : List Int, (∀ a ∈ l, a.toNat < k + 1) → bitsOf l < 2 ^ (k + 1) := by
        intro l
        induction l with
        | nil => intro _; exact Nat.two_pow_pos _
        | cons a l ih =>
          intro hl
          exact Nat.or_lt_two_pow (ih fun b hb => hl b (List.mem_cons_of_mem _ hb)) (Nat.pow_lt_pow_right (by decide) (hl a (by simp)))
      refine key _ fun a ha => ?_
      rcases List.mem_append.1 ha with ha | ha
      · obtain ⟨e, he, rfl⟩ := List.mem_map.1 ha
        obtain ⟨j, rfl, h3, _⟩ := seenK_lt p _ e he
        simp; omega
      · cases List.mem_singleton.1 ha; simp
    · rw [seenNK_no h]; omega
theorem bits_snoc (k : Int) : ∀ l : List Int, bitsOf (l ++ [k]) = 2 ^ k.toNat ||| bitsOf l
  | [] => by simp [bitsOf]
  | i :: l => by
    show bitsOf (l ++ [k]) ||| 2 ^ i.toNat = 2 ^ k.toNat ||| (bitsOf l ||| 2 ^ i.toNat)
    rw [bits_snoc k l, Nat.or_assoc]
theorem bits_sumK (p : Pr) : ∀ k, bitsOf (seenNK p k) = ((seenNK p k).map fun i => 2 ^ i.toNat).sum
  | 0 => by simp [seenNK, seenK, bitsOf]
  | k + 1 => by
    have ih := bits_sumK p k
    by_cases h : (whyX p k).1 = 0
    · have h2 := Nat.two_pow_add_eq_or_of_lt (bitsK_lt (p := p) k) 1
      rw [Nat.mul_one] at h2
      rw [seenNK_yes h, bits_snoc, Int.toNat_natCast, ← h2, ih, List.map_append]
      simp [Nat.add_comm]
    · rw [seenNK_no h]; exact ih
theorem sumP_all (p : Pr) : bitsOf (seenN p) = sumP p (seenN p).length := by
  unfold sumP
  rw [List.take_length]
  exact bits_sumK p _
theorem sumP_snoc {p : Pr} {k : Nat} (hk : k < (seenN p).length) {j : Nat} (hi : (seenN p)[k] = (j : Int)) : sumP p (k + 1) = sumP p k + 2 ^ j := by
  unfold sumP
  rw [List.take_succ_eq_append_getElem hk, List.map_append, hi]
  simp
theorem sumP_le (p : Pr) : ∀ k, k ≤ (seenN p).length → p.things.length ≤ 12 → sumP p k ≤ k * 4096
  | 0, _, _ => by simp [sumP]
  | k + 1, h, hl => by
    have ih := sumP_le p k (by omega) hl
    obtain ⟨j, h1, h2, _⟩ := seenN_in (List.getElem_mem (show k < (seenN p).length by omega))
    rw [sumP_snoc (by omega) h1]
    have : 2 ^ j ≤ 2 ^ 12 := Nat.pow_le_pow_right (by decide) (by omega)
    omega
end Go.Pw1
namespace Go.Proofs.YthoheicppmbepaaGreat
open Go Go.Eng Go.Pw1

def seenR (c : Cd) : Int × Int := if checkR c true = 0 then ((bitsOf (seenN c.p) : Int), 0) else (0, checkR c true)
theorem seen_same (c : Cd) : seenX c = seenR c := by unfold seenX seenR; rw [check_nil]
theorem zSeen_calls (c : Cd) (q : Option Addr) (b o cap : Nat) (W : World) (hS : Sl W q b o 9 (c.p.things.map Th.cells)) (hl : c.p.things.length ≤ 100000000000) :
    Calls Tryz.prog 7 #[c.v q cap] W (Pure (.tuple #[.int .i64 (seenR c).1, .int .i64 (seenR c).2]) W) := by
  by_cases h0 : checkR c true = 0
  · obtain ⟨hp, _, hc, _⟩ := check_pair h0
    have hpk := isPair_ok hp
    have hsl := seenN_len c.p
    have hl12 := hpk.len
    rcases Nat.eq_zero_or_pos (seenN c.p).length with hn | hn
    · have hn2 := List.length_eq_zero_iff.1 hn
      refine calls_start Tryz.func7 rfl rfl ?_
      refine RunC.seq ?_
      refine RunC.region ?_
      refine RunL.new (New.box rfl) rfl rfl rfl (fun b1 => ?_)
      refine RunL.val (Val.pure rfl) rfl rfl rfl ?_
      refine RunL.val (Val.pure rfl) rfl rfl rfl ?_
      refine RunL.nil ?_
      refine RunE.next ?_
      refine RunC.seq ?_
      refine RunC.region ?_
      refine RunL.val (Val.load_agg rfl (.head _) ty_28 rfl) rfl rfl rfl ?_
      refine RunL.callP (isCall_func rfl ent_25) rfl rfl rfl (fun w hm => (by have h9 := zcheck_calls c true q b o cap w (hS.mono (by decide) hm (by simp)) hl; rw [h0] at h9; exact h9)) ?_
      refine RunL.val (Val.pure rfl) rfl rfl rfl ?_
      refine RunL.nil ?_
      refine RunE.next ?_
      refine RunC.seq ?_
      refine RunC.seq ?_
      refine RunC.region ?_
      refine RunL.val (Val.pure rfl) rfl rfl rfl ?_
      refine RunL.val (Val.pure rfl) rfl rfl rfl ?_
      refine RunL.nil ?_
      refine RunE.next ?_
      refine RunC.cond rfl (fun h => absurd h (by simp)) ?_
      intro c0
      clear c0
      refine RunC.skip ?_
      refine RunE.next ?_
      refine RunC.seq ?_
      refine RunC.region ?_
      refine RunL.val (Val.load_agg rfl (.head _) ty_28 rfl) rfl rfl rfl ?_
      refine RunL.callP (isCall_func rfl ent_26) rfl rfl rfl (fun w hm => zempty c hn2 hpk q b o cap w (hS.mono (by decide) hm (by simp))) ?_
      refine RunL.val (Val.pure rfl) rfl rfl rfl ?_
      refine RunL.nil ?_
      refine RunE.next ?_
      refine RunC.seq ?_
      refine RunC.region ?_
      refine RunL.val (Val.pure rfl) rfl rfl rfl ?_
      refine RunL.nil ?_
      refine RunE.next ?_
      refine RunC.seq ?_
      refine RunC.seq ?_
      refine RunC.region ?_
      refine RunL.val (Val.pure rfl) rfl rfl rfl ?_
      refine RunL.nil ?_
      refine RunE.next ?_
      refine RunC.block ?_
      refine RunC.loopK (0) (fun k q => (7, .int .i64 (k : Int)) :: q) (fun _ => _) (fun _ => []) (fun _ => True) trivial rfl (Sub.consE (t := 7) rfl rfl (Sub.cons (t := 5) rfl (Sub.cons (t := 6) rfl (Sub.nil _)))) .nil ?_
      intro k kN kI
      clear kI
      refine RunC.seq ?_
      refine RunC.seq ?_
      refine RunC.region ?_
      refine RunL.val (Val.pure rfl) rfl rfl rfl ?_
      refine RunL.val (Val.pure rfl) rfl rfl rfl ?_
      refine RunL.val (Val.len_sl rfl sl_55) rfl rfl rfl ?_
      refine RunL.val (Val.pure rfl) rfl rfl rfl ?_
      refine RunL.nil ?_
      refine RunE.next ?_
      refine RunC.cond rfl (fun h => absurd h (by simp)) ?_
      intro c1
      clear c1
      refine RunC.exit ?_
      refine RunE.pass_exit ?_
      refine RunE.pass_exit ?_
      refine RunE.block_here ?_
      refine RunE.next ?_
      refine RunC.seq ?_
      refine RunC.region ?_
      iterate 3 refine RunL.val (Val.pure rfl) rfl rfl rfl ?_
      refine RunL.nil ?_
      refine RunE.next ?_
      refine RunC.ret ?_
      exact RunE.retP (.r2 rfl (.tmp rfl) (.tmp rfl)) (by simp [seenR, h0, hn2, bitsOf])
    · refine calls_start Tryz.func7 rfl rfl ?_
      refine RunC.seq ?_
      refine RunC.region ?_
      refine RunL.new (New.box rfl) rfl rfl rfl (fun b1 => ?_)
      refine RunL.val (Val.pure rfl) rfl rfl rfl ?_
      refine RunL.val (Val.pure rfl) rfl rfl rfl ?_
      refine RunL.nil ?_
      refine RunE.next ?_
      refine RunC.seq ?_
      refine RunC.region ?_
      refine RunL.val (Val.load_agg rfl (.head _) ty_28 rfl) rfl rfl rfl ?_
      refine RunL.callP (isCall_func rfl ent_25) rfl rfl rfl (fun w hm => (by have h9 := zcheck_calls c true q b o cap w (hS.mono (by decide) hm (by simp)) hl; rw [h0] at h9; exact h9)) ?_
      refine RunL.val (Val.pure rfl) rfl rfl rfl ?_
      refine RunL.nil ?_
      refine RunE.next ?_
      refine RunC.seq ?_
      refine RunC.seq ?_
      refine RunC.region ?_
      refine RunL.val (Val.pure rfl) rfl rfl rfl ?_
      refine RunL.val (Val.pure rfl) rfl rfl rfl ?_
      refine RunL.nil ?_
      refine RunE.next ?_
      refine RunC.cond rfl (fun h => absurd h (by simp)) ?_
      intro c0
      clear c0
      refine RunC.skip ?_
      refine RunE.next ?_
      refine RunC.seq ?_
      refine RunC.region ?_
      refine RunL.val (Val.load_agg rfl (.head _) ty_28 rfl) rfl rfl rfl ?_
      refine RunL.callN (isCall_func rfl ent_26) rfl rfl rfl (fun w hm => zsome c hn hpk q b o cap w (hS.mono (by decide) hm (by simp))) (fun b14 => ?_)
      refine RunL.val (Val.pure rfl) rfl rfl rfl ?_
      refine RunL.nil ?_
      refine RunE.next ?_
      refine RunC.seq ?_
      refine RunC.region ?_
      refine RunL.val (Val.pure rfl) rfl rfl rfl ?_
      refine RunL.nil ?_
      refine RunE.next ?_
      refine RunC.seq ?_
      refine RunC.seq ?_
      refine RunC.region ?_
      refine RunL.val (Val.pure rfl) rfl rfl rfl ?_
      refine RunL.nil ?_
      refine RunE.next ?_
      refine RunC.block ?_
      refine RunC.loopK ((seenN c.p).length) (fun k q => (6, .int .i64 ((sumP c.p k : Nat) : Int)) :: (7, .int .i64 (k : Int)) :: q) (fun _ => _) (fun _ => []) (fun _ => True) trivial rfl (Sub.consE (t := 6) rfl rfl (Sub.consE (t := 7) rfl rfl (Sub.cons (t := 5) rfl (Sub.nil _)))) (.cons .here rfl .nil) ?_
      intro k kN kI
      clear kI
      refine RunC.seq ?_
      refine RunC.seq ?_
      refine RunC.region ?_
      refine RunL.val (Val.pure rfl) rfl rfl rfl ?_
      refine RunL.val (Val.pure rfl) rfl rfl rfl ?_
      refine RunL.val (Val.len_sl rfl sl_55) rfl rfl rfl ?_
      refine RunL.val (Val.pure rfl) rfl rfl rfl ?_
      refine RunL.nil ?_
      refine RunE.next ?_
      refine RunC.cond rfl ?_ ?_
      · intro c1
        have c1' := c1; clear c1
        try simp only [decide_eq_true_eq, decide_eq_false_iff_not, Bool.not_eq_true', Bool.not_eq_false', Bool.and_eq_true, Bool.or_eq_true, Bool.and_eq_false_iff, Bool.or_eq_false_iff, Int.not_le, Int.not_lt] at c1'
        have hk : k < (seenN c.p).length := by omega
        obtain ⟨j, hi, hj, hw⟩ := seenN_in (List.getElem_mem hk)
        have hsp := sumP_le c.p k (by omega) hl12
        have h2j : 2 ^ j ≤ 2 ^ 12 := Nat.pow_le_pow_right (by decide) (by omega)
        refine RunC.skip ?_
        refine RunE.next ?_
        refine RunC.seq ?_
        refine RunC.block ?_
        refine RunC.region ?_
        iterate 3 refine RunL.val (Val.pure rfl) rfl rfl rfl ?_
        refine RunL.val (Val.indexAddr_slp rfl rfl sl_55 (by omega) (by omega) rfl) rfl rfl rfl ?_
        refine RunL.val (Val.load_gen rfl (fun w hm => (some_sl (hm.at (.head _))).loadM1 (by decide) (Mem.refl w) (by simp) ty_3 hk (v := .int .i64 (j : Int)) (by rw [hi]; rfl))) rfl rfl rfl ?_
        refine RunL.callP (isCall_func rfl ent_27) rfl rfl rfl (fun w hm => zpower_calls j (by omega) w) ?_
        refine RunL.val (Val.addN (a := sumP c.p k) (b := 2 ^ j) (sumP c.p k + 2 ^ j) rfl rfl rfl (i64_inN (by omega))) rfl rfl rfl ?_
        refine RunL.val (Val.pure rfl) rfl rfl rfl ?_
        refine RunL.nil ?_
        refine RunE.block_normal ?_
        refine RunE.next ?_
        refine RunC.region ?_
        refine RunL.val (Val.pure rfl) rfl rfl rfl ?_
        refine RunL.val (Val.add rfl rfl (IntWalk.i64_in _ ⟨by omega, by omega⟩)) rfl rfl rfl ?_
        refine RunL.val (Val.pure rfl) rfl rfl rfl ?_
        refine RunL.nil ?_
        exact RunE.round (by omega) trivial rfl (Sub.consE (t := 6) rfl (by rw [sumP_snoc hk hi]) (Sub.consE (t := 7) rfl rfl (Sub.cons (t := 5) rfl (Sub.nil _)))) (.cons .here rfl .nil)
      · intro c1
        have c1' := c1; clear c1
        try simp only [decide_eq_true_eq, decide_eq_false_iff_not, Bool.not_eq_true', Bool.not_eq_false', Bool.and_eq_true, Bool.or_eq_true, Bool.and_eq_false_iff, Bool.or_eq_false_iff, Int.not_le, Int.not_lt] at c1'
        obtain rfl : k = (seenN c.p).length := by omega
        refine RunC.exit ?_
        refine RunE.pass_exit ?_
        refine RunE.pass_exit ?_
        refine RunE.block_here ?_
        refine RunE.next ?_
        refine RunC.seq ?_
        refine RunC.region ?_
        iterate 3 refine RunL.val (Val.pure rfl) rfl rfl rfl ?_
        refine RunL.nil ?_
        refine RunE.next ?_
        refine RunC.ret ?_
        exact RunE.retP (.r2 rfl (.tmp rfl) (.tmp rfl)) (by simp [seenR, h0, sumP_all])
  · refine calls_start Tryz.func7 rfl rfl ?_
    refine RunC.seq ?_
    refine RunC.region ?_
    refine RunL.new (New.box rfl) rfl rfl rfl (fun b1 => ?_)
    refine RunL.val (Val.pure rfl) rfl rfl rfl ?_
    refine RunL.val (Val.pure rfl) rfl rfl rfl ?_
    refine RunL.nil ?_
    refine RunE.next ?_
    refine RunC.seq ?_
    refine RunC.region ?_
    refine RunL.val (Val.load_agg rfl (.head _) ty_28 rfl) rfl rfl rfl ?_
    refine RunL.callP (isCall_func rfl ent_25) rfl rfl rfl (fun w hm => zcheck_calls c true q b o cap w (hS.mono (by decide) hm (by simp)) hl) ?_
    refine RunL.val (Val.pure rfl) rfl rfl rfl ?_
    refine RunL.nil ?_
    refine RunE.next ?_
    refine RunC.seq ?_
    refine RunC.seq ?_
    refine RunC.region ?_
    refine RunL.val (Val.pure rfl) rfl rfl rfl ?_
    refine RunL.val (Val.pure rfl) rfl rfl rfl ?_
    refine RunL.nil ?_
    refine RunE.next ?_
    refine RunC.cond rfl ?_ (fun h => absurd h (by simp [h0]))
    intro c0
    clear c0
    refine RunC.seq ?_
    refine RunC.region ?_
    iterate 3 refine RunL.val (Val.pure rfl) rfl rfl rfl ?_
    refine RunL.nil ?_
    refine RunE.next ?_
    refine RunC.ret ?_
    refine RunE.pass_ret ?_
    exact RunE.retP (.r2 rfl (.tmp rfl) (.tmp rfl)) (by simp [seenR, h0])
theorem zroom_calls (c : Cd) (hc : c.Ok) (t : Tr) (ht : t.Ok c.cuts) (q : Option Addr) (cap : Nat) (W : World) : Calls Tryz.prog 39 #[c.v q cap, t.v] W (Pure (b2v (roomOf c t)) W) := by
  have ab := apart_bd hc ht
  have ht0 := ht
  obtain ⟨t1, t2, t3, t4, t5, t6, t7, t8⟩ := ht
  obtain ⟨h1, h2, h3, h4, h5, h6, h7, h8, h9, h10, h11, h12, h13, h14, h15, h16, h17⟩ := id hc
  have w0 := step_bd hc (x := t.ll - t.rl) (by omega)
  have w6 : windowM c t = c.step * (t.ll - t.rl) := rfl
  refine calls_start Tryz.func39 rfl rfl ?_
  refine RunC.seq ?_
  refine RunC.region ?_
  refine RunL.new (New.box rfl) rfl rfl rfl (fun b2 => ?_)
  refine RunL.new (New.box rfl) rfl rfl rfl (fun b3 => ?_)
  refine RunL.new (New.alloc zero_23) rfl rfl rfl (fun b4 => ?_)
  refine RunL.nil ?_
  refine RunE.next ?_
  refine RunC.seq ?_
  refine RunC.draw 16 fol_ (.cons .here rfl (.cons .here rfl (.cons .here rfl .nil))) ?_
  refine RunA.val (i := 0) rfl (by kernel_rfl) (by kernel_rfl) (Val.load_agg rfl (.tail _ (.tail _ (.head _))) ty_28 rfl) rfl rfl rfl (fun _ _ _ h => h) (.cons .here rfl (.cons .here rfl (.cons .here rfl .nil))) rfl ?_
  refine RunA.val (i := 1) rfl (by kernel_rfl) (by kernel_rfl) (Val.load_agg rfl (.tail _ (.head _)) ty_30 rfl) rfl rfl rfl (fun _ _ _ h => h) (.cons .here rfl (.cons .here rfl (.cons .here rfl .nil))) rfl ?_
  refine RunA.val (i := 3) rfl (by kernel_rfl) (by kernel_rfl) (Val.fieldAddr rfl fld_28_8) rfl rfl rfl (fun _ _ _ h => h) (.cons .here rfl (.cons .here rfl (.cons .here rfl .nil))) rfl ?_
  refine RunA.val (i := 4) rfl (by kernel_rfl) (by kernel_rfl) (Val.load_one rfl (.tail _ (.tail _ (.head _))) ty_3 rfl) rfl rfl rfl (fun _ _ _ h => h) (.cons .here rfl (.cons .here rfl (.cons .here rfl .nil))) rfl ?_
  refine RunA.val (i := 6) rfl (by kernel_rfl) (by kernel_rfl) (Val.load_agg rfl (.tail _ (.tail _ (.head _))) ty_28 rfl) rfl rfl rfl (fun _ _ _ h => h) (.cons .here rfl (.cons .here rfl (.cons .here rfl .nil))) rfl ?_
  refine RunA.val (i := 7) rfl (by kernel_rfl) (by kernel_rfl) (Val.load_agg rfl (.tail _ (.head _)) ty_30 rfl) rfl rfl rfl (fun _ _ _ h => h) (.cons .here rfl (.cons .here rfl (.cons .here rfl .nil))) rfl ?_
  refine RunA.val (i := 9) rfl (by kernel_rfl) (by kernel_rfl) (Val.fieldAddr rfl fld_28_4) rfl rfl rfl (fun _ _ _ h => h) (.cons .here rfl (.cons .here rfl (.cons .here rfl .nil))) rfl ?_
  refine RunA.val (i := 10) rfl (by kernel_rfl) (by kernel_rfl) (Val.fieldAddr rfl fld_23_0) rfl rfl rfl (fun _ _ _ h => h) (.cons .here rfl (.cons .here rfl (.cons .here rfl .nil))) rfl ?_
  refine RunA.val (i := 11) rfl (by kernel_rfl) (by kernel_rfl) (Val.load_one rfl (.tail _ (.tail _ (.head _))) ty_3 rfl) rfl rfl rfl (fun _ _ _ h => h) (.cons .here rfl (.cons .here rfl (.cons .here rfl .nil))) rfl ?_
  refine RunA.val (i := 13) rfl (by kernel_rfl) (by kernel_rfl) (Val.fieldAddr rfl fld_28_5) rfl rfl rfl (fun _ _ _ h => h) (.cons .here rfl (.cons .here rfl (.cons .here rfl .nil))) rfl ?_
  refine RunA.val (i := 14) rfl (by kernel_rfl) (by kernel_rfl) (Val.load_one rfl (.tail _ (.tail _ (.head _))) ty_3 rfl) rfl rfl rfl (fun _ _ _ h => h) (.cons .here rfl (.cons .here rfl (.cons .here rfl .nil))) rfl ?_
  refine RunA.one (i := 2) (by kernel_rfl) (by kernel_rfl) ?_
  refine RunI.callP rfl (isCall_func rfl ent_66) rfl rfl rfl (fun w hm => zWindow_calls c hc t ht0 q cap w) (RunK.toA (.cons .here rfl (.cons .here rfl (.cons .here rfl .nil))) (.cons .here rfl (.cons .here rfl (.cons .here rfl .nil))) rfl ?_)
  refine RunA.val (i := 5) rfl (by kernel_rfl) (by kernel_rfl) (Val.sub' rfl rfl (IntWalk.i64_in _ ⟨by omega, by omega⟩)) rfl rfl rfl (fun _ _ _ h => h) (.cons .here rfl (.cons .here rfl (.cons .here rfl .nil))) rfl ?_
  refine RunA.one (i := 8) (by kernel_rfl) (by kernel_rfl) ?_
  refine RunI.callP rfl (isCall_func rfl ent_37) rfl rfl rfl (fun w hm => zApart_calls c hc t ht0 0 (by decide) q cap w) (RunK.toA (.cons .here rfl (.cons .here rfl (.cons .here rfl .nil))) (.cons .here rfl (.cons .here rfl (.cons .here rfl .nil))) rfl ?_)
  refine RunA.val (i := 12) rfl (by kernel_rfl) (by kernel_rfl) (Val.sub' rfl rfl (IntWalk.i64_in _ ⟨by omega, by omega⟩)) rfl rfl rfl (fun _ _ _ h => h) (.cons .here rfl (.cons .here rfl (.cons .here rfl .nil))) rfl ?_
  refine RunA.val (i := 15) rfl (by kernel_rfl) (by kernel_rfl) (Val.sub' rfl rfl (IntWalk.i64_in _ ⟨by omega, by omega⟩)) rfl rfl rfl (fun _ _ _ h => h) (.cons .here rfl (.cons .here rfl (.cons .here rfl .nil))) rfl ?_
  refine RunA.toB (by kernel_rfl) ?_
  refine RunB.one (i := 16) (by kernel_rfl) ?_
  refine RunI.val rfl (Val.max3 rfl rfl rfl) rfl rfl rfl (RunK.toB ?_)
  refine RunB.one (i := 17) (by kernel_rfl) ?_
  refine RunI.val rfl (Val.pure rfl) rfl rfl rfl (RunK.toB ?_)
  refine RunB.done (by kernel_rfl) ?_
  refine RunE.next ?_
  refine RunC.seq ?_
  refine RunC.draw 16 fol_ (.cons .here rfl (.cons .here rfl (.cons .here rfl .nil))) ?_
  refine RunA.val (i := 0) rfl (by kernel_rfl) (by kernel_rfl) (Val.load_agg rfl (.tail _ (.tail _ (.head _))) ty_28 rfl) rfl rfl rfl (fun _ _ _ h => h) (.cons .here rfl (.cons .here rfl (.cons .here rfl .nil))) rfl ?_
  refine RunA.val (i := 1) rfl (by kernel_rfl) (by kernel_rfl) (Val.load_agg rfl (.tail _ (.head _)) ty_30 rfl) rfl rfl rfl (fun _ _ _ h => h) (.cons .here rfl (.cons .here rfl (.cons .here rfl .nil))) rfl ?_
  refine RunA.val (i := 3) rfl (by kernel_rfl) (by kernel_rfl) (Val.fieldAddr rfl fld_28_7) rfl rfl rfl (fun _ _ _ h => h) (.cons .here rfl (.cons .here rfl (.cons .here rfl .nil))) rfl ?_
  refine RunA.val (i := 4) rfl (by kernel_rfl) (by kernel_rfl) (Val.load_one rfl (.tail _ (.tail _ (.head _))) ty_3 rfl) rfl rfl rfl (fun _ _ _ h => h) (.cons .here rfl (.cons .here rfl (.cons .here rfl .nil))) rfl ?_
  refine RunA.val (i := 6) rfl (by kernel_rfl) (by kernel_rfl) (Val.load_agg rfl (.tail _ (.tail _ (.head _))) ty_28 rfl) rfl rfl rfl (fun _ _ _ h => h) (.cons .here rfl (.cons .here rfl (.cons .here rfl .nil))) rfl ?_
  refine RunA.val (i := 7) rfl (by kernel_rfl) (by kernel_rfl) (Val.load_agg rfl (.tail _ (.head _)) ty_30 rfl) rfl rfl rfl (fun _ _ _ h => h) (.cons .here rfl (.cons .here rfl (.cons .here rfl .nil))) rfl ?_
  refine RunA.val (i := 9) rfl (by kernel_rfl) (by kernel_rfl) (Val.fieldAddr rfl fld_28_4) rfl rfl rfl (fun _ _ _ h => h) (.cons .here rfl (.cons .here rfl (.cons .here rfl .nil))) rfl ?_
  refine RunA.val (i := 10) rfl (by kernel_rfl) (by kernel_rfl) (Val.fieldAddr rfl fld_23_1) rfl rfl rfl (fun _ _ _ h => h) (.cons .here rfl (.cons .here rfl (.cons .here rfl .nil))) rfl ?_
  refine RunA.val (i := 11) rfl (by kernel_rfl) (by kernel_rfl) (Val.load_one rfl (.tail _ (.tail _ (.head _))) ty_3 rfl) rfl rfl rfl (fun _ _ _ h => h) (.cons .here rfl (.cons .here rfl (.cons .here rfl .nil))) rfl ?_
  refine RunA.val (i := 13) rfl (by kernel_rfl) (by kernel_rfl) (Val.fieldAddr rfl fld_28_6) rfl rfl rfl (fun _ _ _ h => h) (.cons .here rfl (.cons .here rfl (.cons .here rfl .nil))) rfl ?_
  refine RunA.val (i := 14) rfl (by kernel_rfl) (by kernel_rfl) (Val.load_one rfl (.tail _ (.tail _ (.head _))) ty_3 rfl) rfl rfl rfl (fun _ _ _ h => h) (.cons .here rfl (.cons .here rfl (.cons .here rfl .nil))) rfl ?_
  refine RunA.one (i := 2) (by kernel_rfl) (by kernel_rfl) ?_
  refine RunI.callP rfl (isCall_func rfl ent_66) rfl rfl rfl (fun w hm => zWindow_calls c hc t ht0 q cap w) (RunK.toA (.cons .here rfl (.cons .here rfl (.cons .here rfl .nil))) (.cons .here rfl (.cons .here rfl (.cons .here rfl .nil))) rfl ?_)
  refine RunA.val (i := 5) rfl (by kernel_rfl) (by kernel_rfl) (Val.add rfl rfl (IntWalk.i64_in _ ⟨by omega, by omega⟩)) rfl rfl rfl (fun _ _ _ h => h) (.cons .here rfl (.cons .here rfl (.cons .here rfl .nil))) rfl ?_
  refine RunA.one (i := 8) (by kernel_rfl) (by kernel_rfl) ?_
  refine RunI.callP rfl (isCall_func rfl ent_37) rfl rfl rfl (fun w hm => zApart_calls c hc t ht0 0 (by decide) q cap w) (RunK.toA (.cons .here rfl (.cons .here rfl (.cons .here rfl .nil))) (.cons .here rfl (.cons .here rfl (.cons .here rfl .nil))) rfl ?_)
  refine RunA.val (i := 12) rfl (by kernel_rfl) (by kernel_rfl) (Val.sub' rfl rfl (IntWalk.i64_in _ ⟨by omega, by omega⟩)) rfl rfl rfl (fun _ _ _ h => h) (.cons .here rfl (.cons .here rfl (.cons .here rfl .nil))) rfl ?_
  refine RunA.val (i := 15) rfl (by kernel_rfl) (by kernel_rfl) (Val.add rfl rfl (IntWalk.i64_in _ ⟨by omega, by omega⟩)) rfl rfl rfl (fun _ _ _ h => h) (.cons .here rfl (.cons .here rfl (.cons .here rfl .nil))) rfl ?_
  refine RunA.toB (by kernel_rfl) ?_
  refine RunB.one (i := 16) (by kernel_rfl) ?_
  refine RunI.val rfl (Val.min3 rfl rfl rfl) rfl rfl rfl (RunK.toB ?_)
  refine RunB.one (i := 17) (by kernel_rfl) ?_
  refine RunI.val rfl (Val.pure rfl) rfl rfl rfl (RunK.toB ?_)
  refine RunB.done (by kernel_rfl) ?_
  refine RunE.next ?_
  refine RunC.seq ?_
  refine RunC.region ?_
  refine RunL.val (Val.pure rfl) rfl rfl rfl ?_
  refine RunL.val (Val.pure rfl) rfl rfl rfl ?_
  refine RunL.val (Val.build (parts := [(0, .tmp 41), (1, .tmp 42)]) rfl zero_23 places_23 rfl) rfl rfl rfl ?_
  refine RunL.sto (Sto.store rfl rfl .here ty_23 rfl rfl) rfl rfl ?_
  refine RunL.nil ?_
  refine RunE.next ?_
  refine RunC.ret ?_
  exact RunE.retP (.r1 rfl (.agg rfl (.head _) ty_23 rfl)) (by simp [roomOf, nar, b2v])
theorem zRoom_calls (c : Cd) (t : Tr) (q : Option Addr) (b o cap : Nat) (W : World) (hS : Sl W q b o 9 (c.p.things.map Th.cells)) (hl : c.p.things.length ≤ 100000000000) :
    Calls Tryz.prog 13 #[c.v q cap, t.v] W (Pure (.tuple #[b2v (roomR c t).1, .int .i64 (roomR c t).2]) W) := by
  by_cases h0 : checkR c (trR c t) = 0
  · obtain ⟨hp, _, hc, htr⟩ := check_pair h0
    have ht := (trIs_ok (trR_eq c t ▸ htr)).1
    refine calls_start Tryz.func13 rfl rfl ?_
    refine RunC.seq ?_
    refine RunC.region ?_
    refine RunL.new (New.box rfl) rfl rfl rfl (fun b2 => ?_)
    refine RunL.new (New.box rfl) rfl rfl rfl (fun b3 => ?_)
    refine RunL.new (New.alloc zero_23) rfl rfl rfl (fun b4 => ?_)
    refine RunL.val (Val.pure rfl) rfl rfl rfl ?_
    refine RunL.nil ?_
    refine RunE.next ?_
    refine RunC.seq ?_
    refine RunC.draw 4 fol_ (.cons .here rfl (.cons .here rfl (.cons .here rfl .nil))) ?_
    refine RunA.val (i := 0) rfl (by kernel_rfl) (by kernel_rfl) (Val.load_agg rfl (.tail _ (.tail _ (.head _))) ty_28 rfl) rfl rfl rfl (fun _ _ _ h => h) (.cons .here rfl (.cons .here rfl (.cons .here rfl .nil))) rfl ?_
    refine RunA.val (i := 1) rfl (by kernel_rfl) (by kernel_rfl) (Val.load_agg rfl (.tail _ (.tail _ (.head _))) ty_28 rfl) rfl rfl rfl (fun _ _ _ h => h) (.cons .here rfl (.cons .here rfl (.cons .here rfl .nil))) rfl ?_
    refine RunA.val (i := 2) rfl (by kernel_rfl) (by kernel_rfl) (Val.load_agg rfl (.tail _ (.head _)) ty_30 rfl) rfl rfl rfl (fun _ _ _ h => h) (.cons .here rfl (.cons .here rfl (.cons .here rfl .nil))) rfl ?_
    refine RunA.one (i := 3) (by kernel_rfl) (by kernel_rfl) ?_
    refine RunI.callP rfl (isCall_func rfl ent_30) rfl rfl rfl (fun w hm => zTrim_calls c t q cap w) (RunK.toA (.cons .here rfl (.cons .here rfl (.cons .here rfl .nil))) (.cons .here rfl (.cons .here rfl (.cons .here rfl .nil))) rfl ?_)
    refine RunA.toB (by kernel_rfl) ?_
    refine RunB.one (i := 4) (by kernel_rfl) ?_
    refine RunI.callP rfl (isCall_func rfl ent_25) rfl rfl rfl (fun w hm => (by have h9 := zcheck_calls c (trW c t) q b o cap w (hS.mono (by decide) hm (by simp)) hl; rw [check_W, h0] at h9; exact h9)) (RunK.toB ?_)
    refine RunB.one (i := 5) (by kernel_rfl) ?_
    refine RunI.val rfl (Val.pure rfl) rfl rfl rfl (RunK.toB ?_)
    refine RunB.done (by kernel_rfl) ?_
    refine RunE.next ?_
    refine RunC.seq ?_
    refine RunC.seq ?_
    refine RunC.region ?_
    refine RunL.val (Val.pure rfl) rfl rfl rfl ?_
    refine RunL.val (Val.pure rfl) rfl rfl rfl ?_
    refine RunL.nil ?_
    refine RunE.next ?_
    refine RunC.cond rfl (fun h => absurd h (by simp)) ?_
    intro c0
    clear c0
    refine RunC.skip ?_
    refine RunE.next ?_
    refine RunC.seq ?_
    refine RunC.region ?_
    refine RunL.val (Val.load_agg rfl (.tail _ (.tail _ (.head _))) ty_28 rfl) rfl rfl rfl ?_
    refine RunL.val (Val.load_agg rfl (.tail _ (.head _)) ty_30 rfl) rfl rfl rfl ?_
    refine RunL.callP (isCall_func rfl ent_39) rfl rfl rfl (fun w hm => zroom_calls c hc t ht q cap w) ?_
    refine RunL.new (New.alloc zero_23) rfl rfl rfl (fun b7 => ?_)
    refine RunL.sto (Sto.store rfl rfl .here ty_23 rfl rfl) rfl rfl ?_
    refine RunL.nil ?_
    refine RunE.next ?_
    refine RunC.seq ?_
    refine RunC.seq ?_
    refine RunC.region ?_
    refine RunL.val (Val.fieldAddr rfl fld_23_0) rfl rfl rfl ?_
    refine RunL.val (Val.load_one rfl (.head _) ty_3 rfl) rfl rfl rfl ?_
    refine RunL.val (Val.fieldAddr rfl fld_23_1) rfl rfl rfl ?_
    refine RunL.val (Val.load_one rfl (.head _) ty_3 rfl) rfl rfl rfl ?_
    refine RunL.val (Val.pure rfl) rfl rfl rfl ?_
    refine RunL.nil ?_
    refine RunE.next ?_
    refine RunC.cond rfl ?_ ?_
    · intro c1
      have c1' := c1; clear c1
      try simp only [decide_eq_true_eq, decide_eq_false_iff_not, Bool.not_eq_true', Bool.not_eq_false', Bool.and_eq_true, Bool.or_eq_true, Bool.and_eq_false_iff, Bool.or_eq_false_iff, Int.not_le, Int.not_lt] at c1'
      refine RunC.seq ?_
      refine RunC.region ?_
      refine RunL.val (Val.build (parts := []) rfl zero_23 places_23 rfl) rfl rfl rfl ?_
      refine RunL.sto (Sto.store rfl rfl (.there .here) ty_23 rfl rfl) rfl rfl ?_
      refine RunL.val (Val.pure rfl) rfl rfl rfl ?_
      refine RunL.nil ?_
      refine RunE.next ?_
      refine RunC.ret ?_
      refine RunE.pass_ret ?_
      exact RunE.retP (.r2 rfl (.agg rfl (.tail _ (.head _)) ty_23 rfl) (.tmp rfl)) (by simp [roomR, h0, c1', b2v])
    · intro c1
      have c1' := c1; clear c1
      try simp only [decide_eq_true_eq, decide_eq_false_iff_not, Bool.not_eq_true', Bool.not_eq_false', Bool.and_eq_true, Bool.or_eq_true, Bool.and_eq_false_iff, Bool.or_eq_false_iff, Int.not_le, Int.not_lt] at c1'
      refine RunC.skip ?_
      refine RunE.next ?_
      refine RunC.seq ?_
      refine RunC.region ?_
      refine RunL.val (Val.load_agg rfl (.head _) ty_23 rfl) rfl rfl rfl ?_
      refine RunL.sto (Sto.store rfl rfl (.there .here) ty_23 rfl rfl) rfl rfl ?_
      refine RunL.val (Val.pure rfl) rfl rfl rfl ?_
      refine RunL.nil ?_
      refine RunE.next ?_
      refine RunC.ret ?_
      exact RunE.retP (.r2 rfl (.agg rfl (.tail _ (.head _)) ty_23 rfl) (.tmp rfl)) (by simp [roomR, h0, Int.not_lt.2 c1', b2v])
  · refine calls_start Tryz.func13 rfl rfl ?_
    refine RunC.seq ?_
    refine RunC.region ?_
    refine RunL.new (New.box rfl) rfl rfl rfl (fun b2 => ?_)
    refine RunL.new (New.box rfl) rfl rfl rfl (fun b3 => ?_)
    refine RunL.new (New.alloc zero_23) rfl rfl rfl (fun b4 => ?_)
    refine RunL.val (Val.pure rfl) rfl rfl rfl ?_
    refine RunL.nil ?_
    refine RunE.next ?_
    refine RunC.seq ?_
    refine RunC.draw 4 fol_ (.cons .here rfl (.cons .here rfl (.cons .here rfl .nil))) ?_
    refine RunA.val (i := 0) rfl (by kernel_rfl) (by kernel_rfl) (Val.load_agg rfl (.tail _ (.tail _ (.head _))) ty_28 rfl) rfl rfl rfl (fun _ _ _ h => h) (.cons .here rfl (.cons .here rfl (.cons .here rfl .nil))) rfl ?_
    refine RunA.val (i := 1) rfl (by kernel_rfl) (by kernel_rfl) (Val.load_agg rfl (.tail _ (.tail _ (.head _))) ty_28 rfl) rfl rfl rfl (fun _ _ _ h => h) (.cons .here rfl (.cons .here rfl (.cons .here rfl .nil))) rfl ?_
    refine RunA.val (i := 2) rfl (by kernel_rfl) (by kernel_rfl) (Val.load_agg rfl (.tail _ (.head _)) ty_30 rfl) rfl rfl rfl (fun _ _ _ h => h) (.cons .here rfl (.cons .here rfl (.cons .here rfl .nil))) rfl ?_
    refine RunA.one (i := 3) (by kernel_rfl) (by kernel_rfl) ?_
    refine RunI.callP rfl (isCall_func rfl ent_30) rfl rfl rfl (fun w hm => zTrim_calls c t q cap w) (RunK.toA (.cons .here rfl (.cons .here rfl (.cons .here rfl .nil))) (.cons .here rfl (.cons .here rfl (.cons .here rfl .nil))) rfl ?_)
    refine RunA.toB (by kernel_rfl) ?_
    refine RunB.one (i := 4) (by kernel_rfl) ?_
    refine RunI.callP rfl (isCall_func rfl ent_25) rfl rfl rfl (fun w hm => (by have h9 := zcheck_calls c (trW c t) q b o cap w (hS.mono (by decide) hm (by simp)) hl; rw [check_W] at h9; exact h9)) (RunK.toB ?_)
    refine RunB.one (i := 5) (by kernel_rfl) ?_
    refine RunI.val rfl (Val.pure rfl) rfl rfl rfl (RunK.toB ?_)
    refine RunB.done (by kernel_rfl) ?_
    refine RunE.next ?_
    refine RunC.seq ?_
    refine RunC.seq ?_
    refine RunC.region ?_
    refine RunL.val (Val.pure rfl) rfl rfl rfl ?_
    refine RunL.val (Val.pure rfl) rfl rfl rfl ?_
    refine RunL.nil ?_
    refine RunE.next ?_
    refine RunC.cond rfl ?_ (fun h => absurd h (by simp [h0]))
    intro c0
    clear c0
    refine RunC.seq ?_
    refine RunC.region ?_
    refine RunL.val (Val.build (parts := []) rfl zero_23 places_23 rfl) rfl rfl rfl ?_
    refine RunL.val (Val.pure rfl) rfl rfl rfl ?_
    refine RunL.sto (Sto.store rfl rfl .here ty_23 rfl rfl) rfl rfl ?_
    refine RunL.val (Val.pure rfl) rfl rfl rfl ?_
    refine RunL.nil ?_
    refine RunE.next ?_
    refine RunC.ret ?_
    refine RunE.pass_ret ?_
    exact RunE.retP (.r2 rfl (.agg rfl (.head _) ty_23 rfl) (.tmp rfl)) (by simp [roomR, h0, b2v])
theorem zEyes_calls (c : Cd) (t : Tr) (q : Option Addr) (b o cap : Nat) (W : World) (hS : Sl W q b o 9 (c.p.things.map Th.cells)) (hl : c.p.things.length ≤ 100000000000) :
    Calls Tryz.prog 11 #[c.v q cap, t.v] W (Pure (.tuple #[b2v (eyesR c t).1, .int .i64 (eyesR c t).2]) W) := by
  by_cases h0 : checkR c (trR c t) = 0
  · obtain ⟨hp, _, hc, htr⟩ := check_pair h0
    have hpk := isPair_ok hp
    have ht := (trIs_ok (trR_eq c t ▸ htr)).1
    have hsl := seenN_len c.p
    have hl12 := hpk.len
    have ab := apart_bd hc ht
    obtain ⟨h1, h2, h3, h4, h5, h6, h7, h8, h9, h10, h11, h12, h13, h14, h15, h16, h17⟩ := id hc
    rcases Nat.eq_zero_or_pos (seenN c.p).length with hn | hn
    · have hn2 := List.length_eq_zero_iff.1 hn
      have hn3 : seenM c.p = [] := List.length_eq_zero_iff.1 (by rw [seenM_len]; exact hn)
      have hE : eyesOf c t = (1, 10000) := by simp [eyesOf, hn3, narL]
      refine calls_start Tryz.func11 rfl rfl ?_
      refine RunC.seq ?_
      refine RunC.region ?_
      refine RunL.new (New.box rfl) rfl rfl rfl (fun b2 => ?_)
      refine RunL.new (New.box rfl) rfl rfl rfl (fun b3 => ?_)
      refine RunL.new (New.alloc zero_23) rfl rfl rfl (fun b4 => ?_)
      refine RunL.val (Val.pure rfl) rfl rfl rfl ?_
      refine RunL.nil ?_
      refine RunE.next ?_
      refine RunC.seq ?_
      refine RunC.draw 4 fol_ (.cons .here rfl (.cons .here rfl (.cons .here rfl .nil))) ?_
      refine RunA.val (i := 0) rfl (by kernel_rfl) (by kernel_rfl) (Val.load_agg rfl (.tail _ (.tail _ (.head _))) ty_28 rfl) rfl rfl rfl (fun _ _ _ h => h) (.cons .here rfl (.cons .here rfl (.cons .here rfl .nil))) rfl ?_
      refine RunA.val (i := 1) rfl (by kernel_rfl) (by kernel_rfl) (Val.load_agg rfl (.tail _ (.tail _ (.head _))) ty_28 rfl) rfl rfl rfl (fun _ _ _ h => h) (.cons .here rfl (.cons .here rfl (.cons .here rfl .nil))) rfl ?_
      refine RunA.val (i := 2) rfl (by kernel_rfl) (by kernel_rfl) (Val.load_agg rfl (.tail _ (.head _)) ty_30 rfl) rfl rfl rfl (fun _ _ _ h => h) (.cons .here rfl (.cons .here rfl (.cons .here rfl .nil))) rfl ?_
      refine RunA.one (i := 3) (by kernel_rfl) (by kernel_rfl) ?_
      refine RunI.callP rfl (isCall_func rfl ent_30) rfl rfl rfl (fun w hm => zTrim_calls c t q cap w) (RunK.toA (.cons .here rfl (.cons .here rfl (.cons .here rfl .nil))) (.cons .here rfl (.cons .here rfl (.cons .here rfl .nil))) rfl ?_)
      refine RunA.toB (by kernel_rfl) ?_
      refine RunB.one (i := 4) (by kernel_rfl) ?_
      refine RunI.callP rfl (isCall_func rfl ent_25) rfl rfl rfl (fun w hm => (by have h9 := zcheck_calls c (trW c t) q b o cap w (hS.mono (by decide) hm (by simp)) hl; rw [check_W, h0] at h9; exact h9)) (RunK.toB ?_)
      refine RunB.one (i := 5) (by kernel_rfl) ?_
      refine RunI.val rfl (Val.pure rfl) rfl rfl rfl (RunK.toB ?_)
      refine RunB.done (by kernel_rfl) ?_
      refine RunE.next ?_
      refine RunC.seq ?_
      refine RunC.seq ?_
      refine RunC.region ?_
      refine RunL.val (Val.pure rfl) rfl rfl rfl ?_
      refine RunL.val (Val.pure rfl) rfl rfl rfl ?_
      refine RunL.nil ?_
      refine RunE.next ?_
      refine RunC.cond rfl (fun h => absurd h (by simp)) ?_
      intro c0
      clear c0
      refine RunC.skip ?_
      refine RunE.next ?_
      refine RunC.seq ?_
      refine RunC.region ?_
      refine RunL.val (Val.load_agg rfl (.tail _ (.tail _ (.head _))) ty_28 rfl) rfl rfl rfl ?_
      refine RunL.callP (isCall_func rfl ent_26) rfl rfl rfl (fun w hm => zempty c hn2 hpk q b o cap w (hS.mono (by decide) hm (by simp))) ?_
      refine RunL.val (Val.pure rfl) rfl rfl rfl ?_
      refine RunL.nil ?_
      refine RunE.next ?_
      refine RunC.seq ?_
      refine RunC.region ?_
      refine RunL.val (Val.build (parts := [(0, .const (.int .i64 1)), (1, .const (.int .i64 10000))]) rfl zero_23 places_23 rfl) rfl rfl rfl ?_
      refine RunL.new (New.alloc zero_23) rfl rfl rfl (fun b8 => ?_)
      refine RunL.sto (Sto.store rfl rfl .here ty_23 rfl rfl) rfl rfl ?_
      refine RunL.nil ?_
      refine RunE.next ?_
      refine RunC.seq ?_
      refine RunC.seq ?_
      refine RunC.region ?_
      refine RunL.val (Val.pure rfl) rfl rfl rfl ?_
      refine RunL.nil ?_
      refine RunE.next ?_
      refine RunC.block ?_
      refine RunC.loopK (0) (fun k q => (9, .int .i64 (k : Int)) :: q) (fun _ => _) (fun _ => []) (fun _ => True) trivial rfl (Sub.consE (t := 9) rfl rfl (Sub.cons (t := 2) rfl (Sub.cons (t := 3) rfl (Sub.cons (t := 4) rfl (Sub.cons (t := 7) rfl (Sub.cons (t := 8) rfl (Sub.nil _))))))) (.cons .here rfl (.cons .here rfl (.cons (.there .here) rfl (.cons .here rfl .nil)))) ?_
      intro k kN kI
      clear kI
      refine RunC.seq ?_
      refine RunC.seq ?_
      refine RunC.region ?_
      refine RunL.val (Val.pure rfl) rfl rfl rfl ?_
      refine RunL.val (Val.pure rfl) rfl rfl rfl ?_
      refine RunL.val (Val.len_sl rfl sl_55) rfl rfl rfl ?_
      refine RunL.val (Val.pure rfl) rfl rfl rfl ?_
      refine RunL.nil ?_
      refine RunE.next ?_
      refine RunC.cond rfl (fun h => absurd h (by simp)) ?_
      intro c1
      clear c1
      refine RunC.exit ?_
      refine RunE.pass_exit ?_
      refine RunE.pass_exit ?_
      refine RunE.block_here ?_
      refine RunE.next ?_
      refine RunC.seq ?_
      refine RunC.seq ?_
      refine RunC.region ?_
      refine RunL.val (Val.fieldAddr rfl fld_23_0) rfl rfl rfl ?_
      refine RunL.val (Val.load_one rfl (.head _) ty_3 rfl) rfl rfl rfl ?_
      refine RunL.val (Val.fieldAddr rfl fld_23_1) rfl rfl rfl ?_
      refine RunL.val (Val.load_one rfl (.head _) ty_3 rfl) rfl rfl rfl ?_
      refine RunL.val (Val.pure rfl) rfl rfl rfl ?_
      refine RunL.nil ?_
      refine RunE.next ?_
      refine RunC.cond rfl (fun h => absurd h (by simp)) ?_
      intro c2
      clear c2
      refine RunC.skip ?_
      refine RunE.next ?_
      refine RunC.seq ?_
      refine RunC.region ?_
      refine RunL.val (Val.load_agg rfl (.head _) ty_23 rfl) rfl rfl rfl ?_
      refine RunL.sto (Sto.store rfl rfl (.there .here) ty_23 rfl rfl) rfl rfl ?_
      refine RunL.val (Val.pure rfl) rfl rfl rfl ?_
      refine RunL.nil ?_
      refine RunE.next ?_
      refine RunC.ret ?_
      exact RunE.retP (.r2 rfl (.agg rfl (.tail _ (.head _)) ty_23 rfl) (.tmp rfl)) (by simp [eyesR, h0, hE, b2v])
    · refine calls_start Tryz.func11 rfl rfl ?_
      refine RunC.seq ?_
      refine RunC.region ?_
      refine RunL.new (New.box rfl) rfl rfl rfl (fun b2 => ?_)
      refine RunL.new (New.box rfl) rfl rfl rfl (fun b3 => ?_)
      refine RunL.new (New.alloc zero_23) rfl rfl rfl (fun b4 => ?_)
      refine RunL.val (Val.pure rfl) rfl rfl rfl ?_
      refine RunL.nil ?_
      refine RunE.next ?_
      refine RunC.seq ?_
      refine RunC.draw 4 fol_ (.cons .here rfl (.cons .here rfl (.cons .here rfl .nil))) ?_
      refine RunA.val (i := 0) rfl (by kernel_rfl) (by kernel_rfl) (Val.load_agg rfl (.tail _ (.tail _ (.head _))) ty_28 rfl) rfl rfl rfl (fun _ _ _ h => h) (.cons .here rfl (.cons .here rfl (.cons .here rfl .nil))) rfl ?_
      refine RunA.val (i := 1) rfl (by kernel_rfl) (by kernel_rfl) (Val.load_agg rfl (.tail _ (.tail _ (.head _))) ty_28 rfl) rfl rfl rfl (fun _ _ _ h => h) (.cons .here rfl (.cons .here rfl (.cons .here rfl .nil))) rfl ?_
      refine RunA.val (i := 2) rfl (by kernel_rfl) (by kernel_rfl) (Val.load_agg rfl (.tail _ (.head _)) ty_30 rfl) rfl rfl rfl (fun _ _ _ h => h) (.cons .here rfl (.cons .here rfl (.cons .here rfl .nil))) rfl ?_
      refine RunA.one (i := 3) (by kernel_rfl) (by kernel_rfl) ?_
      refine RunI.callP rfl (isCall_func rfl ent_30) rfl rfl rfl (fun w hm => zTrim_calls c t q cap w) (RunK.toA (.cons .here rfl (.cons .here rfl (.cons .here rfl .nil))) (.cons .here rfl (.cons .here rfl (.cons .here rfl .nil))) rfl ?_)
      refine RunA.toB (by kernel_rfl) ?_
      refine RunB.one (i := 4) (by kernel_rfl) ?_
      refine RunI.callP rfl (isCall_func rfl ent_25) rfl rfl rfl (fun w hm => (by have h9 := zcheck_calls c (trW c t) q b o cap w (hS.mono (by decide) hm (by simp)) hl; rw [check_W, h0] at h9; exact h9)) (RunK.toB ?_)
      refine RunB.one (i := 5) (by kernel_rfl) ?_
      refine RunI.val rfl (Val.pure rfl) rfl rfl rfl (RunK.toB ?_)
      refine RunB.done (by kernel_rfl) ?_
      refine RunE.next ?_
      refine RunC.seq ?_
      refine RunC.seq ?_
      refine RunC.region ?_
      refine RunL.val (Val.pure rfl) rfl rfl rfl ?_
      refine RunL.val (Val.pure rfl) rfl rfl rfl ?_
      refine RunL.nil ?_
      refine RunE.next ?_
      refine RunC.cond rfl (fun h => absurd h (by simp)) ?_
      intro c0
      clear c0
      refine RunC.skip ?_
      refine RunE.next ?_
      refine RunC.seq ?_
      refine RunC.region ?_
      refine RunL.val (Val.load_agg rfl (.tail _ (.tail _ (.head _))) ty_28 rfl) rfl rfl rfl ?_
      refine RunL.callN (isCall_func rfl ent_26) rfl rfl rfl (fun w hm => zsome c hn hpk q b o cap w (hS.mono (by decide) hm (by simp))) (fun b21 => ?_)
      refine RunL.val (Val.pure rfl) rfl rfl rfl ?_
      refine RunL.nil ?_
      refine RunE.next ?_
      refine RunC.seq ?_
      refine RunC.region ?_
      refine RunL.val (Val.build (parts := [(0, .const (.int .i64 1)), (1, .const (.int .i64 10000))]) rfl zero_23 places_23 rfl) rfl rfl rfl ?_
      refine RunL.new (New.alloc zero_23) rfl rfl rfl (fun b8 => ?_)
      refine RunL.sto (Sto.store rfl rfl .here ty_23 rfl rfl) rfl rfl ?_
      refine RunL.nil ?_
      refine RunE.next ?_
      refine RunC.seq ?_
      refine RunC.seq ?_
      refine RunC.region ?_
      refine RunL.val (Val.pure rfl) rfl rfl rfl ?_
      refine RunL.nil ?_
      refine RunE.next ?_
      refine RunC.block ?_
      refine RunC.loopK ((seenN c.p).length) (fun k q => (9, .int .i64 (k : Int)) :: q) (fun _ => _) (fun k => [(b8, .cells (b2c (eyK c t k)).toArray 23 (0, 0))]) (fun _ => True) trivial rfl (Sub.consE (t := 9) rfl rfl (Sub.cons (t := 2) rfl (Sub.cons (t := 3) rfl (Sub.cons (t := 4) rfl (Sub.cons (t := 7) rfl (Sub.cons (t := 8) rfl (Sub.nil _))))))) (.cons .here rfl (.cons .here rfl (.cons .here rfl (.cons (.there .here) rfl (.cons .here rfl .nil))))) ?_
      intro k kN kI
      clear kI
      refine RunC.seq ?_
      refine RunC.seq ?_
      refine RunC.region ?_
      refine RunL.val (Val.pure rfl) rfl rfl rfl ?_
      refine RunL.val (Val.pure rfl) rfl rfl rfl ?_
      refine RunL.val (Val.len_sl rfl sl_55) rfl rfl rfl ?_
      refine RunL.val (Val.pure rfl) rfl rfl rfl ?_
      refine RunL.nil ?_
      refine RunE.next ?_
      refine RunC.cond rfl ?_ ?_
      · intro c1
        have c1' := c1; clear c1
        try simp only [decide_eq_true_eq, decide_eq_false_iff_not, Bool.not_eq_true', Bool.not_eq_false', Bool.and_eq_true, Bool.or_eq_true, Bool.and_eq_false_iff, Bool.or_eq_false_iff, Int.not_le, Int.not_lt] at c1'
        have hk : k < (seenN c.p).length := by omega
        obtain ⟨j, hi, hj, hw⟩ := seenN_in (List.getElem_mem hk)
        obtain ⟨y, hy⟩ : ∃ y, c.p.things[j] = y := ⟨_, rfl⟩
        have hyo := (hpk.ths y (hy ▸ List.getElem_mem hj)).1
        have sbd := shift_bd hyo
        refine RunC.skip ?_
        refine RunE.next ?_
        refine RunC.seq ?_
        refine RunC.block ?_
        refine RunC.seq ?_
        apply RunC.drawJ (J := J1 _ _ _ _ _ _) 11 fol_ (.cons .here rfl (.cons .here rfl (.cons .here rfl (.cons .here rfl (.cons .here rfl .nil)))))
        · refine RunA.val (i := 0) rfl (by kernel_rfl) (by kernel_rfl) (Val.fieldAddr rfl fld_28_0) rfl rfl rfl (fun _ _ _ h => h) (.cons .here rfl (.cons .here rfl (.cons .here rfl (.cons .here rfl (.cons .here rfl .nil))))) rfl ?_
          refine RunA.val (i := 1) rfl (by kernel_rfl) (by kernel_rfl) (Val.fieldAddr rfl fld_26_5) rfl rfl rfl (fun _ _ _ h => h) (.cons .here rfl (.cons .here rfl (.cons .here rfl (.cons .here rfl (.cons .here rfl .nil))))) rfl ?_
          refine RunA.val (i := 2) rfl (by kernel_rfl) (by kernel_rfl) (Val.load_one rfl (.tail _ (.tail _ (.tail _ (.head _)))) ty_24 rfl) rfl rfl rfl (fun _ _ _ h => h) (.cons .here rfl (.cons .here rfl (.cons .here rfl (.cons .here rfl (.cons .here rfl .nil))))) rfl ?_
          refine RunA.val (i := 3) rfl (by kernel_rfl) (by kernel_rfl) (Val.pure rfl) rfl rfl rfl (fun _ _ _ h => h) (.cons .here rfl (.cons .here rfl (.cons .here rfl (.cons .here rfl (.cons .here rfl .nil))))) rfl ?_
          refine RunA.val (i := 4) rfl (by kernel_rfl) (by kernel_rfl) (Val.pure rfl) rfl rfl rfl (fun _ _ _ h => h) (.cons .here rfl (.cons .here rfl (.cons .here rfl (.cons .here rfl (.cons .here rfl .nil))))) rfl ?_
          refine RunA.val (i := 5) rfl (by kernel_rfl) (by kernel_rfl) (Val.indexAddr_slp rfl rfl sl_55 (by omega) (by omega) rfl) rfl rfl rfl (fun _ _ _ h => h) (.cons .here rfl (.cons .here rfl (.cons .here rfl (.cons .here rfl (.cons .here rfl .nil))))) rfl ?_
          refine RunA.val (i := 6) rfl (by kernel_rfl) (by kernel_rfl) (Val.load_gen rfl (fun w hm => (some_sl (hm.at (.tail _ (.head _)))).loadM1 (by decide) (Mem.refl w) (by simp) ty_3 hk (v := .int .i64 (j : Int)) (by rw [hi]; rfl))) rfl rfl rfl (fun _ _ _ h => h) (.cons .here rfl (.cons .here rfl (.cons .here rfl (.cons .here rfl (.cons .here rfl .nil))))) rfl ?_
          refine RunA.val (i := 7) rfl (by kernel_rfl) (by kernel_rfl) (Val.indexAddr_slp rfl rfl sl_24 (by omega) (by omega) (hS.ptrM hj)) rfl rfl rfl (fun _ _ _ h => h) (.cons .here rfl (.cons .here rfl (.cons .here rfl (.cons .here rfl (.cons .here rfl .nil))))) rfl ?_
          refine RunA.val (i := 8) rfl (by kernel_rfl) (by kernel_rfl) (Val.load_gen rfl (fun w hm => hS.loadX (by decide) hm (by simp) ty_76 hj hy)) rfl rfl rfl (fun _ _ _ h => h) (.cons .here rfl (.cons .here rfl (.cons .here rfl (.cons .here rfl (.cons .here rfl .nil))))) rfl ?_
          refine RunA.all (rs := [9, 10]) (by kernel_rfl) (by simp) (by kernel_rfl) (fun m hm => ?_)
          simp only [List.mem_cons, List.not_mem_nil, or_false] at hm
          rcases hm with rfl | rfl
          · refine RunI.callP rfl (isCall_func rfl ent_36) rfl rfl rfl (fun w hm => rOf_calls y hyo w) (RunK.toA (.cons .here rfl (.cons .here rfl (.cons .here rfl (.cons .here rfl (.cons .here rfl .nil))))) (.cons .here rfl (.cons .here rfl (.cons .here rfl (.cons .here rfl (.cons .here rfl .nil))))) rfl ?_)
            refine RunA.one (i := 10) (by kernel_rfl) (by kernel_rfl) ?_
            refine RunI.new rfl (New.alloc zero_23) rfl rfl rfl (fun b10 => (RunK.toA (.cons .here rfl (.cons .here rfl (.cons .here rfl (.cons .here rfl (.cons .here rfl (.cons .here rfl .nil)))))) (.cons (.there .here) rfl (.cons (.there .here) rfl (.cons (.there .here) rfl (.cons (.there .here) rfl (.cons (.there .here) rfl .nil))))) rfl ?_))
            refine RunA.toB (by kernel_rfl) ?_
            refine RunB.one (i := 11) (by kernel_rfl) ?_
            refine RunI.sto rfl (Sto.store rfl rfl .here ty_23 rfl rfl) rfl rfl (RunK.toB ?_)
            refine RunB.done (by kernel_rfl) ?_
            exact RunE.join1 b10 (Sub.refl _) (Pick.refl _)
          · refine RunI.new rfl (New.alloc zero_23) rfl rfl rfl (fun b10 => (RunK.toA (.cons .here rfl (.cons .here rfl (.cons .here rfl (.cons .here rfl (.cons .here rfl (.cons .here rfl .nil)))))) (.cons (.there .here) rfl (.cons (.there .here) rfl (.cons (.there .here) rfl (.cons (.there .here) rfl (.cons (.there .here) rfl .nil))))) rfl ?_))
            refine RunA.one (i := 9) (by kernel_rfl) (by kernel_rfl) ?_
            refine RunI.callP rfl (isCall_func rfl ent_36) rfl rfl rfl (fun w hm => rOf_calls y hyo w) (RunK.toA (.cons .here rfl (.cons .here rfl (.cons .here rfl (.cons .here rfl (.cons .here rfl (.cons .here rfl .nil)))))) (.cons .here rfl (.cons .here rfl (.cons .here rfl (.cons .here rfl (.cons .here rfl (.cons .here rfl .nil)))))) rfl ?_)
            refine RunA.toB (by kernel_rfl) ?_
            refine RunB.one (i := 11) (by kernel_rfl) ?_
            refine RunI.sto rfl (Sto.store rfl rfl .here ty_23 rfl rfl) rfl rfl (RunK.toB ?_)
            refine RunB.done (by kernel_rfl) ?_
            exact RunE.join1 b10 (Sub.cons (t := 10) rfl (Sub.cons (t := 38) rfl (Sub.cons (t := 37) rfl (Sub.cons (t := 36) rfl (Sub.cons (t := 35) rfl (Sub.cons (t := 34) rfl (Sub.cons (t := 33) rfl (Sub.cons (t := 32) rfl (Sub.cons (t := 31) rfl (Sub.cons (t := 30) rfl (Sub.cons (t := 29) rfl (Sub.skip rfl (Sub.skip rfl (Sub.skip rfl (Sub.skip rfl (Sub.skip rfl (Sub.skip rfl (Sub.skip rfl (Sub.skip rfl (Sub.skip rfl (Sub.skip rfl (Sub.skip rfl (Sub.refl _))))))))))))))))))))))) (.cons .here rfl (.cons .here rfl (.cons .here rfl (.cons .here rfl (.cons .here rfl (.cons .here rfl .nil))))))
        refine J1.out (fun b10 => ?_)
        refine RunE.next ?_
        refine RunC.draw 22 fol_ (.cons .here rfl (.cons .here rfl (.cons .here rfl (.cons .here rfl (.cons .here rfl (.cons .here rfl .nil)))))) ?_
        refine RunA.val (i := 0) rfl (by kernel_rfl) (by kernel_rfl) (Val.fieldAddr rfl fld_23_0) rfl rfl rfl (fun _ _ _ h => h) (.cons .here rfl (.cons .here rfl (.cons .here rfl (.cons .here rfl (.cons .here rfl (.cons .here rfl .nil)))))) rfl ?_
        refine RunA.val (i := 1) rfl (by kernel_rfl) (by kernel_rfl) (Val.load_one rfl (.tail _ (.head _)) ty_3 rfl) rfl rfl rfl (fun _ _ _ h => h) (.cons .here rfl (.cons .here rfl (.cons .here rfl (.cons .here rfl (.cons .here rfl (.cons .here rfl .nil)))))) rfl ?_
        refine RunA.val (i := 2) rfl (by kernel_rfl) (by kernel_rfl) (Val.load_agg rfl (.tail _ (.tail _ (.tail _ (.tail _ (.head _))))) ty_28 rfl) rfl rfl rfl (fun _ _ _ h => h) (.cons .here rfl (.cons .here rfl (.cons .here rfl (.cons .here rfl (.cons .here rfl (.cons .here rfl .nil)))))) rfl ?_
        refine RunA.val (i := 3) rfl (by kernel_rfl) (by kernel_rfl) (Val.load_agg rfl (.tail _ (.tail _ (.tail _ (.tail _ (.tail _ (.head _)))))) ty_30 rfl) rfl rfl rfl (fun _ _ _ h => h) (.cons .here rfl (.cons .here rfl (.cons .here rfl (.cons .here rfl (.cons .here rfl (.cons .here rfl .nil)))))) rfl ?_
        refine RunA.val (i := 4) rfl (by kernel_rfl) (by kernel_rfl) (Val.fieldAddr rfl fld_23_0) rfl rfl rfl (fun _ _ _ h => h) (.cons .here rfl (.cons .here rfl (.cons .here rfl (.cons .here rfl (.cons .here rfl (.cons .here rfl .nil)))))) rfl ?_
        refine RunA.val (i := 5) rfl (by kernel_rfl) (by kernel_rfl) (Val.load_one rfl (.head _) ty_3 rfl) rfl rfl rfl (fun _ _ _ h => h) (.cons .here rfl (.cons .here rfl (.cons .here rfl (.cons .here rfl (.cons .here rfl (.cons .here rfl .nil)))))) rfl ?_
        refine RunA.val (i := 7) rfl (by kernel_rfl) (by kernel_rfl) (Val.fieldAddr rfl fld_28_5) rfl rfl rfl (fun _ _ _ h => h) (.cons .here rfl (.cons .here rfl (.cons .here rfl (.cons .here rfl (.cons .here rfl (.cons .here rfl .nil)))))) rfl ?_
        refine RunA.val (i := 8) rfl (by kernel_rfl) (by kernel_rfl) (Val.load_one rfl (.tail _ (.tail _ (.tail _ (.tail _ (.head _))))) ty_3 rfl) rfl rfl rfl (fun _ _ _ h => h) (.cons .here rfl (.cons .here rfl (.cons .here rfl (.cons .here rfl (.cons .here rfl (.cons .here rfl .nil)))))) rfl ?_
        refine RunA.val (i := 11) rfl (by kernel_rfl) (by kernel_rfl) (Val.fieldAddr rfl fld_23_1) rfl rfl rfl (fun _ _ _ h => h) (.cons .here rfl (.cons .here rfl (.cons .here rfl (.cons .here rfl (.cons .here rfl (.cons .here rfl .nil)))))) rfl ?_
        refine RunA.val (i := 12) rfl (by kernel_rfl) (by kernel_rfl) (Val.load_one rfl (.tail _ (.head _)) ty_3 rfl) rfl rfl rfl (fun _ _ _ h => h) (.cons .here rfl (.cons .here rfl (.cons .here rfl (.cons .here rfl (.cons .here rfl (.cons .here rfl .nil)))))) rfl ?_
        refine RunA.val (i := 13) rfl (by kernel_rfl) (by kernel_rfl) (Val.load_agg rfl (.tail _ (.tail _ (.tail _ (.tail _ (.head _))))) ty_28 rfl) rfl rfl rfl (fun _ _ _ h => h) (.cons .here rfl (.cons .here rfl (.cons .here rfl (.cons .here rfl (.cons .here rfl (.cons .here rfl .nil)))))) rfl ?_
        refine RunA.val (i := 14) rfl (by kernel_rfl) (by kernel_rfl) (Val.load_agg rfl (.tail _ (.tail _ (.tail _ (.tail _ (.tail _ (.head _)))))) ty_30 rfl) rfl rfl rfl (fun _ _ _ h => h) (.cons .here rfl (.cons .here rfl (.cons .here rfl (.cons .here rfl (.cons .here rfl (.cons .here rfl .nil)))))) rfl ?_
        refine RunA.val (i := 15) rfl (by kernel_rfl) (by kernel_rfl) (Val.fieldAddr rfl fld_23_1) rfl rfl rfl (fun _ _ _ h => h) (.cons .here rfl (.cons .here rfl (.cons .here rfl (.cons .here rfl (.cons .here rfl (.cons .here rfl .nil)))))) rfl ?_
        refine RunA.val (i := 16) rfl (by kernel_rfl) (by kernel_rfl) (Val.load_one rfl (.head _) ty_3 rfl) rfl rfl rfl (fun _ _ _ h => h) (.cons .here rfl (.cons .here rfl (.cons .here rfl (.cons .here rfl (.cons .here rfl (.cons .here rfl .nil)))))) rfl ?_
        refine RunA.val (i := 18) rfl (by kernel_rfl) (by kernel_rfl) (Val.fieldAddr rfl fld_28_6) rfl rfl rfl (fun _ _ _ h => h) (.cons .here rfl (.cons .here rfl (.cons .here rfl (.cons .here rfl (.cons .here rfl (.cons .here rfl .nil)))))) rfl ?_
        refine RunA.val (i := 19) rfl (by kernel_rfl) (by kernel_rfl) (Val.load_one rfl (.tail _ (.tail _ (.tail _ (.tail _ (.head _))))) ty_3 rfl) rfl rfl rfl (fun _ _ _ h => h) (.cons .here rfl (.cons .here rfl (.cons .here rfl (.cons .here rfl (.cons .here rfl (.cons .here rfl .nil)))))) rfl ?_
        refine RunA.one (i := 6) (by kernel_rfl) (by kernel_rfl) ?_
        refine RunI.callP rfl (isCall_func rfl ent_37) rfl rfl rfl (fun w hm => zApart_calls c hc t ht _ (by omega) q cap w) (RunK.toA (.cons .here rfl (.cons .here rfl (.cons .here rfl (.cons .here rfl (.cons .here rfl (.cons .here rfl .nil)))))) (.cons .here rfl (.cons .here rfl (.cons .here rfl (.cons .here rfl (.cons .here rfl (.cons .here rfl .nil)))))) rfl ?_)
        refine RunA.val (i := 9) rfl (by kernel_rfl) (by kernel_rfl) (Val.sub' rfl rfl (IntWalk.i64_in _ ⟨by omega, by omega⟩)) rfl rfl rfl (fun _ _ _ h => h) (.cons .here rfl (.cons .here rfl (.cons .here rfl (.cons .here rfl (.cons .here rfl (.cons .here rfl .nil)))))) rfl ?_
        refine RunA.val (i := 10) rfl (by kernel_rfl) (by kernel_rfl) (Val.max rfl rfl) rfl rfl rfl (fun _ _ _ h => h) (.cons .here rfl (.cons .here rfl (.cons .here rfl (.cons .here rfl (.cons .here rfl (.cons .here rfl .nil)))))) rfl ?_
        refine RunA.one (i := 17) (by kernel_rfl) (by kernel_rfl) ?_
        refine RunI.callP rfl (isCall_func rfl ent_37) rfl rfl rfl (fun w hm => zApart_calls c hc t ht _ (by omega) q cap w) (RunK.toA (.cons .here rfl (.cons .here rfl (.cons .here rfl (.cons .here rfl (.cons .here rfl (.cons .here rfl .nil)))))) (.cons .here rfl (.cons .here rfl (.cons .here rfl (.cons .here rfl (.cons .here rfl (.cons .here rfl .nil)))))) rfl ?_)
        refine RunA.val (i := 20) rfl (by kernel_rfl) (by kernel_rfl) (Val.add rfl rfl (IntWalk.i64_in _ ⟨by omega, by omega⟩)) rfl rfl rfl (fun _ _ _ h => h) (.cons .here rfl (.cons .here rfl (.cons .here rfl (.cons .here rfl (.cons .here rfl (.cons .here rfl .nil)))))) rfl ?_
        refine RunA.val (i := 21) rfl (by kernel_rfl) (by kernel_rfl) (Val.min rfl rfl) rfl rfl rfl (fun _ _ _ h => h) (.cons .here rfl (.cons .here rfl (.cons .here rfl (.cons .here rfl (.cons .here rfl (.cons .here rfl .nil)))))) rfl ?_
        refine RunA.toB (by kernel_rfl) ?_
        refine RunB.one (i := 22) (by kernel_rfl) ?_
        refine RunI.val rfl (Val.build (parts := [(0, .tmp 49), (1, .tmp 60)]) rfl zero_23 places_23 rfl) rfl rfl rfl (RunK.toB ?_)
        refine RunB.one (i := 23) (by kernel_rfl) ?_
        refine RunI.sto rfl (Sto.store rfl rfl (.there .here) ty_23 rfl rfl) rfl rfl (RunK.toB ?_)
        refine RunB.done (by kernel_rfl) ?_
        refine RunE.block_normal ?_
        refine RunE.next ?_
        refine RunC.region ?_
        refine RunL.val (Val.pure rfl) rfl rfl rfl ?_
        refine RunL.val (Val.add rfl rfl (IntWalk.i64_in _ ⟨by omega, by omega⟩)) rfl rfl rfl ?_
        refine RunL.val (Val.pure rfl) rfl rfl rfl ?_
        refine RunL.nil ?_
        exact RunE.round (by omega) trivial rfl (Sub.consE (t := 9) rfl rfl (Sub.cons (t := 2) rfl (Sub.cons (t := 3) rfl (Sub.cons (t := 4) rfl (Sub.cons (t := 7) rfl (Sub.cons (t := 8) rfl (Sub.nil _))))))) (.cons (.there .here) (by rw [eyK_snoc hk hi, shift_at hp hj, thingAt_eq hj hy]; rfl) (.cons (.there .here) rfl (.cons (.there .here) rfl (.cons (.there .here) rfl (.cons (.there .here) rfl .nil)))))
      · intro c1
        have c1' := c1; clear c1
        try simp only [decide_eq_true_eq, decide_eq_false_iff_not, Bool.not_eq_true', Bool.not_eq_false', Bool.and_eq_true, Bool.or_eq_true, Bool.and_eq_false_iff, Bool.or_eq_false_iff, Int.not_le, Int.not_lt] at c1'
        obtain rfl : k = (seenN c.p).length := by omega
        simp only [eyK_all]
        refine RunC.exit ?_
        refine RunE.pass_exit ?_
        refine RunE.pass_exit ?_
        refine RunE.block_here ?_
        refine RunE.next ?_
        refine RunC.seq ?_
        refine RunC.seq ?_
        refine RunC.region ?_
        refine RunL.val (Val.fieldAddr rfl fld_23_0) rfl rfl rfl ?_
        refine RunL.val (Val.load_one rfl (.head _) ty_3 rfl) rfl rfl rfl ?_
        refine RunL.val (Val.fieldAddr rfl fld_23_1) rfl rfl rfl ?_
        refine RunL.val (Val.load_one rfl (.head _) ty_3 rfl) rfl rfl rfl ?_
        refine RunL.val (Val.pure rfl) rfl rfl rfl ?_
        refine RunL.nil ?_
        refine RunE.next ?_
        refine RunC.cond rfl ?_ ?_
        · intro c2
          have c2' := c2; clear c2
          try simp only [decide_eq_true_eq, decide_eq_false_iff_not, Bool.not_eq_true', Bool.not_eq_false', Bool.and_eq_true, Bool.or_eq_true, Bool.and_eq_false_iff, Bool.or_eq_false_iff, Int.not_le, Int.not_lt] at c2'
          refine RunC.seq ?_
          refine RunC.region ?_
          refine RunL.val (Val.build (parts := []) rfl zero_23 places_23 rfl) rfl rfl rfl ?_
          refine RunL.sto (Sto.store rfl rfl (.there (.there .here)) ty_23 rfl rfl) rfl rfl ?_
          refine RunL.val (Val.pure rfl) rfl rfl rfl ?_
          refine RunL.nil ?_
          refine RunE.next ?_
          refine RunC.ret ?_
          refine RunE.pass_ret ?_
          exact RunE.retP (.r2 rfl (.agg rfl (.tail _ (.tail _ (.head _))) ty_23 rfl) (.tmp rfl)) (by simp [eyesR, h0, c2', b2v])
        · intro c2
          have c2' := c2; clear c2
          try simp only [decide_eq_true_eq, decide_eq_false_iff_not, Bool.not_eq_true', Bool.not_eq_false', Bool.and_eq_true, Bool.or_eq_true, Bool.and_eq_false_iff, Bool.or_eq_false_iff, Int.not_le, Int.not_lt] at c2'
          refine RunC.skip ?_
          refine RunE.next ?_
          refine RunC.seq ?_
          refine RunC.region ?_
          refine RunL.val (Val.load_agg rfl (.head _) ty_23 rfl) rfl rfl rfl ?_
          refine RunL.sto (Sto.store rfl rfl (.there (.there .here)) ty_23 rfl rfl) rfl rfl ?_
          refine RunL.val (Val.pure rfl) rfl rfl rfl ?_
          refine RunL.nil ?_
          refine RunE.next ?_
          refine RunC.ret ?_
          exact RunE.retP (.r2 rfl (.agg rfl (.tail _ (.tail _ (.head _))) ty_23 rfl) (.tmp rfl)) (by simp [eyesR, h0, Int.not_lt.2 c2', b2v])
  · refine calls_start Tryz.func11 rfl rfl ?_
    refine RunC.seq ?_
    refine RunC.region ?_
    refine RunL.new (New.box rfl) rfl rfl rfl (fun b2 => ?_)
    refine RunL.new (New.box rfl) rfl rfl rfl (fun b3 => ?_)
    refine RunL.new (New.alloc zero_23) rfl rfl rfl (fun b4 => ?_)
    refine RunL.val (Val.pure rfl) rfl rfl rfl ?_
    refine RunL.nil ?_
    refine RunE.next ?_
    refine RunC.seq ?_
    refine RunC.draw 4 fol_ (.cons .here rfl (.cons .here rfl (.cons .here rfl .nil))) ?_
    refine RunA.val (i := 0) rfl (by kernel_rfl) (by kernel_rfl) (Val.load_agg rfl (.tail _ (.tail _ (.head _))) ty_28 rfl) rfl rfl rfl (fun _ _ _ h => h) (.cons .here rfl (.cons .here rfl (.cons .here rfl .nil))) rfl ?_
    refine RunA.val (i := 1) rfl (by kernel_rfl) (by kernel_rfl) (Val.load_agg rfl (.tail _ (.tail _ (.head _))) ty_28 rfl) rfl rfl rfl (fun _ _ _ h => h) (.cons .here rfl (.cons .here rfl (.cons .here rfl .nil))) rfl ?_
    refine RunA.val (i := 2) rfl (by kernel_rfl) (by kernel_rfl) (Val.load_agg rfl (.tail _ (.head _)) ty_30 rfl) rfl rfl rfl (fun _ _ _ h => h) (.cons .here rfl (.cons .here rfl (.cons .here rfl .nil))) rfl ?_
    refine RunA.one (i := 3) (by kernel_rfl) (by kernel_rfl) ?_
    refine RunI.callP rfl (isCall_func rfl ent_30) rfl rfl rfl (fun w hm => zTrim_calls c t q cap w) (RunK.toA (.cons .here rfl (.cons .here rfl (.cons .here rfl .nil))) (.cons .here rfl (.cons .here rfl (.cons .here rfl .nil))) rfl ?_)
    refine RunA.toB (by kernel_rfl) ?_
    refine RunB.one (i := 4) (by kernel_rfl) ?_
    refine RunI.callP rfl (isCall_func rfl ent_25) rfl rfl rfl (fun w hm => (by have h9 := zcheck_calls c (trW c t) q b o cap w (hS.mono (by decide) hm (by simp)) hl; rw [check_W] at h9; exact h9)) (RunK.toB ?_)
    refine RunB.one (i := 5) (by kernel_rfl) ?_
    refine RunI.val rfl (Val.pure rfl) rfl rfl rfl (RunK.toB ?_)
    refine RunB.done (by kernel_rfl) ?_
    refine RunE.next ?_
    refine RunC.seq ?_
    refine RunC.seq ?_
    refine RunC.region ?_
    refine RunL.val (Val.pure rfl) rfl rfl rfl ?_
    refine RunL.val (Val.pure rfl) rfl rfl rfl ?_
    refine RunL.nil ?_
    refine RunE.next ?_
    refine RunC.cond rfl ?_ (fun h => absurd h (by simp [h0]))
    intro c0
    clear c0
    refine RunC.seq ?_
    refine RunC.region ?_
    refine RunL.val (Val.build (parts := []) rfl zero_23 places_23 rfl) rfl rfl rfl ?_
    refine RunL.val (Val.pure rfl) rfl rfl rfl ?_
    refine RunL.sto (Sto.store rfl rfl .here ty_23 rfl rfl) rfl rfl ?_
    refine RunL.val (Val.pure rfl) rfl rfl rfl ?_
    refine RunL.nil ?_
    refine RunE.next ?_
    refine RunC.ret ?_
    refine RunE.pass_ret ?_
    exact RunE.retP (.r2 rfl (.agg rfl (.head _) ty_23 rfl) (.tmp rfl)) (by simp [eyesR, h0, b2v])
end Go.Proofs.YthoheicppmbepaaGreat
