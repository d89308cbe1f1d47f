/- Walks of package mount: depths. -/
import Derived.Test.YthoheicppmbepaaGreatMf
set_option linter.unusedSimpArgs false
set_option linter.unusedVariables false
namespace Go.Pw1
open Go Go.Eng
theorem div_anti {a z z' : Int} (ha : 0 ≤ a) (hz : 0 < z) (h : z ≤ z') : a / z' ≤ a / z := by
  have h1 : a / z < a / z + 1 := by omega
  have h2 := (Int.ediv_lt_iff_lt_mul hz).1 h1
  have h0 : 0 ≤ a / z := Int.ediv_nonneg ha (by omega)
  have h3 : (a / z + 1) * z ≤ (a / z + 1) * z' := Int.mul_le_mul_of_nonneg_left h (by omega)
  have h4 := (Int.ediv_lt_iff_lt_mul (show 0 < z' by omega)).2 (Int.lt_of_lt_of_le h2 h3)
  omega
/-- With the distance the shifts get no greater. -/
theorem stands_anti {p : Pr} (hp : isPair p = true) (hb : isB (allS p) = true) {z z' : Int} (h1 : p.near ≤ z) (h2 : z ≤ z') (h3 : z' ≤ p.far) : (standsAt p z').1 ≤ (standsAt p z).1 ∧ (standsAt p z').2 ≤ (standsAt p z).2 := by
  have hpk := isPair_ok hp
  have n1 := hpk.n1
  have w1 := allS_bd hpk
  have w2 : (allS p).1 ≤ (allS p).2 := by simpa [isB] using hb
  have hst : ∀ z, p.near ≤ z → z ≤ p.far → standsAt p z = ((allS p).1 / z, (allS p).2 / z) := fun z h2 h3 => by
    unfold standsAt
    rw [stands_same]
    have : within z p.near p.far = true := by simp [within, h2, h3]
    simp [standsR, openR, hp, hb, this]
  rw [hst z h1 (by omega), hst z' (by omega) h3]
  exact ⟨div_anti (by omega) (by omega) h2, div_anti (by omega) (by omega) h2⟩
end Go.Pw1
namespace Go.Proofs.YthoheicppmbepaaGreat
open Go Go.Eng Go.Pw1

theorem search_calls (f : Nat → Bool) (n : Nat) (hn : n ≤ 4000000000) (hmono : ∀ i j, i ≤ j → j < n → f i = true → f j = true) (fn : FuncId) (cp : List Value) (he : Enters Tryz.prog fn) (W : World)
    (hf : ∀ i, i < n → ∀ w, Mem W [] [] w → Calls Tryz.prog fn ([Value.int .i64 (i : Int)] ++ cp).toArray w (Pure (.bool (f i)) w)) :
    Calls Tryz.prog 41 #[.int .i64 (n : Int), .func (.func fn) #[] cp.toArray] W (Pure (.int .i64 (leastN f n : Int)) W) := by
  refine calls_start Tryz.func41 rfl rfl ?_
  refine RunC.seq ?_
  refine RunC.region ?_
  refine RunL.val (Val.pure rfl) rfl rfl rfl ?_
  refine RunL.nil ?_
  refine RunE.next ?_
  refine RunC.seq ?_
  refine RunC.region ?_
  iterate 3 refine RunL.val (Val.pure rfl) rfl rfl rfl ?_
  refine RunL.nil ?_
  refine RunE.next ?_
  refine RunC.seq ?_
  refine RunC.block ?_
  refine RunC.loopX (X := Nat × Nat) (n0 := []) (n) (fun k x q => (5, .int .i64 (x.1 : Int)) :: (6, .int .i64 (x.2 : Int)) :: q) (fun _ _ => _) (fun k x => []) (fun k x => []) (fun k x => (x.1 ≤ x.2 ∧ x.2 ≤ n ∧ x.2 - x.1 + k ≤ n ∧ (∀ j, j < x.1 → f j = false) ∧ ∀ j, x.2 ≤ j → j < n → f j = true)) (0, n) ⟨by simp, by simp, by simp, fun j h => absurd h (by simp), fun j h h2 => absurd h2 (by simp at h; omega)⟩ rfl (Sub.consE (t := 5) rfl rfl (Sub.consE (t := 6) rfl rfl (Sub.cons (t := 1) rfl (Sub.nil _)))) (Pick.same rfl) ?_
  intro k x kN kI
  obtain ⟨i1, i2, i3, i4, i5⟩ := kI
  refine RunC.seq ?_
  refine RunC.seq ?_
  refine RunC.region ?_
  iterate 3 refine RunL.val (Val.pure rfl) rfl rfl rfl ?_
  refine RunL.nil ?_
  refine RunE.next ?_
  refine RunC.cond rfl ?_ ?_
  · intro c0
    have c0' := c0; clear c0
    try simp only [decide_eq_true_eq, decide_eq_false_iff_not, Bool.not_eq_true', Bool.not_eq_false', Bool.and_eq_true, Bool.or_eq_true, Bool.and_eq_false_iff, Bool.or_eq_false_iff, Int.not_le, Int.not_lt] at c0'
    have hx : x.1 < x.2 := by omega
    have hm1 : (x.1 + x.2) >>> 1 = (x.1 + x.2) / 2 := Nat.shiftRight_eq_div_pow _ 1
    refine RunC.skip ?_
    refine RunE.next ?_
    refine RunC.block ?_
    refine RunC.seq ?_
    refine RunC.region ?_
    refine RunL.val (Val.pure rfl) rfl rfl rfl ?_
    refine RunL.val (Val.pure rfl) rfl rfl rfl ?_
    refine RunL.val (Val.addN (a := x.1) (b := x.2) (x.1 + x.2) rfl rfl rfl (i64_inN (by omega))) rfl rfl rfl ?_
    refine RunL.val (Val.convInt (p := ((x.1 + x.2 : Nat) : Int)) rfl und_3 und_105 (u64_in (by omega))) rfl rfl rfl ?_
    refine RunL.val (Val.shrN (a := x.1 + x.2) (b := 1) rfl rfl (by decide)) rfl rfl rfl ?_
    refine RunL.val (Val.convInt (p := (((x.1 + x.2) >>> 1 : Nat) : Int)) rfl und_105 und_3 (i64_inN (by omega))) rfl rfl rfl ?_
    refine RunL.val (Val.pure rfl) rfl rfl rfl ?_
    refine RunL.nil ?_
    refine RunE.next ?_
    refine RunC.seq ?_
    refine RunC.region ?_
    refine RunL.val (Val.pure rfl) rfl rfl rfl ?_
    refine RunL.val (Val.pure rfl) rfl rfl rfl ?_
    refine RunL.callP (isCall_value rfl rfl he) rfl rfl rfl (fun w hm => hf _ (by omega) w hm.drop) ?_
    refine RunL.val (Val.pure rfl) rfl rfl rfl ?_
    refine RunL.nil ?_
    refine RunE.next ?_
    refine RunC.cond rfl ?_ ?_
    · intro c1
      have c1' := c1; clear c1
      try simp only [decide_eq_true_eq, decide_eq_false_iff_not, Bool.not_eq_true', Bool.not_eq_false', Bool.and_eq_true, Bool.or_eq_true, Bool.and_eq_false_iff, Bool.or_eq_false_iff, Int.not_le, Int.not_lt] at c1'
      refine RunC.region ?_
      refine RunL.val (Val.pure rfl) rfl rfl rfl ?_
      refine RunL.val (Val.add rfl rfl (IntWalk.i64_in _ ⟨by omega, by omega⟩)) rfl rfl rfl ?_
      refine RunL.val (Val.pure rfl) rfl rfl rfl ?_
      refine RunL.nil ?_
      refine RunE.block_normal ?_
      exact RunE.roundX ((x.1 + x.2) >>> 1 + 1, x.2) (by omega) ⟨by simp only; omega, by simp only; omega, by simp only; omega, fun j hj => (by (cases hfj : f j; rfl; rw [hmono j _ (by simp only at hj; omega) (by omega) hfj] at c1'; cases c1')), fun j h => i5 j h⟩ rfl (Sub.consE (t := 5) rfl rfl (Sub.consE (t := 6) rfl rfl (Sub.cons (t := 1) rfl (Sub.nil _)))) .nil
    · intro c1
      have c1' := c1; clear c1
      try simp only [decide_eq_true_eq, decide_eq_false_iff_not, Bool.not_eq_true', Bool.not_eq_false', Bool.and_eq_true, Bool.or_eq_true, Bool.and_eq_false_iff, Bool.or_eq_false_iff, Int.not_le, Int.not_lt] at c1'
      refine RunC.region ?_
      refine RunL.val (Val.pure rfl) rfl rfl rfl ?_
      refine RunL.val (Val.pure rfl) rfl rfl rfl ?_
      refine RunL.nil ?_
      refine RunE.block_normal ?_
      exact RunE.roundX (x.1, (x.1 + x.2) >>> 1) (by omega) ⟨by simp only; omega, by simp only; omega, by simp only; omega, fun j hj => i4 j hj, fun j h h2 => hmono _ _ h h2 c1'⟩ rfl (Sub.consE (t := 5) rfl rfl (Sub.consE (t := 6) rfl rfl (Sub.cons (t := 1) rfl (Sub.nil _)))) .nil
  · intro c0
    have c0' := c0; clear c0
    try simp only [decide_eq_true_eq, decide_eq_false_iff_not, Bool.not_eq_true', Bool.not_eq_false', Bool.and_eq_true, Bool.or_eq_true, Bool.and_eq_false_iff, Bool.or_eq_false_iff, Int.not_le, Int.not_lt] at c0'
    have hx : x.1 = x.2 := by omega
    refine RunC.exit ?_
    refine RunE.pass_exit ?_
    refine RunE.pass_exit ?_
    refine RunE.block_here ?_
    refine RunE.next ?_
    refine RunC.seq ?_
    refine RunC.region ?_
    refine RunL.val (Val.pure rfl) rfl rfl rfl ?_
    refine RunL.val (Val.pure rfl) rfl rfl rfl ?_
    refine RunL.nil ?_
    refine RunE.next ?_
    refine RunC.ret ?_
    exact RunE.retP (.r1 rfl (.tmp rfl)) (by rw [leastN_eq (m := x.1) (by omega) i4 (fun h => i5 _ (by omega) h)])
theorem depA_calls (s r : Int × Int) (b : Nat) (W : World) (hb : W.heap[b]? = some (.cells (b2c r).toArray 23 (0, 0))) : Calls Tryz.prog 44 #[b2v s, .pointer (some ⟨b, 0, none⟩)] W (Pure (.bool (decide (s.2 ≤ r.2))) W) := by
  refine calls_start Tryz.func44 rfl rfl ?_
  refine RunC.seq ?_
  refine RunC.region ?_
  refine RunL.new (New.box rfl) rfl rfl rfl (fun b2 => ?_)
  refine RunL.val (Val.pure rfl) rfl rfl rfl ?_
  refine RunL.nil ?_
  refine RunE.next ?_
  refine RunC.seq ?_
  refine RunC.region ?_
  refine RunL.val (Val.fieldAddr rfl fld_23_1) rfl rfl rfl ?_
  refine RunL.val (Val.load_one rfl (.head _) ty_3 rfl) rfl rfl rfl ?_
  refine RunL.val (Val.fieldAddr rfl fld_23_1) rfl rfl rfl ?_
  refine RunL.val (Val.oload_one rfl hb (by simp) ty_3 rfl) rfl rfl rfl ?_
  refine RunL.val (Val.pure rfl) rfl rfl rfl ?_
  refine RunL.val (Val.pure rfl) rfl rfl rfl ?_
  refine RunL.nil ?_
  refine RunE.next ?_
  refine RunC.ret ?_
  exact RunE.retP (.r1 rfl (.tmp rfl)) (by first | rfl | simp)
theorem depB_calls (s r : Int × Int) (b : Nat) (W : World) (hb : W.heap[b]? = some (.cells (b2c r).toArray 23 (0, 0))) : Calls Tryz.prog 45 #[b2v s, .pointer (some ⟨b, 0, none⟩)] W (Pure (.bool (decide (s.1 < r.1))) W) := by
  refine calls_start Tryz.func45 rfl rfl ?_
  refine RunC.seq ?_
  refine RunC.region ?_
  refine RunL.new (New.box rfl) rfl rfl rfl (fun b2 => ?_)
  refine RunL.val (Val.pure rfl) rfl rfl rfl ?_
  refine RunL.nil ?_
  refine RunE.next ?_
  refine RunC.seq ?_
  refine RunC.region ?_
  refine RunL.val (Val.fieldAddr rfl fld_23_0) rfl rfl rfl ?_
  refine RunL.val (Val.load_one rfl (.head _) ty_3 rfl) rfl rfl rfl ?_
  refine RunL.val (Val.fieldAddr rfl fld_23_0) rfl rfl rfl ?_
  refine RunL.val (Val.oload_one rfl hb (by simp) ty_3 rfl) rfl rfl rfl ?_
  refine RunL.val (Val.pure rfl) rfl rfl rfl ?_
  refine RunL.val (Val.pure rfl) rfl rfl rfl ?_
  refine RunL.nil ?_
  refine RunE.next ?_
  refine RunC.ret ?_
  exact RunE.retP (.r1 rfl (.tmp rfl)) (by first | rfl | simp)
theorem depI_calls (g : Int × Int → Bool) (c : Cd) (q : Option Addr) (b o cap : Nat) (i : Nat) (hp : c.p.Ok) (hi : c.p.near + i ≤ c.p.far) (fn : FuncId) (cp : List Value) (he : Enters Tryz.prog fn) (b1 b2 : Nat) (W : World) (hS : Sl W q b o 9 (c.p.things.map Th.cells))
    (h1 : W.heap[b1]? = some (.cells (c.cells q cap).toArray 28 (0, 0))) (h2 : W.heap[b2]? = some (.cells [.func (.func fn) #[] cp.toArray].toArray 80 (0, 0)))
    (hf : ∀ s w, Mem W [] [] w → Calls Tryz.prog fn ([b2v s] ++ cp).toArray w (Pure (.bool (g s)) w)) :
    Calls Tryz.prog 42 #[.int .i64 (i : Int), .pointer (some ⟨b1, 0, none⟩), .pointer (some ⟨b2, 0, none⟩)] W (Pure (.bool (g (standsAt c.p (c.p.near + i)))) W) := by
  have n1 := hp.n1
  have n2 := hp.n2
  have n3 := hp.n3
  have hl := hp.len
  refine calls_start Tryz.func42 rfl rfl ?_
  refine RunC.seq ?_
  refine RunC.region ?_
  refine RunL.val (Val.pure rfl) rfl rfl rfl ?_
  refine RunL.nil ?_
  refine RunE.next ?_
  refine RunC.seq ?_
  refine RunC.region ?_
  refine RunL.val (Val.fieldAddr rfl fld_28_0) rfl rfl rfl ?_
  refine RunL.val (Val.oload_agg rfl h1 (by simp) ty_26 rfl) rfl rfl rfl ?_
  refine RunL.val (Val.fieldAddr rfl fld_28_0) rfl rfl rfl ?_
  refine RunL.val (Val.fieldAddr rfl fld_26_3) rfl rfl rfl ?_
  refine RunL.val (Val.oload_one rfl h1 (by simp) ty_3 rfl) rfl rfl rfl ?_
  refine RunL.val (Val.pure rfl) rfl rfl rfl ?_
  refine RunL.val (Val.add rfl rfl (IntWalk.i64_in _ ⟨by omega, by omega⟩)) rfl rfl rfl ?_
  refine RunL.callP (isCall_func rfl ent_43) rfl rfl rfl (fun w hm => Stands_calls c.p _ q b o cap w (hS.mono (by decide) hm (by simp)) (by omega)) ?_
  iterate 3 refine RunL.val (Val.pure rfl) rfl rfl rfl ?_
  refine RunL.new (New.alloc zero_23) rfl rfl rfl (fun b5 => ?_)
  refine RunL.sto (Sto.store rfl rfl .here ty_23 rfl rfl) rfl rfl ?_
  refine RunL.val (Val.pure rfl) rfl rfl rfl ?_
  refine RunL.nil ?_
  refine RunE.next ?_
  refine RunC.seq ?_
  refine RunC.region ?_
  refine RunL.val (Val.oload_one rfl h2 (by simp) ty_80 rfl) rfl rfl rfl ?_
  refine RunL.val (Val.load_agg rfl (.head _) ty_23 rfl) rfl rfl rfl ?_
  refine RunL.callP (isCall_value rfl rfl he) rfl rfl rfl (fun w hm => hf _ w hm.drop) ?_
  refine RunL.val (Val.pure rfl) rfl rfl rfl ?_
  refine RunL.nil ?_
  refine RunE.next ?_
  refine RunC.ret ?_
  exact RunE.retP (.r1 rfl (.tmp rfl)) (by first | rfl | simp)
theorem depF_calls (g : Int × Int → Bool) (c : Cd) (q : Option Addr) (b o cap : Nat) (hp : c.p.Ok) (hmono : ∀ i j : Nat, i ≤ j → c.p.near + j ≤ c.p.far → g (standsAt c.p (c.p.near + i)) = true → g (standsAt c.p (c.p.near + j)) = true) (fn : FuncId) (cp : List Value) (he : Enters Tryz.prog fn) (b1 : Nat) (W : World) (hS : Sl W q b o 9 (c.p.things.map Th.cells))
    (h1 : W.heap[b1]? = some (.cells (c.cells q cap).toArray 28 (0, 0))) (hf : ∀ s w, Mem W [] [] w → Calls Tryz.prog fn ([b2v s] ++ cp).toArray w (Pure (.bool (g s)) w)) :
    Calls Tryz.prog 40 #[.func (.func fn) #[] cp.toArray, .pointer (some ⟨b1, 0, none⟩)] W (Pure (.int .i64 (c.p.near + leastN (fun i => g (standsAt c.p (c.p.near + i))) (c.p.far - c.p.near + 1).toNat)) W) := by
  have n1 := hp.n1
  have n2 := hp.n2
  have n3 := hp.n3
  have hl := hp.len
  have hle := leastN_le (fun i => g (standsAt c.p (c.p.near + i))) (c.p.far - c.p.near + 1).toNat
  obtain ⟨N, hN⟩ : ∃ N : Nat, c.p.far - c.p.near + 1 = N := ⟨(c.p.far - c.p.near + 1).toNat, by omega⟩
  have hN2 : (c.p.far - c.p.near + 1).toNat = N := by omega
  rw [hN2] at hle ⊢
  refine calls_start Tryz.func40 rfl rfl ?_
  refine RunC.seq ?_
  refine RunC.region ?_
  refine RunL.new (New.box rfl) rfl rfl rfl (fun b2 => ?_)
  refine RunL.val (Val.pure rfl) rfl rfl rfl ?_
  refine RunL.nil ?_
  refine RunE.next ?_
  refine RunC.seq ?_
  refine RunC.draw 13 fol_ (.cons .here rfl .nil) ?_
  refine RunA.val (i := 0) rfl (by kernel_rfl) (by kernel_rfl) (Val.fieldAddr rfl fld_28_0) rfl rfl rfl (fun _ _ _ h => h) (.cons .here rfl .nil) rfl ?_
  refine RunA.val (i := 1) rfl (by kernel_rfl) (by kernel_rfl) (Val.fieldAddr rfl fld_26_3) rfl rfl rfl (fun _ _ _ h => h) (.cons .here rfl .nil) rfl ?_
  refine RunA.val (i := 2) rfl (by kernel_rfl) (by kernel_rfl) (Val.oload_one rfl h1 (by simp) ty_3 rfl) rfl rfl rfl (fun _ _ _ h => h) (.cons .here rfl .nil) rfl ?_
  refine RunA.val (i := 3) rfl (by kernel_rfl) (by kernel_rfl) (Val.fieldAddr rfl fld_28_0) rfl rfl rfl (fun _ _ _ h => h) (.cons .here rfl .nil) rfl ?_
  refine RunA.val (i := 4) rfl (by kernel_rfl) (by kernel_rfl) (Val.fieldAddr rfl fld_26_4) rfl rfl rfl (fun _ _ _ h => h) (.cons .here rfl .nil) rfl ?_
  refine RunA.val (i := 5) rfl (by kernel_rfl) (by kernel_rfl) (Val.oload_one rfl h1 (by simp) ty_3 rfl) rfl rfl rfl (fun _ _ _ h => h) (.cons .here rfl .nil) rfl ?_
  refine RunA.val (i := 6) rfl (by kernel_rfl) (by kernel_rfl) (Val.fieldAddr rfl fld_28_0) rfl rfl rfl (fun _ _ _ h => h) (.cons .here rfl .nil) rfl ?_
  refine RunA.val (i := 7) rfl (by kernel_rfl) (by kernel_rfl) (Val.fieldAddr rfl fld_26_3) rfl rfl rfl (fun _ _ _ h => h) (.cons .here rfl .nil) rfl ?_
  refine RunA.val (i := 8) rfl (by kernel_rfl) (by kernel_rfl) (Val.oload_one rfl h1 (by simp) ty_3 rfl) rfl rfl rfl (fun _ _ _ h => h) (.cons .here rfl .nil) rfl ?_
  refine RunA.val (i := 9) rfl (by kernel_rfl) (by kernel_rfl) (Val.sub' rfl rfl (IntWalk.i64_in _ ⟨by omega, by omega⟩)) rfl rfl rfl (fun _ _ _ h => h) (.cons .here rfl .nil) rfl ?_
  refine RunA.val (i := 10) rfl (by kernel_rfl) (by kernel_rfl) (Val.add rfl rfl (IntWalk.i64_in _ ⟨by omega, by omega⟩)) rfl rfl rfl (fun _ _ _ h => h) (.cons .here rfl .nil) rfl ?_
  simp only [hN]
  refine RunA.val (i := 11) rfl (by kernel_rfl) (by kernel_rfl) (Val.pure rfl) rfl rfl rfl (fun _ _ _ h => h) (.cons .here rfl .nil) rfl ?_
  refine RunA.one (i := 12) (by kernel_rfl) (by kernel_rfl) ?_
  refine RunI.callP rfl (isCall_func rfl ent_41) rfl rfl rfl (fun w hm => search_calls (fun i => g (standsAt c.p (c.p.near + i))) N (by omega) (fun i j h1 h2 h3 => hmono i j h1 (by omega) h3) 42 [_, _] ent_42 w (fun i hi w2 hm2 => depI_calls g c q b o cap i hp (by omega) fn cp he _ _ w2 ((hS.mono (by decide) hm (by simp)).mono (by decide) hm2 (by simp)) (hm2.old_at (hm.old_at h1 (by simp)) (by simp)) (hm2.old_at (hm.at (.head _)) (by simp)) (fun s w3 hm3 => hf s w3 ((hm.drop.pass hm2).pass hm3)))) (RunK.toA (.cons .here rfl .nil) (.cons .here rfl .nil) rfl ?_)
  refine RunA.toB (by kernel_rfl) ?_
  refine RunB.one (i := 13) (by kernel_rfl) ?_
  refine RunI.val rfl (Val.add rfl rfl (IntWalk.i64_in _ ⟨by omega, by omega⟩)) rfl rfl rfl (RunK.toB ?_)
  refine RunB.one (i := 14) (by kernel_rfl) ?_
  refine RunI.val rfl (Val.pure rfl) rfl rfl rfl (RunK.toB ?_)
  refine RunB.done (by kernel_rfl) ?_
  refine RunE.next ?_
  refine RunC.ret ?_
  exact RunE.retP (.r1 rfl (.tmp rfl)) (by first | rfl | simp)
theorem Depths_calls (c : Cd) (t : Tr) (q : Option Addr) (b o cap : Nat) (W : World) (hS : Sl W q b o 9 (c.p.things.map Th.cells)) (hl : c.p.things.length ≤ 100000000000) :
    Calls Tryz.prog 14 #[c.v q cap, t.v] W (Pure (.tuple #[b2v (depthsX c t).1, .int .i64 (depthsX c t).2]) W) := by
  by_cases h0 : (roomX c t).2 = 0
  · have h00 : checkR c (trR c t) = 0 := by
      have h := h0
      rw [room_same] at h
      unfold roomR at h
      split at h
      · assumption
      · exact h
    obtain ⟨hp, hbb, hc, _⟩ := check_pair h00
    have hpk := isPair_ok hp
    have n1 := hpk.n1
    have n2 := hpk.n2
    have n3 := hpk.n3
    obtain ⟨r, hr⟩ : ∃ r, (roomX c t).1 = r := ⟨_, rfl⟩
    have hle1 := leastN_le (fun i => decide ((standsAt c.p (c.p.near + i)).2 ≤ r.2)) (c.p.far - c.p.near + 1).toNat
    have hle2 := leastN_le (fun i => decide ((standsAt c.p (c.p.near + i)).1 < r.1)) (c.p.far - c.p.near + 1).toNat
    refine calls_start Tryz.func14 rfl rfl ?_
    refine RunC.seq ?_
    refine RunC.region ?_
    refine RunL.new (New.box rfl) rfl rfl rfl (fun b2 => ?_)
    refine RunL.new (New.box rfl) rfl rfl rfl (fun b3 => ?_)
    refine RunL.new (New.alloc zero_23) rfl rfl rfl (fun b4 => ?_)
    refine RunL.val (Val.pure rfl) rfl rfl rfl ?_
    refine RunL.nil ?_
    refine RunE.next ?_
    refine RunC.seq ?_
    refine RunC.region ?_
    refine RunL.val (Val.load_agg rfl (.tail _ (.tail _ (.head _))) ty_28 rfl) rfl rfl rfl ?_
    refine RunL.val (Val.load_agg rfl (.tail _ (.head _)) ty_30 rfl) rfl rfl rfl ?_
    refine RunL.callP (isCall_func rfl ent_12) rfl rfl rfl (fun w hm => Room_calls c t q b o cap w (hS.mono (by decide) hm (by simp)) hl) ?_
    iterate 3 refine RunL.val (Val.pure rfl) rfl rfl rfl ?_
    refine RunL.new (New.alloc zero_23) rfl rfl rfl (fun b6 => ?_)
    refine RunL.sto (Sto.store rfl rfl .here ty_23 rfl rfl) rfl rfl ?_
    refine RunL.val (Val.pure rfl) rfl rfl rfl ?_
    refine RunL.nil ?_
    refine RunE.next ?_
    refine RunC.seq ?_
    refine RunC.seq ?_
    refine RunC.region ?_
    refine RunL.val (Val.pure rfl) rfl rfl rfl ?_
    refine RunL.val (Val.pure rfl) rfl rfl rfl ?_
    refine RunL.nil ?_
    refine RunE.next ?_
    refine RunC.cond rfl (fun h => absurd h (by simp [h0])) ?_
    intro c0
    clear c0
    refine RunC.skip ?_
    refine RunE.next ?_
    refine RunC.seq ?_
    refine RunC.region ?_
    refine RunL.val (Val.pure rfl) rfl rfl rfl ?_
    refine RunL.val (Val.pure rfl) rfl rfl rfl ?_
    refine RunL.nil ?_
    refine RunE.next ?_
    refine RunC.seq ?_
    refine RunC.region ?_
    refine RunL.val (Val.pure rfl) rfl rfl rfl ?_
    refine RunL.val (Val.pure rfl) rfl rfl rfl ?_
    refine RunL.callP (isCall_value rfl rfl ent_40) rfl rfl rfl (fun w hm => depF_calls (fun s => decide (s.2 ≤ r.2)) c q b o cap hpk (fun i j g1 g2 g3 => by (have g4 := stands_anti hp hbb (z := c.p.near + i) (z' := c.p.near + j) (by omega) (by omega) g2; simp only [decide_eq_true_eq] at g3 ⊢; omega)) 44 [_] ent_44 _ w (hS.mono (by decide) hm (by simp)) (hm.at (.tail _ (.tail _ (.tail _ (.head _))))) (fun s w2 hm2 => depA_calls s r _ w2 (by rw [← hr]; exact hm2.old_at (hm.at (.head _)) (by simp)))) ?_
    refine RunL.val (Val.pure rfl) rfl rfl rfl ?_
    refine RunL.val (Val.pure rfl) rfl rfl rfl ?_
    refine RunL.callP (isCall_value rfl rfl ent_40) rfl rfl rfl (fun w hm => depF_calls (fun s => decide (s.1 < r.1)) c q b o cap hpk (fun i j g1 g2 g3 => by (have g4 := stands_anti hp hbb (z := c.p.near + i) (z' := c.p.near + j) (by omega) (by omega) g2; simp only [decide_eq_true_eq] at g3 ⊢; omega)) 45 [_] ent_45 _ w (hS.mono (by decide) hm (by simp)) (hm.at (.tail _ (.tail _ (.tail _ (.head _))))) (fun s w2 hm2 => depB_calls s r _ w2 (by rw [← hr]; exact hm2.old_at (hm.at (.head _)) (by simp)))) ?_
    refine RunL.val (Val.sub' rfl rfl (IntWalk.i64_in _ ⟨by omega, by omega⟩)) rfl rfl rfl ?_
    refine RunL.val (Val.build (parts := [(0, .tmp 23), (1, .tmp 27)]) rfl zero_68 places_68 rfl) rfl rfl rfl ?_
    refine RunL.new (New.alloc zero_68) rfl rfl rfl (fun b9 => ?_)
    refine RunL.sto (Sto.store rfl rfl .here ty_68 rfl rfl) rfl rfl ?_
    refine RunL.nil ?_
    refine RunE.next ?_
    refine RunC.seq ?_
    refine RunC.seq ?_
    refine RunC.region ?_
    refine RunL.val (Val.load_agg rfl (.head _) ty_68 rfl) rfl rfl rfl ?_
    refine RunL.callP (isCall_func rfl ent_34) rfl rfl rfl (fun w hm => mempty_calls (_, _) w) ?_
    refine RunL.nil ?_
    refine RunE.next ?_
    refine RunC.cond rfl ?_ ?_
    · intro c1
      have c1' := c1; clear c1
      try simp only [decide_eq_true_eq, decide_eq_false_iff_not, Bool.not_eq_true', Bool.not_eq_false', Bool.and_eq_true, Bool.or_eq_true, Bool.and_eq_false_iff, Bool.or_eq_false_iff, Int.not_le, Int.not_lt] at c1'
      have c1r : (depthsOf c (roomX c t).1).2 < (depthsOf c (roomX c t).1).1 := by rw [hr]; exact c1'
      refine RunC.seq ?_
      refine RunC.region ?_
      refine RunL.val (Val.build (parts := []) rfl zero_23 places_23 rfl) rfl rfl rfl ?_
      refine RunL.sto (Sto.store rfl rfl (.there (.there .here)) ty_23 rfl rfl) rfl rfl ?_
      refine RunL.val (Val.pure rfl) rfl rfl rfl ?_
      refine RunL.nil ?_
      refine RunE.next ?_
      refine RunC.ret ?_
      refine RunE.pass_ret ?_
      exact RunE.retP (.r2 rfl (.agg rfl (.tail _ (.tail _ (.head _))) ty_23 rfl) (.tmp rfl)) (by rw [depthsX, if_pos h0, if_pos c1r]; rfl)
    · intro c1
      have c1' := c1; clear c1
      try simp only [decide_eq_true_eq, decide_eq_false_iff_not, Bool.not_eq_true', Bool.not_eq_false', Bool.and_eq_true, Bool.or_eq_true, Bool.and_eq_false_iff, Bool.or_eq_false_iff, Int.not_le, Int.not_lt] at c1'
      have c1r : ¬ (depthsOf c (roomX c t).1).2 < (depthsOf c (roomX c t).1).1 := by rw [hr]; exact Int.not_lt.2 c1'
      refine RunC.skip ?_
      refine RunE.next ?_
      refine RunC.seq ?_
      refine RunC.region ?_
      refine RunL.val (Val.load_agg rfl (.head _) ty_68 rfl) rfl rfl rfl ?_
      refine RunL.callP (isCall_func rfl ent_35) rfl rfl rfl (fun w hm => mspan_calls (_, _) w) ?_
      refine RunL.sto (Sto.store rfl rfl (.there (.there .here)) ty_23 rfl rfl) rfl rfl ?_
      refine RunL.val (Val.pure rfl) rfl rfl rfl ?_
      refine RunL.nil ?_
      refine RunE.next ?_
      refine RunC.ret ?_
      exact RunE.retP (.r2 rfl (.agg rfl (.tail _ (.tail _ (.head _))) ty_23 rfl) (.tmp rfl)) (by rw [depthsX, if_pos h0, if_neg c1r, hr]; rfl)
  · refine calls_start Tryz.func14 rfl rfl ?_
    refine RunC.seq ?_
    refine RunC.region ?_
    refine RunL.new (New.box rfl) rfl rfl rfl (fun b2 => ?_)
    refine RunL.new (New.box rfl) rfl rfl rfl (fun b3 => ?_)
    refine RunL.new (New.alloc zero_23) rfl rfl rfl (fun b4 => ?_)
    refine RunL.val (Val.pure rfl) rfl rfl rfl ?_
    refine RunL.nil ?_
    refine RunE.next ?_
    refine RunC.seq ?_
    refine RunC.region ?_
    refine RunL.val (Val.load_agg rfl (.tail _ (.tail _ (.head _))) ty_28 rfl) rfl rfl rfl ?_
    refine RunL.val (Val.load_agg rfl (.tail _ (.head _)) ty_30 rfl) rfl rfl rfl ?_
    refine RunL.callP (isCall_func rfl ent_12) rfl rfl rfl (fun w hm => Room_calls c t q b o cap w (hS.mono (by decide) hm (by simp)) hl) ?_
    iterate 3 refine RunL.val (Val.pure rfl) rfl rfl rfl ?_
    refine RunL.new (New.alloc zero_23) rfl rfl rfl (fun b6 => ?_)
    refine RunL.sto (Sto.store rfl rfl .here ty_23 rfl rfl) rfl rfl ?_
    refine RunL.val (Val.pure rfl) rfl rfl rfl ?_
    refine RunL.nil ?_
    refine RunE.next ?_
    refine RunC.seq ?_
    refine RunC.seq ?_
    refine RunC.region ?_
    refine RunL.val (Val.pure rfl) rfl rfl rfl ?_
    refine RunL.val (Val.pure rfl) rfl rfl rfl ?_
    refine RunL.nil ?_
    refine RunE.next ?_
    refine RunC.cond rfl ?_ (fun h => absurd h (by simp [h0]))
    intro c0
    clear c0
    refine RunC.seq ?_
    refine RunC.region ?_
    refine RunL.val (Val.build (parts := []) rfl zero_23 places_23 rfl) rfl rfl rfl ?_
    refine RunL.val (Val.pure rfl) rfl rfl rfl ?_
    refine RunL.sto (Sto.store rfl rfl (.there .here) ty_23 rfl rfl) rfl rfl ?_
    refine RunL.val (Val.pure rfl) rfl rfl rfl ?_
    refine RunL.nil ?_
    refine RunE.next ?_
    refine RunC.ret ?_
    refine RunE.pass_ret ?_
    exact RunE.retP (.r2 rfl (.agg rfl (.tail _ (.head _)) ty_23 rfl) (.tmp rfl)) (by simp [depthsX, h0, b2v])
end Go.Proofs.YthoheicppmbepaaGreat
