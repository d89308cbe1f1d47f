/- Walks of package mount: the first thing that hurts, what is seen, two things too far apart. -/
import Derived.Test.YthoheicppmbepaaGreatMc
set_option linter.unusedSimpArgs false
set_option linter.unusedVariables false
namespace Go.Pw1
open Go Go.Eng
def keyN (p : Pr) (i : Nat) : Nat := ((seenM p).getD i (0, (0, 0))).1.toNat
theorem mEnts_len (p : Pr) : (mEnts p).length = (seenM p).length := by simp [mEnts, entsV]
theorem key_at {p : Pr} {i : Nat} (hi : i < (mEnts p).length) : (seenM p)[i]'(by rw [← mEnts_len]; exact hi) = ((keyN p i : Int), (shiftX p (keyN p i)).1) ∧ keyN p i < p.things.length ∧ (whyX p (keyN p i)).1 = 0 := by
  have hi2 : i < (seenM p).length := by rw [← mEnts_len]; exact hi
  obtain ⟨j, h1, h2, h3⟩ := seenM_iff.1 (List.getElem_mem hi2)
  have hk : keyN p i = j := by unfold keyN; rw [List.getD_eq_getElem?_getD, List.getElem?_eq_getElem hi2, Option.getD_some, h1]; simp
  rw [hk]
  exact ⟨h1, h2, h3⟩
theorem ent_at {p : Pr} {i : Nat} (hi : i < (mEnts p).length) : Value.tuple #[.int .i64 (mEnts p)[i].1, (mEnts p)[i].2] = .tuple #[.int .i64 ((keyN p i : Nat) : Int), b2v (shiftX p (keyN p i)).1] := by
  obtain ⟨h1, _, _⟩ := key_at hi
  have h2 : (mEnts p)[i] = ((keyN p i : Int), b2v (shiftX p (keyN p i)).1) := by
    simp only [mEnts, entsV, List.getElem_map, h1]
  rw [h2]
def orK (p : Pr) (x : List Nat) : Nat := x.foldl (fun s i => s ||| 2 ^ keyN p i) 0
theorem orK_snoc (p : Pr) (x : List Nat) (i : Nat) : orK p (x ++ [i]) = orK p x ||| 2 ^ keyN p i := by simp [orK, List.foldl_append]
theorem orK_bit {p : Pr} {j : Nat} {x : List Nat} : (orK p x).testBit j = decide (∃ i ∈ x, keyN p i = j) := by
  have key : ∀ (x : List Nat) (s : Nat), (x.foldl (fun s i => s ||| 2 ^ keyN p i) s).testBit j = (s.testBit j || decide (∃ i ∈ x, keyN p i = j)) := by
    intro x
    induction x with
    | nil => intro s; simp
    | cons i x ih =>
      intro s
      rw [List.foldl_cons, ih, Nat.testBit_or, Nat.testBit_two_pow]
      by_cases h : keyN p i = j
      · simp [h]
      · simp [h]
  have := key x 0
  simpa [orK] using this
theorem bitsOf_bit {j : Nat} : ∀ {l : List Int}, (bitsOf l).testBit j = decide (∃ a ∈ l, a.toNat = j)
  | [] => by simp [bitsOf]
  | a :: l => by
    simp only [bitsOf, Nat.testBit_or, bitsOf_bit (l := l), Nat.testBit_two_pow]
    by_cases h : a.toNat = j
    · simp [h]
    · simp [h]
theorem orK_lt {p : Pr} {m : Nat} : ∀ {x : List Nat}, (∀ i ∈ x, keyN p i < m) → orK p x < 2 ^ m := by
  intro x
  have key : ∀ (x : List Nat) (s : Nat), s < 2 ^ m → (∀ i ∈ x, keyN p i < m) → x.foldl (fun s i => s ||| 2 ^ keyN p i) s < 2 ^ m := by
    intro x
    induction x with
    | nil => intro s hs _; exact hs
    | cons i x ih =>
      intro s hs hl
      exact ih _ (Nat.or_lt_two_pow hs (Nat.pow_lt_pow_right (by decide) (hl i (by simp)))) (fun j hj => hl j (List.mem_cons_of_mem _ hj))
  exact key x 0 (Nat.two_pow_pos m)
theorem orK_all {p : Pr} {x : List Nat} (h : ∀ i, i < (mEnts p).length → i ∈ x) (hv : ∀ i ∈ x, i < (mEnts p).length) : orK p x = bitsOf (seenN p) := by
  apply Nat.eq_of_testBit_eq
  intro j
  rw [orK_bit, bitsOf_bit]
  congr 1
  refine propext ⟨?_, ?_⟩
  · rintro ⟨i, hi, rfl⟩
    obtain ⟨h1, h2, h3⟩ := key_at (hv i hi)
    exact ⟨(keyN p i : Int), seenN_iff.2 ⟨h2, h3⟩, by simp⟩
  · rintro ⟨a, ha, rfl⟩
    obtain ⟨e, he, rfl⟩ := List.mem_map.1 ha
    obtain ⟨i, hi, rfl⟩ := List.getElem_of_mem he
    have hi2 : i < (mEnts p).length := by rw [mEnts_len]; exact hi
    exact ⟨i, h i hi2, by rw [(key_at hi2).1]; simp⟩
end Go.Pw1
namespace Go.Proofs.YthoheicppmbepaaGreat
open Go Go.Eng Go.Pw1

theorem th_ptr {p : Pr} (x : thO p) (h : 0 < (seenN p).length) : ownQ x.1 = some ⟨ownK x.1, 0, none⟩ := by
  obtain ⟨b, c, r, e, _⟩ := x.2.has h
  rw [e]; rfl
theorem seenN_len (p : Pr) : (seenN p).length ≤ p.things.length := seenNK_len p _
theorem hurt_calls (c : Cd) (t : Tr) (ht : t.Ok c.cuts) (q : Option Addr) (b o cap bc bm : Nat) (W : World) (h : CdAt c q b o cap bc bm W) :
    Calls Tryz.prog 29 #[mtV bc t] W (Pure (.tuple #[.int .i64 (hurtM c t).1, .int .i64 (hurtM c t).2]) W) := by
  have hv := h.v
  have hl := h.pk.len
  have hsl := seenN_len c.p
  refine calls_start Tryz.func29 rfl rfl ?_
  refine RunC.seq ?_
  refine RunC.region ?_
  refine RunL.new (New.box rfl) rfl rfl rfl (fun b1 => ?_)
  refine RunL.val (Val.pure rfl) rfl rfl rfl ?_
  refine RunL.val (Val.pure rfl) rfl rfl rfl ?_
  refine RunL.nil ?_
  refine RunE.next ?_
  refine RunC.seq ?_
  refine RunC.seq ?_
  refine RunC.region ?_
  refine RunL.val (Val.fieldAddr rfl fld_63_0) rfl rfl rfl ?_
  refine RunL.val (Val.load_one rfl (.head _) ty_48 rfl) rfl rfl rfl ?_
  refine RunL.callNT (isCall_func rfl ent_62) rfl rfl rfl (fun w hm => things_calls c q b o cap bc bm w (h.mem hm)) (fun b8 => ?_)
  refine RunL.val (Val.len_sl rfl sl_55) rfl rfl rfl ?_
  refine RunL.val (Val.pure rfl) rfl rfl rfl ?_
  refine RunL.nil ?_
  refine RunE.next ?_
  refine RunC.block ?_
  refine RunC.loopK ((seenN c.p).length) (fun k q => (10, .int .i64 (k : Int)) :: q) (fun _ => _) (fun _ => []) (fun k => ∀ j (h : j < k) (h2 : j < (seenN c.p).length), whyM c t (seenN c.p)[j] = 0) (fun j h => absurd h (by omega)) rfl (Sub.consE (t := 10) rfl rfl (Sub.cons (t := 1) rfl (Sub.cons (t := 8) rfl (Sub.cons (t := 9) rfl (Sub.nil _))))) (.cons .here rfl (Pick.refl _)) ?_
  intro k kN kI
  refine RunC.seq ?_
  refine RunC.region ?_
  refine RunL.val (Val.pure rfl) rfl rfl rfl ?_
  refine RunL.nil ?_
  refine RunE.next ?_
  refine RunC.seq ?_
  refine RunC.cond rfl ?_ ?_
  · intro c0
    have c0' := c0; clear c0
    try simp only [decide_eq_true_eq, decide_eq_false_iff_not, Bool.not_eq_true', Bool.not_eq_false', Bool.and_eq_true, Bool.or_eq_true, Bool.and_eq_false_iff, Bool.or_eq_false_iff, Int.not_le, Int.not_lt] at c0'
    have hk : k < (seenN c.p).length := by omega
    obtain ⟨j, hi, hj, hw⟩ := seenN_in (List.getElem_mem hk)
    refine RunC.skip ?_
    refine RunE.next ?_
    refine RunC.seq ?_
    refine RunC.block ?_
    refine RunC.seq ?_
    refine RunC.region ?_
    refine RunL.val (Val.indexAddr_slp rfl rfl sl_55 (by omega) (by omega) (th_ptr b8 (by omega))) rfl rfl rfl ?_
    refine RunL.val (Val.load_gen rfl (fun w hm => (th_sl b8 (fun b o h => hm.at (.tail _ (h)))).loadM1 (by decide) (Mem.refl w) (by simp) ty_3 hk (v := .int .i64 (j : Int)) (by rw [hi]; rfl))) rfl rfl rfl ?_
    refine RunL.val (Val.pure rfl) rfl rfl rfl ?_
    refine RunL.nil ?_
    refine RunE.next ?_
    refine RunC.seq ?_
    refine RunC.region ?_
    refine RunL.val (Val.load_agg rfl (.head _) ty_63 rfl) rfl rfl rfl ?_
    refine RunL.val (Val.pure rfl) rfl rfl rfl ?_
    refine RunL.callP (isCall_func rfl ent_63) rfl rfl rfl (fun w hm => mwhy_calls c t ht j hj hw q b o cap bc bm w (h.mem hm.drop)) ?_
    refine RunL.val (Val.pure rfl) rfl rfl rfl ?_
    refine RunL.nil ?_
    refine RunE.next ?_
    refine RunC.seq ?_
    refine RunC.region ?_
    refine RunL.val (Val.pure rfl) rfl rfl rfl ?_
    refine RunL.val (Val.pure rfl) rfl rfl rfl ?_
    refine RunL.nil ?_
    refine RunE.next ?_
    refine RunC.cond rfl ?_ ?_
    · intro c1
      have c1' := c1; clear c1
      try simp only [decide_eq_true_eq, decide_eq_false_iff_not, Bool.not_eq_true', Bool.not_eq_false', Bool.and_eq_true, Bool.or_eq_true, Bool.and_eq_false_iff, Bool.or_eq_false_iff, Int.not_le, Int.not_lt] at c1'
      refine RunC.seq ?_
      refine RunC.region ?_
      iterate 4 refine RunL.val (Val.pure rfl) rfl rfl rfl ?_
      refine RunL.nil ?_
      refine RunE.next ?_
      refine RunC.ret ?_
      refine RunE.block_ret ?_
      refine RunE.pass_ret ?_
      refine RunE.pass_ret ?_
      refine RunE.block_ret ?_
      refine RunE.pass_ret ?_
      exact RunE.retP (.r2 rfl (.tmp rfl) (.tmp rfl)) (by have e := hurtF_hit (c := c) (t := t) hk (fun j2 h2 => kI j2 h2 (by omega)) (by rw [hi]; exact c1'); simp only [hurtM, e, hi])
    · intro c1
      have c1' := c1; clear c1
      try simp only [decide_eq_true_eq, decide_eq_false_iff_not, Bool.not_eq_true', Bool.not_eq_false', Bool.and_eq_true, Bool.or_eq_true, Bool.and_eq_false_iff, Bool.or_eq_false_iff, Int.not_le, Int.not_lt] at c1'
      refine RunC.skip ?_
      refine RunE.block_normal ?_
      refine RunE.next ?_
      refine RunC.region ?_
      refine RunL.val (Val.add rfl rfl (IntWalk.i64_in _ ⟨by omega, by omega⟩)) rfl rfl rfl ?_
      refine RunL.val (Val.pure rfl) rfl rfl rfl ?_
      refine RunL.nil ?_
      exact RunE.round (by omega) (fun j2 h2 h3 => by (rcases Nat.lt_or_ge j2 k with h4 | h4; exact kI j2 h4 h3; have e : j2 = k := (by omega); subst e; rw [hi]; exact c1')) rfl (Sub.consE (t := 10) rfl rfl (Sub.cons (t := 1) rfl (Sub.cons (t := 8) rfl (Sub.cons (t := 9) rfl (Sub.nil _))))) (.cons .here rfl (Pick.refl _))
  · intro c0
    have c0' := c0; clear c0
    try simp only [decide_eq_true_eq, decide_eq_false_iff_not, Bool.not_eq_true', Bool.not_eq_false', Bool.and_eq_true, Bool.or_eq_true, Bool.and_eq_false_iff, Bool.or_eq_false_iff, Int.not_le, Int.not_lt] at c0'
    obtain rfl : k = (seenN c.p).length := by omega
    refine RunC.exit ?_
    refine RunE.pass_exit ?_
    refine RunE.pass_exit ?_
    refine RunE.block_here ?_
    refine RunE.next ?_
    refine RunC.seq ?_
    refine RunC.region ?_
    refine RunL.val (Val.pure rfl) rfl rfl rfl ?_
    refine RunL.val (Val.pure rfl) rfl rfl rfl ?_
    refine RunL.nil ?_
    refine RunE.next ?_
    refine RunC.ret ?_
    exact RunE.retP (.r2 rfl (.tmp rfl) (.tmp rfl)) (by have e : hurtF c t (seenN c.p) = (0, 0) := hurtF_all (fun i hi => by (obtain ⟨j, hj, rfl⟩ := List.getElem_of_mem hi; exact kI j hj hj)); simp only [hurtM, e])
theorem Seen_calls (c : Cd) (q : Option Addr) (b o cap : Nat) (W : World) (hS : Sl W q b o 9 (c.p.things.map Th.cells)) (hl : c.p.things.length ≤ 100000000000) :
    Calls Tryz.prog 6 #[c.v q cap] W (Pure (.tuple #[.int .i64 (seenX c).1, .int .i64 (seenX c).2]) W) := by
  by_cases h0 : openM c [] = 0
  · have hpk := isPair_ok (check_pair (check_nil c ▸ h0)).1
    have hl12 := hpk.len
    refine calls_start Tryz.func6 rfl rfl ?_
    refine RunC.seq ?_
    refine RunC.region ?_
    refine RunL.new (New.box rfl) rfl rfl rfl (fun b1 => ?_)
    refine RunL.val (Val.pure rfl) rfl rfl rfl ?_
    refine RunL.val (Val.pure rfl) rfl rfl rfl ?_
    refine RunL.nil ?_
    refine RunE.next ?_
    refine RunC.seq ?_
    refine RunC.region ?_
    refine RunL.val (Val.load_agg rfl (.head _) ty_28 rfl) rfl rfl rfl ?_
    refine RunL.callN (isCall_func rfl ent_24) rfl rfl rfl (fun w hm => open_calls3 c [] h0 q b o cap none 0 0 0 w (hS.mono (by decide) hm (by simp)) hl Sl.emp (by simp)) (fun b8 => ?_)
    iterate 5 refine RunL.val (Val.pure rfl) rfl rfl rfl ?_
    refine RunL.nil ?_
    refine RunE.next ?_
    refine RunC.seq ?_
    refine RunC.seq ?_
    refine RunC.region ?_
    refine RunL.val (Val.pure rfl) rfl rfl rfl ?_
    refine RunL.val (Val.pure rfl) rfl rfl rfl ?_
    refine RunL.nil ?_
    refine RunE.next ?_
    refine RunC.cond rfl (fun h => absurd h (by decide)) ?_
    intro c0
    clear c0
    refine RunC.skip ?_
    refine RunE.next ?_
    refine RunC.seq ?_
    refine RunC.seq ?_
    refine RunC.region ?_
    refine RunL.val (Val.pure rfl) rfl rfl rfl ?_
    refine RunL.val (Val.pure rfl) rfl rfl rfl ?_
    refine RunL.val (Val.fieldAddr rfl fld_53_1) rfl rfl rfl ?_
    refine RunL.val (Val.load_one rfl (.head _) ty_51 rfl) rfl rfl rfl ?_
    refine RunL.new (New.range rfl (fun w hm => hm.at (.tail _ (.head _))) mapB_51) rfl rfl rfl (fun b18 => ?_)
    refine RunL.nil ?_
    refine RunE.next ?_
    refine RunC.block ?_
    refine RunC.loopX (X := List Nat) (n0 := [(b8.1, _), (b8.2, _)]) ((mEnts c.p).length) (fun k x q => (2, .int .i64 ((orK c.p x : Nat) : Int)) :: q) (fun _ _ => _) (fun k x => [(b18, itO b8.2 (mEnts c.p) x)]) (fun k x => []) (fun k x => Vis (mEnts c.p).length k x) [] Vis.nil rfl (Sub.consE (t := 2) rfl rfl (Sub.cons (t := 18) rfl (Sub.nil _))) (.cons .here rfl (.cons .here rfl (.cons .here rfl (Pick.skip (Pick.same rfl))))) ?_
    intro k x kN kI
    refine RunC.seq ?_
    refine RunC.region ?_
    refine RunL.next rfl (fun w hm => hm.at (.tail _ (.tail _ (.head _)))) (fun _ => .here) rfl (fun i19 hi19 hx19 => ?_) (fun hx19 => ?_)
    · refine RunL.val (Val.pure rfl) rfl rfl rfl ?_
      refine RunL.nil ?_
      refine RunE.next ?_
      refine RunC.seq ?_
      refine RunC.cond_true rfl ?_
      refine RunC.skip ?_
      refine RunE.next ?_
      refine RunC.block ?_
      refine RunC.seq ?_
      refine RunC.region ?_
      refine RunL.val (Val.entryV rfl (fun w hm => hm.at (.head _)) (fun w hm => hm.at (.tail _ (.tail _ (.head _)))) hi19 (ent_at hi19)) rfl rfl rfl ?_
      refine RunL.val (Val.pure rfl) rfl rfl rfl ?_
      obtain ⟨y1, y2, y3⟩ := key_at hi19
      have y4 : orK c.p x < 2 ^ 12 := orK_lt (fun i hi => by have := (key_at (kI.lt i hi)).2.1; omega)
      have y5 : 2 ^ keyN c.p i19 ≤ 2 ^ 12 := Nat.pow_le_pow_right (by omega) (by omega)
      have y6 : 2 ^ keyN c.p i19 < 2 ^ 12 := Nat.pow_lt_pow_right (by omega) (by omega)
      have y7 := Nat.or_lt_two_pow y4 y6
      refine RunL.val (Val.pure rfl) rfl rfl rfl ?_
      refine RunL.nil ?_
      refine RunE.next ?_
      refine RunC.region ?_
      refine RunL.val (Val.pure rfl) rfl rfl rfl ?_
      refine RunL.val (Val.pure rfl) rfl rfl rfl ?_
      refine RunL.val (Val.shl1 (b := keyN c.p i19) rfl rfl (by show _ ≤ 64; omega) (i64_inN (n := 2 ^ keyN c.p i19) (by omega))) rfl rfl rfl ?_
      refine RunL.val (Val.or (a := orK c.p x) (b := 2 ^ keyN c.p i19) rfl rfl (by show _ < 18446744073709551616; omega) (by show _ < 18446744073709551616; omega) (i64_inN (by omega))) rfl rfl rfl ?_
      refine RunL.val (Val.pure rfl) rfl rfl rfl ?_
      refine RunL.nil ?_
      refine RunE.block_normal ?_
      exact RunE.roundX (x ++ [i19]) (kI.more hi19 hx19) (kI.snoc hi19 hx19) rfl (Sub.consE (t := 2) rfl (by rw [orK_snoc]) (Sub.cons (t := 18) rfl (Sub.nil _))) (.cons .here rfl (.cons .here rfl (.cons .here rfl .nil)))
    · refine RunL.val (Val.pure rfl) rfl rfl rfl ?_
      refine RunL.nil ?_
      refine RunE.next ?_
      refine RunC.seq ?_
      refine RunC.cond_false rfl ?_
      refine RunC.exit ?_
      refine RunE.pass_exit ?_
      refine RunE.pass_exit ?_
      refine RunE.block_here ?_
      refine RunE.next ?_
      refine RunC.seq ?_
      refine RunC.region ?_
      iterate 3 refine RunL.val (Val.pure rfl) rfl rfl rfl ?_
      refine RunL.nil ?_
      refine RunE.next ?_
      refine RunC.ret ?_
      exact RunE.retP (.r2 rfl (.tmp rfl) (.tmp rfl)) (by simp [seenX, h0, orK_all hx19 kI.lt])
  · refine calls_start Tryz.func6 rfl rfl ?_
    refine RunC.seq ?_
    refine RunC.region ?_
    refine RunL.new (New.box rfl) rfl rfl rfl (fun b1 => ?_)
    refine RunL.val (Val.pure rfl) rfl rfl rfl ?_
    refine RunL.val (Val.pure rfl) rfl rfl rfl ?_
    refine RunL.nil ?_
    refine RunE.next ?_
    refine RunC.seq ?_
    refine RunC.region ?_
    refine RunL.val (Val.load_agg rfl (.head _) ty_28 rfl) rfl rfl rfl ?_
    refine RunL.callP (isCall_func rfl ent_24) rfl rfl rfl (fun w hm => open_err_calls c [] _ rfl h0 q b o cap none 0 0 0 w (hS.mono (by decide) hm (by simp)) hl Sl.emp (by simp)) ?_
    iterate 5 refine RunL.val (Val.pure rfl) rfl rfl rfl ?_
    refine RunL.nil ?_
    refine RunE.next ?_
    refine RunC.seq ?_
    refine RunC.seq ?_
    refine RunC.region ?_
    refine RunL.val (Val.pure rfl) rfl rfl rfl ?_
    refine RunL.val (Val.pure rfl) rfl rfl rfl ?_
    refine RunL.nil ?_
    refine RunE.next ?_
    refine RunC.cond rfl ?_ (fun h => absurd h (by simp [h0]))
    intro c0
    clear c0
    refine RunC.seq ?_
    refine RunC.region ?_
    iterate 3 refine RunL.val (Val.pure rfl) rfl rfl rfl ?_
    refine RunL.nil ?_
    refine RunE.next ?_
    refine RunC.ret ?_
    refine RunE.pass_ret ?_
    exact RunE.retP (.r2 rfl (.tmp rfl) (.tmp rfl)) (by simp [seenX, h0])
end Go.Proofs.YthoheicppmbepaaGreat
