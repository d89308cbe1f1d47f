/- Walks of package heap: Why. -/
import Derived.Test.YtlhdalcipflblaaDoorHn
import Derived.Test.YtlhdalcipflblaaDoorHyA
set_option linter.unusedSimpArgs false
set_option linter.unusedVariables false
namespace Go.Hp
open Go Go.Eng Go.Pw1
theorem union_snoc (s : Nat) : ∀ (l : List Nat) (i f : Nat), unionL s i (l ++ [f]) = unionL s i l ||| (if s.testBit (i + l.length) then f else 0)
  | [], i, f => by simp [unionL]
  | g :: l, i, f => by
    simp only [List.cons_append, unionL, union_snoc s l (i + 1) f, List.length_cons]
    rw [show i + 1 + l.length = i + (l.length + 1) by omega, Nat.or_assoc]
theorem union_lt {s : Nat} {l : List Nat} (h : ∀ f ∈ l, f < 2 ^ 12) : ∀ i, unionL s i l < 2 ^ 12 := by
  induction l with
  | nil => intro i; exact (by decide : (0 : Nat) < 2 ^ 12)
  | cons f l ih =>
    intro i
    unfold unionL
    refine Nat.or_lt_two_pow ?_ (ih (fun f hf => h f (List.mem_cons_of_mem _ hf)) (i + 1))
    split
    · exact h f (List.mem_cons_self ..)
    · decide
theorem union_step {s k f : Nat} {l : List Nat} (hk : k < l.length) (hf : l[k] = f) : unionL s 0 (l.take (k + 1)) = unionL s 0 (l.take k) ||| (if s.testBit k then f else 0) := by
  rw [List.take_succ_eq_append_getElem hk, hf, union_snoc, List.length_take, Nat.min_eq_left (Nat.le_of_lt hk), Nat.zero_add]
theorem union_yes {s k f : Nat} {l : List Nat} (hk : k < l.length) (hf : l[k] = f) (h : s.testBit k = true) : unionL s 0 (l.take (k + 1)) = unionL s 0 (l.take k) ||| f := by rw [union_step hk hf, if_pos h]
theorem union_no {s k f : Nat} {l : List Nat} (hk : k < l.length) (hf : l[k] = f) (h : s.testBit k = false) : unionL s 0 (l.take (k + 1)) = unionL s 0 (l.take k) := by rw [union_step hk hf, if_neg (by simp [h]), Nat.or_zero]
theorem iv_snoc {fs pre : List Nat} {x : Nat} (h : ∀ s ∈ pre, shortX fs (s % 4096) = false) (hx : shortX fs (x % 4096) = false) : ∀ s ∈ pre ++ [x], shortX fs (s % 4096) = false := fun s hs => by
  rcases List.mem_append.1 hs with hs | hs
  · exact h s hs
  · rw [List.mem_singleton.1 hs]; exact hx
theorem sets_lt {n s : Nat} (hn : n ≤ 8) (h : s ∈ setsL n) : s % 4096 = s := by
  unfold setsL at h
  obtain ⟨k, _, h⟩ := List.mem_flatMap.1 h
  have h1 := List.mem_range.1 (List.mem_filter.1 h).1
  have h2 : 2 ^ n ≤ 2 ^ 8 := Nat.pow_le_pow_right (by decide) hn
  exact Nat.mod_eq_of_lt (by omega)
theorem why_none {m : MxA} (hX : mixedX m.pl = true) (h8 : m.cards.length ≤ 8) (h : ∀ s ∈ setsL m.cards.length, shortX (fsX m.pl) (s % 4096) = false) : WhyX m.pl = (0, 0) := by
  have e : whyL (fsX m.pl) = none := by
    unfold whyL
    rw [fs_len, List.find?_eq_none]
    intro s hs
    have := h s hs
    rw [sets_lt h8 hs] at this
    simp [this]
  unfold WhyX
  rw [if_pos hX, e]
theorem why_some {m : MxA} {pre rest : List Nat} {x : Nat} (hX : mixedX m.pl = true) (h8 : m.cards.length ≤ 8) (hr : pre ++ [x] ++ rest = setsL m.cards.length) (h : ∀ s ∈ pre, shortX (fsX m.pl) (s % 4096) = false) (hx : shortX (fsX m.pl) (x % 4096) = true) : WhyX m.pl = (((x % 4096 : Nat) : Int), 11) := by
  have hxm : x % 4096 = x := sets_lt h8 (by rw [← hr]; simp)
  have e : whyL (fsX m.pl) = some x := by
    unfold whyL
    rw [fs_len, ← hr, List.append_assoc, List.find?_append]
    have h1 : pre.find? (shortX (fsX m.pl)) = none := by
      rw [List.find?_eq_none]
      intro s hs
      have := h s hs
      rw [sets_lt h8 (by rw [← hr]; simp [hs])] at this
      simp [this]
    rw [hxm] at hx
    rw [h1]
    simp [hx]
  unfold WhyX
  rw [if_pos hX, e, hxm]
end Go.Hp
namespace Go.Proofs.YtlhdalcipflblaaDoor
open Go Go.Eng Go.Hp Go.Pw1

set_option maxHeartbeats 1000000 in
theorem why0_calls (m : MxA) (hsm : MSm m) (W : World) (hM : MOk W m) (hX : mixedX m.pl = true) (hc0 : m.cards.length = 0) : Calls Tryd.prog 16 #[m.v] W (Pure (.tuple #[.int .i64 (WhyX m.pl).1, .int .i64 (WhyX m.pl).2]) W) := by
  obtain ⟨h4, h8, h12⟩ := mixed_ok hX
  have hfl := fs_len m
  have hall12 : ∀ f ∈ (fsX m.pl), f < 2 ^ 12 := fun f hf => Nat.lt_of_lt_of_le (fs_lt m f hf) (Nat.pow_le_pow_right (by decide) h12)
  refine calls_start_marks Tryd.func16 rfl rfl ?_
  refine RunC.seq ?_
  refine RunC.region ?_
  refine RunL.new (New.box rfl) rfl rfl rfl (fun b1 => ?_)
  refine RunL.new (New.alloc zero_3) rfl rfl rfl (fun b2 => ?_)
  refine RunL.new (New.alloc zero_28) rfl rfl rfl (fun b3 => ?_)
  refine RunL.nil ?_
  refine RunE.next ?_
  refine RunC.seq ?_
  refine RunC.region ?_
  refine RunL.val (Val.load_agg rfl (.tail _ (.tail _ (.head _))) ty_25 rfl) rfl rfl rfl ?_
  refine RunL.callNT (isCall_func rfl ent_39) rfl rfl rfl (fun w hm => openH_calls m hsm w (hM.mono0 hm) hX) (fun z11 => ?_)
  obtain ⟨⟨bh11, bm11, x11, y11⟩, hx11, hy11⟩ := z11
  dsimp only
  iterate 3 refine RunL.val (Val.pure rfl) rfl rfl rfl ?_
  refine RunL.new (New.alloc zero_64) rfl rfl rfl (fun b4 => ?_)
  refine RunL.sto (Sto.store rfl rfl .here ty_64 rfl rfl) rfl rfl ?_
  refine RunL.sto (Sto.store rfl rfl (.there .here) ty_28 rfl rfl) rfl rfl ?_
  refine RunL.nil ?_
  refine RunE.next ?_
  refine RunC.seq ?_
  refine RunC.seq ?_
  refine RunC.region ?_
  refine RunL.val (Val.load_one rfl (.tail _ (.head _)) ty_28 rfl) rfl rfl rfl ?_
  refine RunL.val (Val.pure rfl) rfl rfl rfl ?_
  refine RunL.nil ?_
  refine RunE.next ?_
  refine RunC.cond rfl (fun h => absurd h (by simp)) ?_
  intro c0
  clear c0
  refine RunC.skip ?_
  refine RunE.next ?_
  refine RunC.seq ?_
  refine RunC.seq ?_
  refine RunC.region ?_
  refine RunL.val (Val.load_one rfl (.head _) ty_64 rfl) rfl rfl rfl ?_
  refine RunL.val (Val.pure rfl) rfl rfl rfl ?_
  refine RunL.val (Val.fieldAddr rfl fld_73_0) rfl rfl rfl ?_
  refine RunL.val (Val.fieldAddr rfl fld_25_1) rfl rfl rfl ?_
  refine RunL.val (Val.load_one rfl (.tail _ (.tail _ (.tail _ (.tail _ (.head _))))) ty_23 rfl) rfl rfl rfl ?_
  refine RunL.val (Val.len_sl rfl sl_23) rfl rfl rfl ?_
  refine RunL.callN (isCall_func rfl ent_44) rfl rfl rfl (fun w hm => sets_calls m.cards.length w) (fun b23 => ?_)
  refine RunL.nil ?_
  refine RunE.next ?_
  refine RunC.block ?_
  refine RunC.rangeHI (α := Nat) (Y := Unit) (N := 5000) (S := fun xs => xs = setsL m.cards.length) (Sp := fun pre => ∃ r, pre ++ r = setsL m.cards.length) [(b23, _), (b4, _), (b1, _), (bh11, _), (bm11, _)] (fun x => [.int .u64 ((x % 4096 : Nat) : Int)]) (fun pre => [(b2, .cells [.int .i64 0].toArray 3 (0, 0)), (b3, .cells [.int .i64 0].toArray 28 (0, 0))]) (fun x y q => (5, .int .u64 ((x % 4096 : Nat) : Int)) :: q) (fun x y => []) (fun e pre V => e = .ret ∧ ∃ pre0 x, pre = pre0 ++ [x] ∧ (∀ s ∈ pre0, shortX (fsX m.pl) (s % 4096) = false) ∧ shortX (fsX m.pl) (x % 4096) = true ∧ V = [(b2, .cells [.int .i64 ((x % 4096 : Nat) : Int)].toArray 3 (0, 0)), (b3, .cells [.int .i64 11].toArray 28 (0, 0))]) (fun pre => ∀ s ∈ pre, shortX (fsX m.pl) (s % 4096) = false) (fun s hs => by cases hs) (Sub.cons (t := 2) rfl (Sub.cons (t := 3) rfl (Sub.cons (t := 4) rfl (Sub.nil _)))) (.cons (.there (.there (.there .here))) rfl (.cons (.there (.there .here)) rfl (.cons .here rfl (.cons .here rfl (.cons .here rfl (.cons .here rfl (.cons .here rfl .nil))))))) (fun _ => rfl) (fun _ _ _ hb => by simp only [List.mem_cons, List.not_mem_nil, or_false, Prod.mk.injEq] at hb; rcases hb with ⟨_, rfl⟩ | ⟨_, rfl⟩ <;> rfl) (fun _ _ _ _ hb => by cases hb) (fun _ => rfl) rfl rfl ent_65 (fun w hm => sets_stops m.cards.length h8 b23 w _ (hm.at (.tail _ (.tail _ (.head _)))) (hm.apart (.head _))) ?_ ?_ ?_ ?_
  · intro l1 pre x V1 hV1
    refine RunCR.regionP ?_
    refine RunL.val (Val.pure rfl) rfl rfl rfl ?_
    refine RunL.nil ?_
    exact RunE.asg () rfl (Sub.consE (t := 5) rfl rfl (Sub.cons (t := 2) rfl (Sub.cons (t := 3) rfl (Sub.cons (t := 4) rfl (Sub.nil _))))) .nil
  · intro l1 pre x y W1 hlen1 hIv1 hI1 hL1 hAp1
    have hv1_b23 := hI1.at (.tail _ (.tail _ (.head _)))
    have hn1_b23 := hAp1 _ (.inl ⟨_, (.head _)⟩)
    have hv1_b4 := hI1.at (.tail _ (.tail _ (.tail _ (.head _))))
    have hn1_b4 := hAp1 _ (.inl ⟨_, (.tail _ (.head _))⟩)
    have hv1_b1 := hI1.at (.tail _ (.tail _ (.tail _ (.tail _ (.head _)))))
    have hn1_b1 := hAp1 _ (.inl ⟨_, (.tail _ (.tail _ (.head _)))⟩)
    have hv1_bh11 := hI1.at (.tail _ (.tail _ (.tail _ (.tail _ (.tail _ (.head _))))))
    have hn1_bh11 := hAp1 _ (.inl ⟨_, (.tail _ (.tail _ (.tail _ (.head _))))⟩)
    have hv1_bm11 := hI1.at (.tail _ (.tail _ (.tail _ (.tail _ (.tail _ (.tail _ (.head _)))))))
    have hn1_bm11 := hAp1 _ (.inl ⟨_, (.tail _ (.tail _ (.tail _ (.tail _ (.head _)))))⟩)
    obtain ⟨s, hsx⟩ : ∃ s, x % 4096 = s := ⟨_, rfl⟩
    have hs4 : s < 4096 := by omega
    have hua := union_lt (s := s) hall12 0
    rw [hsx]
    refine RunCR.block ?_
    refine RunCR.seq ?_
    refine RunCR.regionP ?_
    refine RunL.val (Val.pure rfl) rfl rfl rfl ?_
    refine RunL.nil ?_
    refine RunER.next ?_
    refine RunCR.seq ?_
    refine RunCR.seq ?_
    refine RunCR.regionP ?_
    refine RunL.val (Val.oload_one rfl hv1_b4 (notin_of rfl hn1_b4) ty_64 rfl) rfl rfl rfl ?_
    refine RunL.val (Val.pure rfl) rfl rfl rfl ?_
    refine RunL.val (Val.fieldAddr rfl fld_73_2) rfl rfl rfl ?_
    refine RunL.val (Val.oload_one rfl hv1_bh11 (notin_of rfl hn1_bh11) ty_70 rfl) rfl rfl rfl ?_
    refine RunL.val (Val.len_sl rfl sl_70) rfl rfl rfl ?_
    refine RunL.val (Val.pure rfl) rfl rfl rfl ?_
    refine RunL.nil ?_
    refine RunER.next ?_
    refine RunCR.block ?_
    refine RunCR.loopK ((fsX m.pl).length) (fun k q => (30, .int .i64 (k : Int)) :: (6, .int .u64 ((unionL s 0 ((fsX m.pl).take k) : Nat) : Int)) :: q) (fun _ => _) (fun _ => []) (fun _ => True) trivial rfl (Sub.consE (t := 30) rfl rfl (Sub.consE (t := 6) rfl rfl (Sub.cons (t := 2) rfl (Sub.cons (t := 3) rfl (Sub.cons (t := 4) rfl (Sub.cons (t := 5) rfl (Sub.cons (t := 28) rfl (Sub.cons (t := 29) rfl (Sub.nil _))))))))) .nil ?_
    intro k kN kI
    clear kI
    refine RunCR.seq ?_
    refine RunCR.regionP ?_
    refine RunL.val (Val.pure rfl) rfl rfl rfl ?_
    refine RunL.nil ?_
    refine RunER.next ?_
    refine RunCR.seq ?_
    refine RunCR.cond rfl (fun h => absurd h (by simp; omega)) ?_
    intro c1
    clear c1
    have hkn : k = (fsX m.pl).length := by omega
    simp only [hkn, List.take_length]
    refine RunCR.exit ?_
    refine RunE.pass_exit ?_
    refine RunE.pass_exit ?_
    refine RunE.block_here ?_
    refine RunER.next ?_
    refine RunCR.seq ?_
    refine RunCR.regionP ?_
    refine RunL.val (Val.pure rfl) rfl rfl rfl ?_
    refine RunL.callP (isCall_func rfl ent_47) rfl rfl rfl (fun w hm => size_calls (unionL s 0 (fsX m.pl)) hua w) ?_
    refine RunL.val (Val.pure rfl) rfl rfl rfl ?_
    refine RunL.callP (isCall_func rfl ent_47) rfl rfl rfl (fun w hm => size_calls s hs4 w) ?_
    refine RunL.val (Val.pure rfl) rfl rfl rfl ?_
    refine RunL.nil ?_
    refine RunER.next ?_
    refine RunCR.cond rfl ?_ ?_
    · intro c3
      have c3' := c3; clear c3
      try simp only [decide_eq_true_eq, decide_eq_false_iff_not, Bool.not_eq_true', Bool.not_eq_false', Bool.and_eq_true, Bool.or_eq_true, Bool.and_eq_false_iff, Bool.or_eq_false_iff, Int.not_le, Int.not_lt] at c3'
      have hsh : shortX (fsX m.pl) (x % 4096) = true := by (rw [hsx]; exact decide_eq_true (by omega))
      refine RunCR.seq ?_
      refine RunCR.regionP ?_
      refine RunL.val (Val.pure rfl) rfl rfl rfl ?_
      refine RunL.val (Val.convInt rfl und_68 und_3 (IntWalk.i64_in _ ⟨by omega, by omega⟩)) rfl rfl rfl ?_
      refine RunL.sto (Sto.store_chg rfl rfl .here ty_3 rfl rfl) rfl rfl ?_
      refine RunL.sto (Sto.store_chg rfl rfl (.there .here) ty_28 rfl rfl) rfl rfl ?_
      refine RunL.nil ?_
      refine RunER.next ?_
      refine RunCR.ret ?_
      refine RunE.block_ret ?_
      refine RunE.bodyI_ret ?_
      exact RunE.bodyX_ret [(b2, _), (b3, _)] [] ⟨rfl, pre, x, rfl, hIv1, hsh, (by rw [hsx])⟩ rfl
    · intro c3
      have c3' := c3; clear c3
      try simp only [decide_eq_true_eq, decide_eq_false_iff_not, Bool.not_eq_true', Bool.not_eq_false', Bool.and_eq_true, Bool.or_eq_true, Bool.and_eq_false_iff, Bool.or_eq_false_iff, Int.not_le, Int.not_lt] at c3'
      have hsh : shortX (fsX m.pl) (x % 4096) = false := by (rw [hsx]; exact decide_eq_false (by omega))
      refine RunCR.skip ?_
      refine RunE.block_normal ?_
      refine RunE.bodyI (iv_snoc hIv1 hsh) ?_
      exact RunE.bodyX [] rfl
  · intro xs bD0 hXS hXI
    obtain rfl := hXS
    have e9 : WhyX m.pl = (0, 0) := why_none hX h8 hXI
    rw [e9]
    refine RunE.block_normal ?_
    refine RunE.next ?_
    refine RunC.seq ?_
    refine RunC.region ?_
    refine RunL.sto (Sto.store rfl rfl (.there .here) ty_3 rfl rfl) rfl rfl ?_
    refine RunL.sto (Sto.store rfl rfl (.there (.there .here)) ty_28 rfl rfl) rfl rfl ?_
    refine RunL.nil ?_
    refine RunE.next ?_
    refine RunC.ret ?_
    exact RunE.outM [bD0] (.cons .here rfl (.cons .here rfl (.cons .here rfl (.cons .here rfl (.cons .here rfl (.cons .here rfl (.cons .here rfl (.cons .here rfl .nil)))))))) (.r2 rfl (.one rfl (.head _) ty_3 rfl) (.one rfl (.tail _ (.head _)) ty_28 rfl)) (out_pure (by rfl))
  · intro c pre V' bD0 hSp hNm hSt
    obtain ⟨rfl, pre0, x, rfl, hbef, hsh, rfl⟩ := hSt
    obtain ⟨rest, hrest⟩ := hSp
    have e9 : WhyX m.pl = (((x % 4096 : Nat) : Int), 11) := why_some hX h8 hrest hbef hsh
    rw [e9]
    refine RunC.ret ?_
    refine RunE.block_ret ?_
    refine RunE.pass_ret ?_
    exact RunE.outM [bD0] (.cons .here rfl (.cons .here rfl (.cons .here rfl (.cons .here rfl (.cons .here rfl (.cons .here rfl (.cons .here rfl (.cons .here rfl .nil)))))))) (.r2 rfl (.one rfl (.head _) ty_3 rfl) (.one rfl (.tail _ (.head _)) ty_28 rfl)) (out_pure (by rfl))
set_option maxHeartbeats 1000000 in
theorem why1_calls (m : MxA) (hsm : MSm m) (W : World) (hM : MOk W m) (hX : mixedX m.pl = true) (hc0 : 0 < m.cards.length) : Calls Tryd.prog 16 #[m.v] W (Pure (.tuple #[.int .i64 (WhyX m.pl).1, .int .i64 (WhyX m.pl).2]) W) := by
  obtain ⟨h4, h8, h12⟩ := mixed_ok hX
  have hfl := fs_len m
  have hall12 : ∀ f ∈ (fsX m.pl), f < 2 ^ 12 := fun f hf => Nat.lt_of_lt_of_le (fs_lt m f hf) (Nat.pow_le_pow_right (by decide) h12)
  refine calls_start_marks Tryd.func16 rfl rfl ?_
  refine RunC.seq ?_
  refine RunC.region ?_
  refine RunL.new (New.box rfl) rfl rfl rfl (fun b1 => ?_)
  refine RunL.new (New.alloc zero_3) rfl rfl rfl (fun b2 => ?_)
  refine RunL.new (New.alloc zero_28) rfl rfl rfl (fun b3 => ?_)
  refine RunL.nil ?_
  refine RunE.next ?_
  refine RunC.seq ?_
  refine RunC.region ?_
  refine RunL.val (Val.load_agg rfl (.tail _ (.tail _ (.head _))) ty_25 rfl) rfl rfl rfl ?_
  refine RunL.callNT (isCall_func rfl ent_39) rfl rfl rfl (fun w hm => openH_calls m hsm w (hM.mono0 hm) hX) (fun z11 => ?_)
  obtain ⟨⟨bh11, bm11, x11, y11⟩, hx11, hy11⟩ := z11
  obtain ⟨bf11, cf11, rf11, e11, -, -, -⟩ := OwnOk.has hy11 (by omega)
  dsimp only at e11
  subst e11
  dsimp only
  iterate 3 refine RunL.val (Val.pure rfl) rfl rfl rfl ?_
  refine RunL.new (New.alloc zero_64) rfl rfl rfl (fun b4 => ?_)
  refine RunL.sto (Sto.store rfl rfl .here ty_64 rfl rfl) rfl rfl ?_
  refine RunL.sto (Sto.store rfl rfl (.there .here) ty_28 rfl rfl) rfl rfl ?_
  refine RunL.nil ?_
  refine RunE.next ?_
  refine RunC.seq ?_
  refine RunC.seq ?_
  refine RunC.region ?_
  refine RunL.val (Val.load_one rfl (.tail _ (.head _)) ty_28 rfl) rfl rfl rfl ?_
  refine RunL.val (Val.pure rfl) rfl rfl rfl ?_
  refine RunL.nil ?_
  refine RunE.next ?_
  refine RunC.cond rfl (fun h => absurd h (by simp)) ?_
  intro c0
  clear c0
  refine RunC.skip ?_
  refine RunE.next ?_
  refine RunC.seq ?_
  refine RunC.seq ?_
  refine RunC.region ?_
  refine RunL.val (Val.load_one rfl (.head _) ty_64 rfl) rfl rfl rfl ?_
  refine RunL.val (Val.pure rfl) rfl rfl rfl ?_
  refine RunL.val (Val.fieldAddr rfl fld_73_0) rfl rfl rfl ?_
  refine RunL.val (Val.fieldAddr rfl fld_25_1) rfl rfl rfl ?_
  refine RunL.val (Val.load_one rfl (.tail _ (.tail _ (.tail _ (.tail _ (.head _))))) ty_23 rfl) rfl rfl rfl ?_
  refine RunL.val (Val.len_sl rfl sl_23) rfl rfl rfl ?_
  refine RunL.callN (isCall_func rfl ent_44) rfl rfl rfl (fun w hm => sets_calls m.cards.length w) (fun b23 => ?_)
  refine RunL.nil ?_
  refine RunE.next ?_
  refine RunC.block ?_
  refine RunC.rangeHI (α := Nat) (Y := Unit) (N := 5000) (S := fun xs => xs = setsL m.cards.length) (Sp := fun pre => ∃ r, pre ++ r = setsL m.cards.length) [(b23, _), (b4, _), (b1, _), (bh11, _), (bm11, _), (bf11, _)] (fun x => [.int .u64 ((x % 4096 : Nat) : Int)]) (fun pre => [(b2, .cells [.int .i64 0].toArray 3 (0, 0)), (b3, .cells [.int .i64 0].toArray 28 (0, 0))]) (fun x y q => (5, .int .u64 ((x % 4096 : Nat) : Int)) :: q) (fun x y => []) (fun e pre V => e = .ret ∧ ∃ pre0 x, pre = pre0 ++ [x] ∧ (∀ s ∈ pre0, shortX (fsX m.pl) (s % 4096) = false) ∧ shortX (fsX m.pl) (x % 4096) = true ∧ V = [(b2, .cells [.int .i64 ((x % 4096 : Nat) : Int)].toArray 3 (0, 0)), (b3, .cells [.int .i64 11].toArray 28 (0, 0))]) (fun pre => ∀ s ∈ pre, shortX (fsX m.pl) (s % 4096) = false) (fun s hs => by cases hs) (Sub.cons (t := 2) rfl (Sub.cons (t := 3) rfl (Sub.cons (t := 4) rfl (Sub.nil _)))) (.cons (.there (.there (.there .here))) rfl (.cons (.there (.there .here)) rfl (.cons .here rfl (.cons .here rfl (.cons .here rfl (.cons .here rfl (.cons .here rfl (.cons .here rfl .nil)))))))) (fun _ => rfl) (fun _ _ _ hb => by simp only [List.mem_cons, List.not_mem_nil, or_false, Prod.mk.injEq] at hb; rcases hb with ⟨_, rfl⟩ | ⟨_, rfl⟩ <;> rfl) (fun _ _ _ _ hb => by cases hb) (fun _ => rfl) rfl rfl ent_65 (fun w hm => sets_stops m.cards.length h8 b23 w _ (hm.at (.tail _ (.tail _ (.head _)))) (hm.apart (.head _))) ?_ ?_ ?_ ?_
  · intro l1 pre x V1 hV1
    refine RunCR.regionP ?_
    refine RunL.val (Val.pure rfl) rfl rfl rfl ?_
    refine RunL.nil ?_
    exact RunE.asg () rfl (Sub.consE (t := 5) rfl rfl (Sub.cons (t := 2) rfl (Sub.cons (t := 3) rfl (Sub.cons (t := 4) rfl (Sub.nil _))))) .nil
  · intro l1 pre x y W1 hlen1 hIv1 hI1 hL1 hAp1
    have hv1_b23 := hI1.at (.tail _ (.tail _ (.head _)))
    have hn1_b23 := hAp1 _ (.inl ⟨_, (.head _)⟩)
    have hv1_b4 := hI1.at (.tail _ (.tail _ (.tail _ (.head _))))
    have hn1_b4 := hAp1 _ (.inl ⟨_, (.tail _ (.head _))⟩)
    have hv1_b1 := hI1.at (.tail _ (.tail _ (.tail _ (.tail _ (.head _)))))
    have hn1_b1 := hAp1 _ (.inl ⟨_, (.tail _ (.tail _ (.head _)))⟩)
    have hv1_bh11 := hI1.at (.tail _ (.tail _ (.tail _ (.tail _ (.tail _ (.head _))))))
    have hn1_bh11 := hAp1 _ (.inl ⟨_, (.tail _ (.tail _ (.tail _ (.head _))))⟩)
    have hv1_bm11 := hI1.at (.tail _ (.tail _ (.tail _ (.tail _ (.tail _ (.tail _ (.head _)))))))
    have hn1_bm11 := hAp1 _ (.inl ⟨_, (.tail _ (.tail _ (.tail _ (.tail _ (.head _)))))⟩)
    have hv1_bf11 := hI1.at (.tail _ (.tail _ (.tail _ (.tail _ (.tail _ (.tail _ (.tail _ (.head _))))))))
    have hn1_bf11 := hAp1 _ (.inl ⟨_, (.tail _ (.tail _ (.tail _ (.tail _ (.tail _ (.head _))))))⟩)
    obtain ⟨s, hsx⟩ : ∃ s, x % 4096 = s := ⟨_, rfl⟩
    have hs4 : s < 4096 := by omega
    have hua := union_lt (s := s) hall12 0
    rw [hsx]
    have hSf : Sl W1 (some ⟨bf11, 0, none⟩) bf11 0 1 (setsV (fsX m.pl)) := stB_sl (z := (bf11, cf11, rf11)) hv1_bf11
    refine RunCR.block ?_
    refine RunCR.seq ?_
    refine RunCR.regionP ?_
    refine RunL.val (Val.pure rfl) rfl rfl rfl ?_
    refine RunL.nil ?_
    refine RunER.next ?_
    refine RunCR.seq ?_
    refine RunCR.seq ?_
    refine RunCR.regionP ?_
    refine RunL.val (Val.oload_one rfl hv1_b4 (notin_of rfl hn1_b4) ty_64 rfl) rfl rfl rfl ?_
    refine RunL.val (Val.pure rfl) rfl rfl rfl ?_
    refine RunL.val (Val.fieldAddr rfl fld_73_2) rfl rfl rfl ?_
    refine RunL.val (Val.oload_one rfl hv1_bh11 (notin_of rfl hn1_bh11) ty_70 rfl) rfl rfl rfl ?_
    refine RunL.val (Val.len_sl rfl sl_70) rfl rfl rfl ?_
    refine RunL.val (Val.pure rfl) rfl rfl rfl ?_
    refine RunL.nil ?_
    refine RunER.next ?_
    refine RunCR.block ?_
    refine RunCR.loopK ((fsX m.pl).length) (fun k q => (30, .int .i64 (k : Int)) :: (6, .int .u64 ((unionL s 0 ((fsX m.pl).take k) : Nat) : Int)) :: q) (fun _ => _) (fun _ => []) (fun _ => True) trivial rfl (Sub.consE (t := 30) rfl rfl (Sub.consE (t := 6) rfl rfl (Sub.cons (t := 2) rfl (Sub.cons (t := 3) rfl (Sub.cons (t := 4) rfl (Sub.cons (t := 5) rfl (Sub.cons (t := 28) rfl (Sub.cons (t := 29) rfl (Sub.nil _))))))))) .nil ?_
    intro k kN kI
    clear kI
    refine RunCR.seq ?_
    refine RunCR.regionP ?_
    refine RunL.val (Val.pure rfl) rfl rfl rfl ?_
    refine RunL.nil ?_
    refine RunER.next ?_
    refine RunCR.seq ?_
    refine RunCR.cond rfl ?_ ?_
    · intro c1
      have c1' := c1; clear c1
      try simp only [decide_eq_true_eq, decide_eq_false_iff_not, Bool.not_eq_true', Bool.not_eq_false', Bool.and_eq_true, Bool.or_eq_true, Bool.and_eq_false_iff, Bool.or_eq_false_iff, Int.not_le, Int.not_lt] at c1'
      have hk : k < (fsX m.pl).length := by omega
      obtain ⟨f, hf⟩ : ∃ f, (fsX m.pl)[k] = f := ⟨_, rfl⟩
      have hf12 := hall12 f (hf ▸ List.getElem_mem hk)
      have hu := union_lt (s := s) (fun x hx => hall12 x (List.mem_of_mem_take hx)) 0 (l := (fsX m.pl).take k)
      refine RunCR.skip ?_
      refine RunER.next ?_
      refine RunCR.seq ?_
      refine RunCR.block ?_
      refine RunCR.seq ?_
      refine RunCR.regionP ?_
      refine RunL.val (Val.pure rfl) rfl rfl rfl ?_
      refine RunL.val (Val.indexAddr_sl rfl rfl sl_70 (by omega) (by omega)) rfl rfl rfl ?_
      refine RunL.val (Val.load_gen rfl (fun w hm => hSf.loadM1 (by decide) hm (notin_of rfl hn1_bf11) ty_68 hk (v := .int .u64 (f : Int)) (by simp [hf]))) rfl rfl rfl ?_
      refine RunL.val (Val.pure rfl) rfl rfl rfl ?_
      refine RunL.val (Val.pure rfl) rfl rfl rfl ?_
      refine RunL.nil ?_
      refine RunER.next ?_
      refine RunCR.seq ?_
      refine RunCR.regionP ?_
      refine RunL.val (Val.pure rfl) rfl rfl rfl ?_
      refine RunL.val (Val.pure rfl) rfl rfl rfl ?_
      refine RunL.callP (isCall_func rfl ent_45) rfl rfl rfl (fun w hm => has_calls s k (by omega) (by omega) w) ?_
      refine RunL.nil ?_
      refine RunER.next ?_
      refine RunCR.cond rfl ?_ ?_
      · intro c2
        have c2' := c2; clear c2
        try simp only [decide_eq_true_eq, decide_eq_false_iff_not, Bool.not_eq_true', Bool.not_eq_false', Bool.and_eq_true, Bool.or_eq_true, Bool.and_eq_false_iff, Bool.or_eq_false_iff, Int.not_le, Int.not_lt] at c2'
        refine RunCR.regionP ?_
        refine RunL.val (Val.pure rfl) rfl rfl rfl ?_
        refine RunL.val (Val.pure rfl) rfl rfl rfl ?_
        refine RunL.new (New.buildSlice (parts := [(0, .tmp 38), (1, .tmp 39)]) rfl sl_70 zero_68 rfl rfl rfl rfl) rfl rfl rfl (fun b40 => ?_)
        refine RunL.callP (isCall_func rfl ent_46) rfl rfl rfl (fun w hm => union2_calls (unionL s 0 ((fsX m.pl).take k)) f hu hf12 b40 w (hm.at (.tail _ (.tail _ (.head _))))) ?_
        refine RunL.val (Val.pure rfl) rfl rfl rfl ?_
        refine RunL.nil ?_
        refine RunE.block_normal ?_
        refine RunER.next ?_
        refine RunCR.regionP ?_
        refine RunL.val (Val.add rfl rfl (IntWalk.i64_in _ ⟨by omega, by omega⟩)) rfl rfl rfl ?_
        refine RunL.val (Val.pure rfl) rfl rfl rfl ?_
        refine RunL.nil ?_
        exact RunE.round (by omega) trivial rfl (Sub.consE (t := 30) rfl rfl (Sub.consE (t := 6) rfl (by first | rw [union_yes hk hf c2'] | rw [union_no hk hf c2']) (Sub.cons (t := 2) rfl (Sub.cons (t := 3) rfl (Sub.cons (t := 4) rfl (Sub.cons (t := 5) rfl (Sub.cons (t := 28) rfl (Sub.cons (t := 29) rfl (Sub.nil _))))))))) .nil
      · intro c2
        have c2' := c2; clear c2
        try simp only [decide_eq_true_eq, decide_eq_false_iff_not, Bool.not_eq_true', Bool.not_eq_false', Bool.and_eq_true, Bool.or_eq_true, Bool.and_eq_false_iff, Bool.or_eq_false_iff, Int.not_le, Int.not_lt] at c2'
        refine RunCR.skip ?_
        refine RunE.block_normal ?_
        refine RunER.next ?_
        refine RunCR.regionP ?_
        refine RunL.val (Val.add rfl rfl (IntWalk.i64_in _ ⟨by omega, by omega⟩)) rfl rfl rfl ?_
        refine RunL.val (Val.pure rfl) rfl rfl rfl ?_
        refine RunL.nil ?_
        exact RunE.round (by omega) trivial rfl (Sub.consE (t := 30) rfl rfl (Sub.consE (t := 6) rfl (by first | rw [union_yes hk hf c2'] | rw [union_no hk hf c2']) (Sub.cons (t := 2) rfl (Sub.cons (t := 3) rfl (Sub.cons (t := 4) rfl (Sub.cons (t := 5) rfl (Sub.cons (t := 28) rfl (Sub.cons (t := 29) rfl (Sub.nil _))))))))) .nil
    · intro c1
      have c1' := c1; clear c1
      try simp only [decide_eq_true_eq, decide_eq_false_iff_not, Bool.not_eq_true', Bool.not_eq_false', Bool.and_eq_true, Bool.or_eq_true, Bool.and_eq_false_iff, Bool.or_eq_false_iff, Int.not_le, Int.not_lt] at c1'
      have hkn : k = (fsX m.pl).length := by omega
      simp only [hkn, List.take_length]
      refine RunCR.exit ?_
      refine RunE.pass_exit ?_
      refine RunE.pass_exit ?_
      refine RunE.block_here ?_
      refine RunER.next ?_
      refine RunCR.seq ?_
      refine RunCR.regionP ?_
      refine RunL.val (Val.pure rfl) rfl rfl rfl ?_
      refine RunL.callP (isCall_func rfl ent_47) rfl rfl rfl (fun w hm => size_calls (unionL s 0 (fsX m.pl)) hua w) ?_
      refine RunL.val (Val.pure rfl) rfl rfl rfl ?_
      refine RunL.callP (isCall_func rfl ent_47) rfl rfl rfl (fun w hm => size_calls s hs4 w) ?_
      refine RunL.val (Val.pure rfl) rfl rfl rfl ?_
      refine RunL.nil ?_
      refine RunER.next ?_
      refine RunCR.cond rfl ?_ ?_
      · intro c3
        have c3' := c3; clear c3
        try simp only [decide_eq_true_eq, decide_eq_false_iff_not, Bool.not_eq_true', Bool.not_eq_false', Bool.and_eq_true, Bool.or_eq_true, Bool.and_eq_false_iff, Bool.or_eq_false_iff, Int.not_le, Int.not_lt] at c3'
        have hsh : shortX (fsX m.pl) (x % 4096) = true := by (rw [hsx]; exact decide_eq_true (by omega))
        refine RunCR.seq ?_
        refine RunCR.regionP ?_
        refine RunL.val (Val.pure rfl) rfl rfl rfl ?_
        refine RunL.val (Val.convInt rfl und_68 und_3 (IntWalk.i64_in _ ⟨by omega, by omega⟩)) rfl rfl rfl ?_
        refine RunL.sto (Sto.store_chg rfl rfl .here ty_3 rfl rfl) rfl rfl ?_
        refine RunL.sto (Sto.store_chg rfl rfl (.there .here) ty_28 rfl rfl) rfl rfl ?_
        refine RunL.nil ?_
        refine RunER.next ?_
        refine RunCR.ret ?_
        refine RunE.block_ret ?_
        refine RunE.bodyI_ret ?_
        exact RunE.bodyX_ret [(b2, _), (b3, _)] [] ⟨rfl, pre, x, rfl, hIv1, hsh, (by rw [hsx])⟩ rfl
      · intro c3
        have c3' := c3; clear c3
        try simp only [decide_eq_true_eq, decide_eq_false_iff_not, Bool.not_eq_true', Bool.not_eq_false', Bool.and_eq_true, Bool.or_eq_true, Bool.and_eq_false_iff, Bool.or_eq_false_iff, Int.not_le, Int.not_lt] at c3'
        have hsh : shortX (fsX m.pl) (x % 4096) = false := by (rw [hsx]; exact decide_eq_false (by omega))
        refine RunCR.skip ?_
        refine RunE.block_normal ?_
        refine RunE.bodyI (iv_snoc hIv1 hsh) ?_
        exact RunE.bodyX [] rfl
  · intro xs bD0 hXS hXI
    obtain rfl := hXS
    have e9 : WhyX m.pl = (0, 0) := why_none hX h8 hXI
    rw [e9]
    refine RunE.block_normal ?_
    refine RunE.next ?_
    refine RunC.seq ?_
    refine RunC.region ?_
    refine RunL.sto (Sto.store rfl rfl (.there .here) ty_3 rfl rfl) rfl rfl ?_
    refine RunL.sto (Sto.store rfl rfl (.there (.there .here)) ty_28 rfl rfl) rfl rfl ?_
    refine RunL.nil ?_
    refine RunE.next ?_
    refine RunC.ret ?_
    exact RunE.outM [bD0] (.cons .here rfl (.cons .here rfl (.cons .here rfl (.cons .here rfl (.cons .here rfl (.cons .here rfl (.cons .here rfl (.cons .here rfl (.cons .here rfl .nil))))))))) (.r2 rfl (.one rfl (.head _) ty_3 rfl) (.one rfl (.tail _ (.head _)) ty_28 rfl)) (out_pure (by rfl))
  · intro c pre V' bD0 hSp hNm hSt
    obtain ⟨rfl, pre0, x, rfl, hbef, hsh, rfl⟩ := hSt
    obtain ⟨rest, hrest⟩ := hSp
    have e9 : WhyX m.pl = (((x % 4096 : Nat) : Int), 11) := why_some hX h8 hrest hbef hsh
    rw [e9]
    refine RunC.ret ?_
    refine RunE.block_ret ?_
    refine RunE.pass_ret ?_
    exact RunE.outM [bD0] (.cons .here rfl (.cons .here rfl (.cons .here rfl (.cons .here rfl (.cons .here rfl (.cons .here rfl (.cons .here rfl (.cons .here rfl (.cons .here rfl .nil))))))))) (.r2 rfl (.one rfl (.head _) ty_3 rfl) (.one rfl (.tail _ (.head _)) ty_28 rfl)) (out_pure (by rfl))
set_option maxHeartbeats 1000000 in
theorem why_calls (m : MxA) (hsm : MSm m) (W : World) (hM : MOk W m) : Calls Tryd.prog 16 #[m.v] W (Pure (.tuple #[.int .i64 (WhyX m.pl).1, .int .i64 (WhyX m.pl).2]) W) := by
  cases hX : mixedX m.pl with
  | false =>
    have e : WhyX m.pl = (0, 1) := by unfold WhyX; rw [hX]; rfl
    rw [e]
    refine calls_start_marks Tryd.func16 rfl rfl ?_
    refine RunC.seq ?_
    refine RunC.region ?_
    refine RunL.new (New.box rfl) rfl rfl rfl (fun b1 => ?_)
    refine RunL.new (New.alloc zero_3) rfl rfl rfl (fun b2 => ?_)
    refine RunL.new (New.alloc zero_28) rfl rfl rfl (fun b3 => ?_)
    refine RunL.nil ?_
    refine RunE.next ?_
    refine RunC.seq ?_
    refine RunC.region ?_
    refine RunL.val (Val.load_agg rfl (.tail _ (.tail _ (.head _))) ty_25 rfl) rfl rfl rfl ?_
    refine RunL.callP (isCall_func rfl ent_39) rfl rfl rfl (fun w hm => openH_err m hsm w (hM.mono0 hm) hX) ?_
    iterate 3 refine RunL.val (Val.pure rfl) rfl rfl rfl ?_
    refine RunL.new (New.alloc zero_64) rfl rfl rfl (fun b4 => ?_)
    refine RunL.sto (Sto.store rfl rfl .here ty_64 rfl rfl) rfl rfl ?_
    refine RunL.sto (Sto.store rfl rfl (.there .here) ty_28 rfl rfl) rfl rfl ?_
    refine RunL.nil ?_
    refine RunE.next ?_
    refine RunC.seq ?_
    refine RunC.seq ?_
    refine RunC.region ?_
    refine RunL.val (Val.load_one rfl (.tail _ (.head _)) ty_28 rfl) rfl rfl rfl ?_
    refine RunL.val (Val.pure rfl) rfl rfl rfl ?_
    refine RunL.nil ?_
    refine RunE.next ?_
    refine RunC.cond rfl ?_ (fun h => absurd h (by simp))
    intro c0
    clear c0
    refine RunC.seq ?_
    refine RunC.drawN 2 fol_ (.cons .here rfl (.cons .here rfl (.cons (.there .here) rfl .nil))) ?_
    refine RunA.val (i := 0) rfl (by kernel_rfl) (by kernel_rfl) (Val.load_one rfl (.tail _ (.head _)) ty_28 rfl) rfl rfl rfl (fun _ _ _ h => h) (.cons .here rfl (.cons .here rfl (.cons (.there .here) rfl .nil))) rfl ?_
    refine RunA.one (i := 1) (by kernel_rfl) (by kernel_rfl) ?_
    refine RunI.sto rfl (Sto.store rfl rfl (.there (.there .here)) ty_3 rfl rfl) rfl rfl (RunK.toA (.cons .here rfl (.cons .here rfl (.cons (.there .here) rfl .nil))) (.cons .here rfl (.cons .here rfl (.cons .here rfl .nil))) rfl ?_)
    refine RunA.toB (by kernel_rfl) ?_
    refine RunB.one (i := 2) (by kernel_rfl) ?_
    refine RunI.sto rfl (Sto.store rfl rfl (.there .here) ty_28 rfl rfl) rfl rfl (RunK.toB ?_)
    refine RunB.done (by kernel_rfl) ?_
    refine RunE.noPan ?_
    refine RunE.next ?_
    refine RunC.ret ?_
    refine RunE.pass_ret ?_
    exact RunE.outM [] (.cons .here rfl (.cons .here rfl (.cons .here rfl (.cons .here rfl .nil)))) (.r2 rfl (.one rfl (.tail _ (.tail _ (.head _))) ty_3 rfl) (.one rfl (.tail _ (.head _)) ty_28 rfl)) (out_pure (by first | rfl | simp))
  | true =>
    obtain ⟨h4, h8, h12⟩ := mixed_ok hX
    have hfl := fs_len m
    have hall12 : ∀ f ∈ (fsX m.pl), f < 2 ^ 12 := fun f hf => Nat.lt_of_lt_of_le (fs_lt m f hf) (Nat.pow_le_pow_right (by decide) h12)
    rcases Nat.eq_zero_or_pos m.cards.length with hc0 | hc0
    · exact why0_calls m hsm W hM hX hc0
    · exact why1_calls m hsm W hM hX hc0
end Go.Proofs.YtlhdalcipflblaaDoor
