/- Walks of package heap: Fits, Count, Share, ways. -/
import Derived.Test.YtlhdalcipflblaaDoorHi
import Derived.Test.YtlhdalcipflblaaDoorHy5
set_option linter.unusedSimpArgs false
set_option linter.unusedVariables false
namespace Go.Hp
open Go Go.Eng Go.Pw1
theorem fs_len (m : MxA) : (fsX m.pl).length = m.cards.length := by simp [fsX, MxA.pl]
theorem ne_eq (m : MxA) : neX m.pl = (esX m).length := rfl
theorem fs_lt (m : MxA) : ∀ f ∈ fsX m.pl, f < 2 ^ (esX m).length := fun f hf => by
  obtain ⟨t, _, rfl⟩ := List.mem_map.1 hf
  have := fitsL_lt t (entriesX m.pl.boxes) 0
  rw [Nat.zero_add] at this
  exact this
abbrev hpV (m : MxA) (bh bm : Nat) (x y : Eng.Own) : Obj := .cells [.slice m.q m.bxs.length m.cap, .slice m.q2 m.cards.length m.cap2, .slice (ownQ x) (esX m).length (ownC x), .slice (ownQ y) (fsX m.pl).length (ownC y), .map (some bm)].toArray 73 (0, 0)
theorem own_ptr {sz n : Nat} {x : Eng.Own} {xs : List Value} (h : OwnOk sz x n xs) (hn : 0 < n) : ownQ x = some ⟨ownK x, 0, none⟩ := by
  obtain ⟨b, c, r, rfl, _⟩ := h.has hn
  rfl
theorem sets_sl {l : List Nat} {y : Eng.Own} {w : World} {k : Nat} (hy : OwnOk 1 y k (setsV l).flatten) (hm : ∀ b o, (b, o) ∈ ownB 68 y (setsV l).flatten → w.heap[b]? = some o) : Sl w (ownQ y) (ownK y) 0 1 (setsV l) :=
  own_sl (f := fun (x : Nat) => [Value.int .u64 (x : Int)]) (fun _ => rfl) (by decide) hy hm
theorem card_nat {m : Mx} {c : Int} (h : cardX m c = true) : ∃ k : Nat, c = (k : Int) ∧ k < m.cards.length := by
  unfold cardX within at h
  rw [Bool.and_eq_true, decide_eq_true_eq, decide_eq_true_eq] at h
  exact ⟨c.toNat, by omega, by omega⟩
theorem entry_nat {m : Mx} {c : Int} (h : entryX m c = true) : ∃ k : Nat, c = (k : Int) ∧ k < neX m := by
  unfold entryX within at h
  rw [Bool.and_eq_true, decide_eq_true_eq, decide_eq_true_eq] at h
  exact ⟨c.toNat, by omega, by omega⟩
theorem hp_at {m : MxA} {bh bm : Nat} {x y : Eng.Own} {w : World} (hX : mixedX m.pl = true) (hv : w.heap[bh]? = some (hpV m bh bm x y)) (hy : OwnOk 1 y (fsX m.pl).length (setsV (fsX m.pl)).flatten) (hm : ∀ b o, (b, o) ∈ ownB 68 y (setsV (fsX m.pl)).flatten → w.heap[b]? = some o) :
    HpAt w bh bm m (esX m).length (ownQ x) (ownC x) (fsX m.pl) (ownQ y) (ownK y) (ownC y) := by
  obtain ⟨h1, h2, h3⟩ := mixed_ok hX
  exact ⟨hv, sets_sl hy hm, fs_len m, by rw [fs_len]; exact h2, h3, fs_lt m⟩
abbrev HW (m : MxA) := { z : Hz × List ((Nat × Nat) × Value) // OwnOk 3 z.1.x (esX m).length ((esX m).map En.cells).flatten ∧ OwnOk 1 z.1.y (fsX m.pl).length (setsV (fsX m.pl)).flatten ∧ GoodM (esX m).length (fsX m.pl) z.2 }
theorem cnt_small (m : MxA) (hX : mixedX m.pl = true) : cntX m.pl ≤ 429981696 := by
  obtain ⟨h1, h2, h3⟩ := mixed_ok hX
  exact cnt_bd (by rw [ne_eq]; exact h3) (by rw [fs_len]; exact h2) 0
end Go.Hp
namespace Go.Proofs.YtlhdalcipflblaaDoor
open Go Go.Eng Go.Hp Go.Pw1

theorem isCard_calls (m : MxA) (hc : m.cards.length ≤ 8) (bh : Nat) (c : Int) (a b d : Value) (W : World) (hv : W.heap[bh]? = some (.cells [.slice m.q m.bxs.length m.cap, .slice m.q2 m.cards.length m.cap2, a, b, d].toArray 73 (0, 0))) : Calls Tryd.prog 40 #[.pointer (some ⟨bh, 0, none⟩), .int .i64 c] W (Pure (.bool (cardX m.pl c)) W) := by
  refine calls_start Tryd.func40 rfl rfl ?_
  refine RunC.seq ?_
  refine RunC.region ?_
  refine RunL.val (Val.pure rfl) rfl rfl rfl ?_
  refine RunL.nil ?_
  refine RunE.next ?_
  refine RunC.seq ?_
  refine RunC.region ?_
  iterate 3 refine RunL.val (Val.pure rfl) rfl rfl rfl ?_
  refine RunL.val (Val.fieldAddr rfl fld_73_0) rfl rfl rfl ?_
  refine RunL.val (Val.fieldAddr rfl fld_25_1) rfl rfl rfl ?_
  refine RunL.val (Val.oload_one rfl hv (by simp) ty_23 rfl) rfl rfl rfl ?_
  refine RunL.val (Val.len_sl rfl sl_23) rfl rfl rfl ?_
  refine RunL.val (Val.sub' rfl rfl (IntWalk.i64_in _ ⟨by omega, by omega⟩)) rfl rfl rfl ?_
  refine RunL.callP (isCall_func rfl ent_53) rfl rfl rfl (fun w hm => hwithin_calls _ _ _ w) ?_
  refine RunL.val (Val.pure rfl) rfl rfl rfl ?_
  refine RunL.nil ?_
  refine RunE.next ?_
  refine RunC.ret ?_
  exact RunE.retP (.r1 rfl (.tmp rfl)) (by first | rfl | simp)
theorem fits_err (m : MxA) (hsm : MSm m) (c : Int) (W : World) (hM : MOk W m) (hX : mixedX m.pl = false) : Calls Tryd.prog 14 #[m.v, .int .i64 c] W (Pure (.tuple #[.int .i64 (FitsX m.pl c).1, .int .i64 (FitsX m.pl c).2]) W) := by
  have e : FitsX m.pl c = (0, 1) := by unfold FitsX; rw [hX]; rfl
  rw [e]
  refine calls_start Tryd.func14 rfl rfl ?_
  refine RunC.seq ?_
  refine RunC.region ?_
  refine RunL.new (New.box rfl) rfl rfl rfl (fun b2 => ?_)
  refine RunL.val (Val.pure rfl) rfl rfl rfl ?_
  refine RunL.val (Val.pure rfl) rfl rfl rfl ?_
  refine RunL.nil ?_
  refine RunE.next ?_
  refine RunC.seq ?_
  refine RunC.region ?_
  refine RunL.val (Val.load_agg rfl (.head _) ty_25 rfl) rfl rfl rfl ?_
  refine RunL.callP (isCall_func rfl ent_39) rfl rfl rfl (fun w hm => openH_err m hsm w (hM.mono0 hm) hX) ?_
  iterate 5 refine RunL.val (Val.pure rfl) rfl rfl rfl ?_
  refine RunL.nil ?_
  refine RunE.next ?_
  refine RunC.seq ?_
  refine RunC.block ?_
  refine RunC.seq ?_
  refine RunC.region ?_
  iterate 3 refine RunL.val (Val.pure rfl) rfl rfl rfl ?_
  refine RunL.nil ?_
  refine RunE.next ?_
  refine RunC.cond rfl ?_ (fun h => absurd h (by simp))
  intro c0
  clear c0
  refine RunC.seq ?_
  refine RunC.region ?_
  iterate 3 refine RunL.val (Val.pure rfl) rfl rfl rfl ?_
  refine RunL.nil ?_
  refine RunE.next ?_
  refine RunC.ret ?_
  refine RunE.block_ret ?_
  refine RunE.pass_ret ?_
  exact RunE.retP (.r2 rfl (.tmp rfl) (.tmp rfl)) (by first | rfl | simp)
theorem fits_calls (m : MxA) (hsm : MSm m) (c : Int) (W : World) (hM : MOk W m) : Calls Tryd.prog 14 #[m.v, .int .i64 c] W (Pure (.tuple #[.int .i64 (FitsX m.pl c).1, .int .i64 (FitsX m.pl c).2]) W) := by
  cases hX : mixedX m.pl with
  | false => exact fits_err m hsm c W hM hX
  | true =>
    obtain ⟨h4, h8, h12⟩ := mixed_ok hX
    have hfl := fs_len m
    unfold FitsX
    rw [if_pos hX]
    refine calls_start Tryd.func14 rfl rfl ?_
    refine RunC.seq ?_
    refine RunC.region ?_
    refine RunL.new (New.box rfl) rfl rfl rfl (fun b2 => ?_)
    refine RunL.val (Val.pure rfl) rfl rfl rfl ?_
    refine RunL.val (Val.pure rfl) rfl rfl rfl ?_
    refine RunL.nil ?_
    refine RunE.next ?_
    refine RunC.seq ?_
    refine RunC.region ?_
    refine RunL.val (Val.load_agg rfl (.head _) ty_25 rfl) rfl rfl rfl ?_
    refine RunL.callNT (isCall_func rfl ent_39) rfl rfl rfl (fun w hm => openH_calls m hsm w (hM.mono0 hm) hX) (fun z9 => ?_)
    obtain ⟨⟨bh9, bm9, x9, y9⟩, hx9, hy9⟩ := z9
    dsimp only
    iterate 5 refine RunL.val (Val.pure rfl) rfl rfl rfl ?_
    refine RunL.nil ?_
    refine RunE.next ?_
    refine RunC.seq ?_
    refine RunC.block ?_
    refine RunC.seq ?_
    refine RunC.region ?_
    iterate 3 refine RunL.val (Val.pure rfl) rfl rfl rfl ?_
    refine RunL.nil ?_
    refine RunE.next ?_
    refine RunC.cond rfl (fun h => absurd h (by simp)) ?_
    intro c0
    clear c0
    refine RunC.seq ?_
    refine RunC.region ?_
    refine RunL.val (Val.pure rfl) rfl rfl rfl ?_
    refine RunL.val (Val.pure rfl) rfl rfl rfl ?_
    refine RunL.callP (isCall_func rfl ent_40) rfl rfl rfl (fun w hm => isCard_calls m h8 bh9 c _ _ _ w (hm.at (.tail _ (.head _)))) ?_
    refine RunL.val (Val.pure rfl) rfl rfl rfl ?_
    refine RunL.val (Val.pure rfl) rfl rfl rfl ?_
    refine RunL.nil ?_
    refine RunE.next ?_
    refine RunC.cond rfl ?_ ?_
    · intro c1
      have c1' := c1; clear c1
      try simp only [decide_eq_true_eq, decide_eq_false_iff_not, Bool.not_eq_true', Bool.not_eq_false', Bool.and_eq_true, Bool.or_eq_true, Bool.and_eq_false_iff, Bool.or_eq_false_iff, Int.not_le, Int.not_lt] at c1'
      have hcd : cardX m.pl c = false := by simpa using c1'
      refine RunC.seq ?_
      refine RunC.region ?_
      refine RunL.val (Val.pure rfl) rfl rfl rfl ?_
      refine RunL.val (Val.pure rfl) rfl rfl rfl ?_
      refine RunL.nil ?_
      refine RunE.next ?_
      refine RunC.ret ?_
      refine RunE.block_ret ?_
      refine RunE.pass_ret ?_
      exact RunE.retP (.r2 rfl (.tmp rfl) (.tmp rfl)) (by rw [hcd]; rfl)
    · intro c1
      have c1' := c1; clear c1
      try simp only [decide_eq_true_eq, decide_eq_false_iff_not, Bool.not_eq_true', Bool.not_eq_false', Bool.and_eq_true, Bool.or_eq_true, Bool.and_eq_false_iff, Bool.or_eq_false_iff, Int.not_le, Int.not_lt] at c1'
      have hcd : cardX m.pl c = true := by simpa using c1'
      obtain ⟨k, rfl, hk⟩ := card_nat hcd
      have hk2 : k < (fsX m.pl).length := by (rw [fs_len]; exact hk)
      obtain ⟨f, hf⟩ : ∃ f, (fsX m.pl)[k] = f := ⟨_, rfl⟩
      have hfl2 := fs_lt m f (hf ▸ List.getElem_mem hk2)
      have hfl3 : 2 ^ (esX m).length ≤ 2 ^ 12 := Nat.pow_le_pow_right (by decide) h12
      refine RunC.skip ?_
      refine RunE.block_normal ?_
      refine RunE.next ?_
      refine RunC.seq ?_
      refine RunC.region ?_
      refine RunL.val (Val.pure rfl) rfl rfl rfl ?_
      refine RunL.val (Val.pure rfl) rfl rfl rfl ?_
      refine RunL.val (Val.fieldAddr rfl fld_73_2) rfl rfl rfl ?_
      refine RunL.val (Val.load_one rfl (.tail _ (.head _)) ty_70 rfl) rfl rfl rfl ?_
      refine RunL.val (Val.pure rfl) rfl rfl rfl ?_
      refine RunL.val (Val.indexAddr_slp rfl rfl sl_70 (by omega) (by omega) (own_ptr hy9 (by omega))) rfl rfl rfl ?_
      refine RunL.val (Val.load_gen rfl (fun w hm => (sets_sl hy9 (fun b o h => hm.at (.tail _ (.tail _ (.tail _ ((by first | exact List.mem_append_left _ h | exact List.mem_append_right _ (List.mem_append_left _ h)))))))).loadM1 (by decide) (Mem.refl w) (by simp) ty_68 hk2 (v := .int .u64 (f : Int)) (by simp [hf]))) rfl rfl rfl ?_
      refine RunL.val (Val.convInt rfl und_68 und_3 (IntWalk.i64_in _ ⟨by omega, by omega⟩)) rfl rfl rfl ?_
      refine RunL.val (Val.pure rfl) rfl rfl rfl ?_
      refine RunL.val (Val.pure rfl) rfl rfl rfl ?_
      refine RunL.nil ?_
      refine RunE.next ?_
      refine RunC.ret ?_
      exact RunE.retP (.r2 rfl (.tmp rfl) (.tmp rfl)) (by rw [hcd]; simp [hk2, hf])
theorem counth_calls (m : MxA) (hsm : MSm m) (W : World) (hM : MOk W m) : Calls Tryd.prog 19 #[m.v] W (Pure (.tuple #[.int .i64 (CountX m.pl).1, .int .i64 (CountX m.pl).2]) W) := by
  cases hX : mixedX m.pl with
  | false =>
    have e : CountX m.pl = (0, 1) := by unfold CountX; rw [hX]; rfl
    rw [e]
    refine calls_start Tryd.func19 rfl rfl ?_
    refine RunC.seq ?_
    refine RunC.region ?_
    refine RunL.new (New.box rfl) rfl rfl rfl (fun b1 => ?_)
    refine RunL.val (Val.pure rfl) rfl rfl rfl ?_
    refine RunL.val (Val.pure rfl) rfl rfl rfl ?_
    refine RunL.nil ?_
    refine RunE.next ?_
    refine RunC.seq ?_
    refine RunC.region ?_
    refine RunL.val (Val.load_agg rfl (.head _) ty_25 rfl) rfl rfl rfl ?_
    refine RunL.callP (isCall_func rfl ent_39) rfl rfl rfl (fun w hm => openH_err m hsm w (hM.mono0 hm) hX) ?_
    iterate 5 refine RunL.val (Val.pure rfl) rfl rfl rfl ?_
    refine RunL.nil ?_
    refine RunE.next ?_
    refine RunC.seq ?_
    refine RunC.seq ?_
    refine RunC.region ?_
    refine RunL.val (Val.pure rfl) rfl rfl rfl ?_
    refine RunL.val (Val.pure rfl) rfl rfl rfl ?_
    refine RunL.nil ?_
    refine RunE.next ?_
    refine RunC.cond rfl ?_ (fun h => absurd h (by simp))
    intro c0
    clear c0
    refine RunC.seq ?_
    refine RunC.region ?_
    iterate 3 refine RunL.val (Val.pure rfl) rfl rfl rfl ?_
    refine RunL.nil ?_
    refine RunE.next ?_
    refine RunC.ret ?_
    refine RunE.pass_ret ?_
    exact RunE.retP (.r2 rfl (.tmp rfl) (.tmp rfl)) (by first | rfl | simp)
  | true =>
    have e : CountX m.pl = ((cntX m.pl : Int), 0) := by unfold CountX; rw [hX]; rfl
    rw [e]
    refine calls_start Tryd.func19 rfl rfl ?_
    refine RunC.seq ?_
    refine RunC.region ?_
    refine RunL.new (New.box rfl) rfl rfl rfl (fun b1 => ?_)
    refine RunL.val (Val.pure rfl) rfl rfl rfl ?_
    refine RunL.val (Val.pure rfl) rfl rfl rfl ?_
    refine RunL.nil ?_
    refine RunE.next ?_
    refine RunC.seq ?_
    refine RunC.region ?_
    refine RunL.val (Val.load_agg rfl (.head _) ty_25 rfl) rfl rfl rfl ?_
    refine RunL.callNT (isCall_func rfl ent_39) rfl rfl rfl (fun w hm => openH_calls m hsm w (hM.mono0 hm) hX) (fun z8 => ?_)
    obtain ⟨⟨bh8, bm8, x8, y8⟩, hx8, hy8⟩ := z8
    dsimp only
    iterate 5 refine RunL.val (Val.pure rfl) rfl rfl rfl ?_
    refine RunL.nil ?_
    refine RunE.next ?_
    refine RunC.seq ?_
    refine RunC.seq ?_
    refine RunC.region ?_
    refine RunL.val (Val.pure rfl) rfl rfl rfl ?_
    refine RunL.val (Val.pure rfl) rfl rfl rfl ?_
    refine RunL.nil ?_
    refine RunE.next ?_
    refine RunC.cond rfl (fun h => absurd h (by simp)) ?_
    intro c0
    clear c0
    refine RunC.skip ?_
    refine RunE.next ?_
    refine RunC.seq ?_
    refine RunC.region ?_
    refine RunL.val (Val.pure rfl) rfl rfl rfl ?_
    refine RunL.callN (isCall_func rfl ent_51) rfl rfl rfl (fun w hm => count0_calls bh8 w) (fun b15 => ?_)
    refine RunL.callZ (isCall_value rfl rfl ent_68) rfl rfl rfl (fun _ => (.there (.there (.there (.there .here))))) (fun w hm => on_calls (fsX m.pl).length 0 m (esX m).length _ _ (fsX m.pl) _ _ _ (by omega) 0 (by decide) [] good_nil bh8 bm8 b15.1 b15.2 w (hp_at hX (hm.at (.tail _ (.tail _ (.tail _ (.head _))))) hy8 (fun b o h => hm.at (.tail _ (.tail _ (.tail _ (.tail _ (.tail _ ((by first | exact List.mem_append_left _ h | exact List.mem_append_right _ (List.mem_append_left _ h)))))))))) (hm.at (.tail _ (.tail _ (.tail _ (.tail _ (.head _)))))) (hm.at (.tail _ (.head _))) (hm.at (.head _))) (fun x16 hx16 => ?_)
    refine RunL.val (Val.pure rfl) rfl rfl rfl ?_
    refine RunL.val (Val.pure rfl) rfl rfl rfl ?_
    refine RunL.nil ?_
    refine RunE.next ?_
    refine RunC.ret ?_
    exact RunE.retP (.r2 rfl (.tmp rfl) (.tmp rfl)) (by first | rfl | simp)
theorem shareh_calls (m : MxA) (hsm : MSm m) (c e : Int) (W : World) (hM : MOk W m) : Calls Tryd.prog 21 #[m.v, .int .i64 c, .int .i64 e] W (Pure (.tuple #[.int .i64 (ShareX m.pl c e).1, .int .i64 (ShareX m.pl c e).2]) W) := by
  cases hX : mixedX m.pl with
  | false =>
    have e1 : ShareX m.pl c e = (0, 1) := by unfold ShareX; rw [hX]; rfl
    rw [e1]
    refine calls_start Tryd.func21 rfl rfl ?_
    refine RunC.seq ?_
    refine RunC.region ?_
    refine RunL.new (New.box rfl) rfl rfl rfl (fun b3 => ?_)
    refine RunL.val (Val.pure rfl) rfl rfl rfl ?_
    refine RunL.val (Val.pure rfl) rfl rfl rfl ?_
    refine RunL.nil ?_
    refine RunE.next ?_
    refine RunC.seq ?_
    refine RunC.region ?_
    refine RunL.val (Val.load_agg rfl (.head _) ty_25 rfl) rfl rfl rfl ?_
    refine RunL.callP (isCall_func rfl ent_39) rfl rfl rfl (fun w hm => openH_err m hsm w (hM.mono0 hm) hX) ?_
    iterate 5 refine RunL.val (Val.pure rfl) rfl rfl rfl ?_
    refine RunL.nil ?_
    refine RunE.next ?_
    refine RunC.seq ?_
    refine RunC.block ?_
    refine RunC.seq ?_
    refine RunC.region ?_
    iterate 3 refine RunL.val (Val.pure rfl) rfl rfl rfl ?_
    refine RunL.nil ?_
    refine RunE.next ?_
    refine RunC.cond rfl ?_ (fun h => absurd h (by simp))
    intro c0
    clear c0
    refine RunC.seq ?_
    refine RunC.region ?_
    iterate 3 refine RunL.val (Val.pure rfl) rfl rfl rfl ?_
    refine RunL.nil ?_
    refine RunE.next ?_
    refine RunC.ret ?_
    refine RunE.block_ret ?_
    refine RunE.pass_ret ?_
    exact RunE.retP (.r2 rfl (.tmp rfl) (.tmp rfl)) (by first | rfl | simp)
  | true =>
    obtain ⟨h4, h8, h12⟩ := mixed_ok hX
    unfold ShareX
    rw [if_pos hX]
    refine calls_start Tryd.func21 rfl rfl ?_
    refine RunC.seq ?_
    refine RunC.region ?_
    refine RunL.new (New.box rfl) rfl rfl rfl (fun b3 => ?_)
    refine RunL.val (Val.pure rfl) rfl rfl rfl ?_
    refine RunL.val (Val.pure rfl) rfl rfl rfl ?_
    refine RunL.nil ?_
    refine RunE.next ?_
    refine RunC.seq ?_
    refine RunC.region ?_
    refine RunL.val (Val.load_agg rfl (.head _) ty_25 rfl) rfl rfl rfl ?_
    refine RunL.callNT (isCall_func rfl ent_39) rfl rfl rfl (fun w hm => openH_calls m hsm w (hM.mono0 hm) hX) (fun z12 => ?_)
    obtain ⟨⟨bh12, bm12, x12, y12⟩, hx12, hy12⟩ := z12
    dsimp only
    iterate 5 refine RunL.val (Val.pure rfl) rfl rfl rfl ?_
    refine RunL.nil ?_
    refine RunE.next ?_
    refine RunC.seq ?_
    refine RunC.block ?_
    refine RunC.seq ?_
    refine RunC.region ?_
    iterate 3 refine RunL.val (Val.pure rfl) rfl rfl rfl ?_
    refine RunL.nil ?_
    refine RunE.next ?_
    refine RunC.cond rfl (fun h => absurd h (by simp)) ?_
    intro c0
    clear c0
    refine RunC.seq ?_
    refine RunC.region ?_
    refine RunL.val (Val.pure rfl) rfl rfl rfl ?_
    refine RunL.val (Val.pure rfl) rfl rfl rfl ?_
    refine RunL.callP (isCall_func rfl ent_40) rfl rfl rfl (fun w hm => isCard_calls m h8 bh12 c _ _ _ w (hm.at (.tail _ (.head _)))) ?_
    refine RunL.val (Val.pure rfl) rfl rfl rfl ?_
    refine RunL.val (Val.pure rfl) rfl rfl rfl ?_
    refine RunL.orPart (dj := 24) (dp := 34) 10 rfl (fun g24 => by
      have g24' := g24
      try simp only [decide_eq_true_eq, decide_eq_false_iff_not, Bool.not_eq_true', Bool.not_eq_false', Bool.and_eq_true, Bool.or_eq_true, Bool.and_eq_false_iff, Bool.or_eq_false_iff, Int.not_le, Int.not_lt] at g24'
      iterate 3 refine RunL.val (Val.pure rfl) rfl rfl rfl ?_
      refine RunL.val (Val.fieldAddr rfl fld_73_1) rfl rfl rfl ?_
      refine RunL.val (Val.load_one rfl (.tail _ (.head _)) ty_69 rfl) rfl rfl rfl ?_
      refine RunL.val (Val.len_sl rfl sl_69) rfl rfl rfl ?_
      refine RunL.val (Val.sub' rfl rfl (IntWalk.i64_in _ ⟨by omega, by omega⟩)) rfl rfl rfl ?_
      refine RunL.callP (isCall_func rfl ent_53) rfl rfl rfl (fun w hm => hwithin_calls _ _ _ w) ?_
      refine RunL.val (Val.pure rfl) rfl rfl rfl ?_
      refine RunL.val (Val.pure rfl) rfl rfl rfl ?_
      exact RunL.segEnd (Sub.cons rfl (Sub.skip rfl (Sub.skip rfl (Sub.skip rfl (Sub.skip rfl (Sub.skip rfl (Sub.skip rfl (Sub.skip rfl (Sub.skip rfl (Sub.skip rfl (Sub.skip rfl (Sub.same rfl (by rw [g24]) (Sub.refl _))))))))))))) (List.Sublist.refl _)
    ) (fun g24 => by
      have g24' := g24
      try simp only [decide_eq_true_eq, decide_eq_false_iff_not, Bool.not_eq_true', Bool.not_eq_false', Bool.and_eq_true, Bool.or_eq_true, Bool.and_eq_false_iff, Bool.or_eq_false_iff, Int.not_le, Int.not_lt] at g24'
      iterate 9 refine RunL.no rfl rfl rfl ?_
      refine RunL.val (Val.pure rfl) rfl rfl rfl ?_
      exact RunL.segEnd (Sub.cons rfl (Sub.skip rfl (Sub.skip rfl (Sub.skip rfl (Sub.skip rfl (Sub.skip rfl (Sub.skip rfl (Sub.skip rfl (Sub.skip rfl (Sub.skip rfl (Sub.skip rfl (Sub.same rfl (by rw [g24]) (Sub.refl _))))))))))))) (List.Sublist.refl _)
    ) ?_
    refine RunL.val (Val.pure rfl) rfl rfl rfl ?_
    refine RunL.nil ?_
    refine RunE.next ?_
    refine RunC.cond rfl ?_ ?_
    · intro c1
      have c1' := c1; clear c1
      try simp only [decide_eq_true_eq, decide_eq_false_iff_not, Bool.not_eq_true', Bool.not_eq_false', Bool.and_eq_true, Bool.or_eq_true, Bool.and_eq_false_iff, Bool.or_eq_false_iff, Int.not_le, Int.not_lt] at c1'
      have hce : (cardX m.pl c && entryX m.pl e) = false := by (show (cardX m.pl c && within e 0 (((esX m).length : Int) - 1)) = false; cases h1 : cardX m.pl c <;> cases h2 : within e 0 (((esX m).length : Int) - 1) <;> simp_all)
      refine RunC.seq ?_
      refine RunC.region ?_
      refine RunL.val (Val.pure rfl) rfl rfl rfl ?_
      refine RunL.val (Val.pure rfl) rfl rfl rfl ?_
      refine RunL.nil ?_
      refine RunE.next ?_
      refine RunC.ret ?_
      refine RunE.block_ret ?_
      refine RunE.pass_ret ?_
      exact RunE.retP (.r2 rfl (.tmp rfl) (.tmp rfl)) (by rw [hce]; rfl)
    · intro c1
      have c1' := c1; clear c1
      try simp only [decide_eq_true_eq, decide_eq_false_iff_not, Bool.not_eq_true', Bool.not_eq_false', Bool.and_eq_true, Bool.or_eq_true, Bool.and_eq_false_iff, Bool.or_eq_false_iff, Int.not_le, Int.not_lt] at c1'
      have hce : (cardX m.pl c && entryX m.pl e) = true := by (show (cardX m.pl c && within e 0 (((esX m).length : Int) - 1)) = true; cases h1 : cardX m.pl c <;> cases h2 : within e 0 (((esX m).length : Int) - 1) <;> simp_all)
      obtain ⟨hc1, hc2⟩ := Bool.and_eq_true_iff.1 hce
      obtain ⟨k1, rfl, hk1⟩ := card_nat hc1
      obtain ⟨k2, rfl, hk2⟩ := entry_nat hc2
      have hk3 : k1 < (fsX m.pl).length := by (rw [fs_len]; exact hk1)
      refine RunC.skip ?_
      refine RunE.block_normal ?_
      refine RunE.next ?_
      refine RunC.seq ?_
      refine RunC.region ?_
      iterate 3 refine RunL.val (Val.pure rfl) rfl rfl rfl ?_
      refine RunL.callP (isCall_func rfl ent_54) rfl rfl rfl (fun w hm => share_calls m (esX m).length _ _ (fsX m.pl) _ _ _ k1 k2 hk3 hk2 bh12 bm12 w (hp_at hX (hm.at (.tail _ (.head _))) hy12 (fun b o h => hm.at (.tail _ (.tail _ (.tail _ ((by first | exact List.mem_append_left _ h | exact List.mem_append_right _ (List.mem_append_left _ h))))))))) ?_
      refine RunL.val (Val.pure rfl) rfl rfl rfl ?_
      refine RunL.val (Val.pure rfl) rfl rfl rfl ?_
      refine RunL.nil ?_
      refine RunE.next ?_
      refine RunC.ret ?_
      exact RunE.retP (.r2 rfl (.tmp rfl) (.tmp rfl)) (by rw [hce]; rfl)
theorem ways_err (m : MxA) (hsm : MSm m) (W : World) (hM : MOk W m) (hw : waysE m.pl ≠ 0) : Calls Tryd.prog 55 #[m.v] W (Pure (.tuple #[.pointer none, .int .i64 (waysE m.pl)]) W) := by
  cases hX : mixedX m.pl with
  | false =>
    have e1 : waysE m.pl = 1 := by unfold waysE; rw [hX]; rfl
    rw [e1]
    refine calls_start Tryd.func55 rfl rfl ?_
    refine RunC.seq ?_
    refine RunC.region ?_
    refine RunL.new (New.box rfl) rfl rfl rfl (fun b1 => ?_)
    refine RunL.val (Val.pure rfl) rfl rfl rfl ?_
    refine RunL.val (Val.pure rfl) rfl rfl rfl ?_
    refine RunL.nil ?_
    refine RunE.next ?_
    refine RunC.seq ?_
    refine RunC.region ?_
    refine RunL.val (Val.load_agg rfl (.head _) ty_25 rfl) rfl rfl rfl ?_
    refine RunL.callP (isCall_func rfl ent_39) rfl rfl rfl (fun w hm => openH_err m hsm w (hM.mono0 hm) hX) ?_
    iterate 5 refine RunL.val (Val.pure rfl) rfl rfl rfl ?_
    refine RunL.nil ?_
    refine RunE.next ?_
    refine RunC.seq ?_
    refine RunC.block ?_
    refine RunC.seq ?_
    refine RunC.region ?_
    iterate 3 refine RunL.val (Val.pure rfl) rfl rfl rfl ?_
    refine RunL.nil ?_
    refine RunE.next ?_
    refine RunC.cond rfl ?_ (fun h => absurd h (by simp))
    intro c0
    clear c0
    refine RunC.seq ?_
    refine RunC.region ?_
    iterate 3 refine RunL.val (Val.pure rfl) rfl rfl rfl ?_
    refine RunL.nil ?_
    refine RunE.next ?_
    refine RunC.ret ?_
    refine RunE.block_ret ?_
    refine RunE.pass_ret ?_
    exact RunE.retP (.r2 rfl (.tmp rfl) (.tmp rfl)) (by first | rfl | simp)
  | true =>
    have e0 : cntX m.pl = 0 := by
      unfold waysE at hw
      rw [if_pos hX] at hw
      by_cases h : cntX m.pl = 0
      · exact h
      · exact absurd (if_neg h) hw
    have e1 : waysE m.pl = 4 := by unfold waysE; rw [if_pos hX, if_pos e0]
    have e2 : cntL (esX m).length (List.drop 0 (fsX m.pl)) 0 = 0 := e0
    rw [e1]
    refine calls_start Tryd.func55 rfl rfl ?_
    refine RunC.seq ?_
    refine RunC.region ?_
    refine RunL.new (New.box rfl) rfl rfl rfl (fun b1 => ?_)
    refine RunL.val (Val.pure rfl) rfl rfl rfl ?_
    refine RunL.val (Val.pure rfl) rfl rfl rfl ?_
    refine RunL.nil ?_
    refine RunE.next ?_
    refine RunC.seq ?_
    refine RunC.region ?_
    refine RunL.val (Val.load_agg rfl (.head _) ty_25 rfl) rfl rfl rfl ?_
    refine RunL.callNT (isCall_func rfl ent_39) rfl rfl rfl (fun w hm => openH_calls m hsm w (hM.mono0 hm) hX) (fun z8 => ?_)
    obtain ⟨⟨bh8, bm8, x8, y8⟩, hx8, hy8⟩ := z8
    dsimp only
    iterate 5 refine RunL.val (Val.pure rfl) rfl rfl rfl ?_
    refine RunL.nil ?_
    refine RunE.next ?_
    refine RunC.seq ?_
    refine RunC.block ?_
    refine RunC.seq ?_
    refine RunC.region ?_
    iterate 3 refine RunL.val (Val.pure rfl) rfl rfl rfl ?_
    refine RunL.nil ?_
    refine RunE.next ?_
    refine RunC.cond rfl (fun h => absurd h (by simp)) ?_
    intro c0
    clear c0
    refine RunC.seq ?_
    refine RunC.region ?_
    refine RunL.val (Val.pure rfl) rfl rfl rfl ?_
    refine RunL.callN (isCall_func rfl ent_51) rfl rfl rfl (fun w hm => count0_calls bh8 w) (fun b17 => ?_)
    refine RunL.callZ (isCall_value rfl rfl ent_68) rfl rfl rfl (fun _ => (.there (.there (.there (.there .here))))) (fun w hm => on_calls (fsX m.pl).length 0 m (esX m).length _ _ (fsX m.pl) _ _ _ (by omega) 0 (by decide) [] good_nil bh8 bm8 b17.1 b17.2 w (hp_at hX (hm.at (.tail _ (.tail _ (.tail _ (.head _))))) hy8 (fun b o h => hm.at (.tail _ (.tail _ (.tail _ (.tail _ (.tail _ ((by first | exact List.mem_append_left _ h | exact List.mem_append_right _ (List.mem_append_left _ h)))))))))) (hm.at (.tail _ (.tail _ (.tail _ (.tail _ (.head _)))))) (hm.at (.tail _ (.head _))) (hm.at (.head _))) (fun x18 hx18 => ?_)
    refine RunL.val (Val.pure rfl) rfl rfl rfl ?_
    refine RunL.val (Val.pure rfl) rfl rfl rfl ?_
    refine RunL.nil ?_
    refine RunE.next ?_
    refine RunC.cond rfl ?_ (fun h => absurd h (by rw [e2]; simp))
    intro c1
    clear c1
    refine RunC.seq ?_
    refine RunC.region ?_
    refine RunL.val (Val.pure rfl) rfl rfl rfl ?_
    refine RunL.val (Val.pure rfl) rfl rfl rfl ?_
    refine RunL.nil ?_
    refine RunE.next ?_
    refine RunC.ret ?_
    refine RunE.block_ret ?_
    refine RunE.pass_ret ?_
    exact RunE.retP (.r2 rfl (.tmp rfl) (.tmp rfl)) (by first | rfl | simp)
theorem ways_calls (m : MxA) (hsm : MSm m) (W : World) (hM : MOk W m) (hw : waysE m.pl = 0) : Calls Tryd.prog 55 #[m.v] W
    (News (fun z : HW m => .tuple #[.pointer (some ⟨z.1.1.bh, 0, none⟩), .int .i64 0]) (fun z => [(z.1.1.bh, hpV m z.1.1.bh z.1.1.bm z.1.1.x z.1.1.y), (z.1.1.bm, mapG z.1.2)] ++
      (ownB 68 z.1.1.y (setsV (fsX m.pl)).flatten ++ (ownB 95 z.1.1.x ((esX m).map En.cells).flatten ++ []))) W) := by
  have hX : mixedX m.pl = true := by
    cases h : mixedX m.pl with
    | true => rfl
    | false => unfold waysE at hw; rw [h] at hw; cases hw
  have e0 : cntX m.pl ≠ 0 := fun h => by
    unfold waysE at hw
    rw [if_pos hX, if_pos h] at hw
    cases hw
  have e2 : cntL (esX m).length (List.drop 0 (fsX m.pl)) 0 ≠ 0 := e0
  refine calls_start Tryd.func55 rfl rfl ?_
  refine RunC.seq ?_
  refine RunC.region ?_
  refine RunL.new (New.box rfl) rfl rfl rfl (fun b1 => ?_)
  refine RunL.val (Val.pure rfl) rfl rfl rfl ?_
  refine RunL.val (Val.pure rfl) rfl rfl rfl ?_
  refine RunL.nil ?_
  refine RunE.next ?_
  refine RunC.seq ?_
  refine RunC.region ?_
  refine RunL.val (Val.load_agg rfl (.head _) ty_25 rfl) rfl rfl rfl ?_
  refine RunL.callNT (isCall_func rfl ent_39) rfl rfl rfl (fun w hm => openH_calls m hsm w (hM.mono0 hm) hX) (fun z8 => ?_)
  obtain ⟨⟨bh8, bm8, x8, y8⟩, hx8, hy8⟩ := z8
  dsimp only
  iterate 5 refine RunL.val (Val.pure rfl) rfl rfl rfl ?_
  refine RunL.nil ?_
  refine RunE.next ?_
  refine RunC.seq ?_
  refine RunC.block ?_
  refine RunC.seq ?_
  refine RunC.region ?_
  iterate 3 refine RunL.val (Val.pure rfl) rfl rfl rfl ?_
  refine RunL.nil ?_
  refine RunE.next ?_
  refine RunC.cond rfl (fun h => absurd h (by simp)) ?_
  intro c0
  clear c0
  refine RunC.seq ?_
  refine RunC.region ?_
  refine RunL.val (Val.pure rfl) rfl rfl rfl ?_
  refine RunL.callN (isCall_func rfl ent_51) rfl rfl rfl (fun w hm => count0_calls bh8 w) (fun b17 => ?_)
  refine RunL.callZ (isCall_value rfl rfl ent_68) rfl rfl rfl (fun _ => (.there (.there (.there (.there .here))))) (fun w hm => on_calls (fsX m.pl).length 0 m (esX m).length _ _ (fsX m.pl) _ _ _ (by omega) 0 (by decide) [] good_nil bh8 bm8 b17.1 b17.2 w (hp_at hX (hm.at (.tail _ (.tail _ (.tail _ (.head _))))) hy8 (fun b o h => hm.at (.tail _ (.tail _ (.tail _ (.tail _ (.tail _ ((by first | exact List.mem_append_left _ h | exact List.mem_append_right _ (List.mem_append_left _ h)))))))))) (hm.at (.tail _ (.tail _ (.tail _ (.tail _ (.head _)))))) (hm.at (.tail _ (.head _))) (hm.at (.head _))) (fun x18 hx18 => ?_)
  refine RunL.val (Val.pure rfl) rfl rfl rfl ?_
  refine RunL.val (Val.pure rfl) rfl rfl rfl ?_
  refine RunL.nil ?_
  refine RunE.next ?_
  refine RunC.cond rfl (fun h => absurd h (by simpa using e2)) ?_
  intro c1
  clear c1
  refine RunC.skip ?_
  refine RunE.block_normal ?_
  refine RunE.next ?_
  refine RunC.seq ?_
  refine RunC.region ?_
  iterate 3 refine RunL.val (Val.pure rfl) rfl rfl rfl ?_
  refine RunL.nil ?_
  refine RunE.next ?_
  refine RunC.ret ?_
  exact RunE.ret (chg := []) (.r2 rfl (.tmp rfl) (.tmp rfl)) (fun _ hm => ⟨⟨(⟨bh8, bm8, x8, y8⟩, x18), hx8, hy8, hx18.1⟩, rfl, hm.pick (.cons (.there (.there (.there .here))) rfl (.cons (.there (.there (.there .here))) rfl (Pick.skip (Pick.skip (Pick.skip (Pick.refl _))))))⟩)
end Go.Proofs.YtlhdalcipflblaaDoor
