/- Walks of package heap: Sure. -/
import Derived.Test.YtlhdalcipflblaaDoorHk
import Derived.Test.YtlhdalcipflblaaDoorHy7
set_option linter.unusedSimpArgs false
set_option linter.unusedVariables false
namespace Go.Hp
open Go Go.Eng Go.Pw1
def intsW (l : List Int) : List (List Value) := l.map fun x => [.int .i64 x]
theorem ints_fl (l : List Int) : (intsW l).flatten.length = l.length * 1 := flat_len (f := fun (x : Int) => [Value.int .i64 x]) (fun _ => rfl) l
theorem ints_snoc (l : List Int) (a : Int) : (intsW (l ++ [a])).flatten = (intsW l).flatten ++ [.int .i64 a] := by simp [intsW]
theorem paste_int {l : List Int} {a v : Int} {t : List Value} : paste ((intsW (l ++ [a])).flatten ++ t) l.length [.int .i64 v] = some ((intsW (l ++ [v])).flatten ++ t) := by
  have := paste_row (f := fun (x : Int) => [Value.int .i64 x]) (sz := 1) (fun _ => rfl) (a' := v) (j := 0) (vs := [.int .i64 v]) (t := t) (l := l ++ [a]) (i := l.length) (by simp) rfl
  simpa [intsW] using this
theorem own_put {sz n : Nat} {x : Eng.Own} {xs ys : List Value} (h : OwnOk sz x n xs) (hl : ys.length = xs.length) : OwnOk sz x n ys :=
  ⟨by rw [hl]; exact h.len, h.nil, fun b c r e => by
    have := h.cap b c r e
    rw [List.length_append] at this ⊢
    rw [hl]; exact this⟩
abbrev IO (l : List Int) := { x : Eng.Own // OwnOk 1 x l.length (intsW l).flatten }
end Go.Hp
namespace Go.Proofs.YtlhdalcipflblaaDoor
open Go Go.Eng Go.Hp Go.Pw1

theorem one_calls (m : MxA) (nE : Nat) (qe : Option Addr) (ce : Nat) (fs : List Nat) (qf : Option Addr) (bf cf : Nat) (c e a : Nat) (hc : c < fs.length) (he : e < nE) (bh bk b4 b6 b5 : Nat) (W : World) (hH : HpAt W bh bk m nE qe ce fs qf bf cf)
    (h4 : W.heap[b4]? = some (.cells [.pointer (some ⟨bh, 0, none⟩)].toArray 64 (0, 0))) (h6 : W.heap[b6]? = some (.cells [.int .i64 (c : Int)].toArray 3 (0, 0))) (h5 : W.heap[b5]? = some (.cells [.int .i64 (a : Int)].toArray 3 (0, 0))) :
    Calls Tryd.prog 57 #[.int .i64 (e : Int), .pointer (some ⟨b4, 0, none⟩), .pointer (some ⟨b6, 0, none⟩), .pointer (some ⟨b5, 0, none⟩)] W (Pure (.bool (decide (((shareL nE fs c e : Nat) : Int) = (a : Int)))) W) := by
  have hv := hH.v
  refine calls_start Tryd.func57 rfl rfl ?_
  refine RunC.seq ?_
  refine RunC.region ?_
  refine RunL.val (Val.pure rfl) rfl rfl rfl ?_
  refine RunL.nil ?_
  refine RunE.next ?_
  refine RunC.seq ?_
  refine RunC.draw 5 fol_ .nil ?_
  refine RunA.val (i := 0) rfl (by kernel_rfl) (by kernel_rfl) (Val.oload_one rfl h4 (by simp) ty_64 rfl) rfl rfl rfl (fun _ _ _ h => h) .nil rfl ?_
  refine RunA.val (i := 1) rfl (by kernel_rfl) (by kernel_rfl) (Val.oload_one rfl h6 (by simp) ty_3 rfl) rfl rfl rfl (fun _ _ _ h => h) .nil rfl ?_
  refine RunA.val (i := 2) rfl (by kernel_rfl) (by kernel_rfl) (Val.pure rfl) rfl rfl rfl (fun _ _ _ h => h) .nil rfl ?_
  refine RunA.val (i := 4) rfl (by kernel_rfl) (by kernel_rfl) (Val.oload_one rfl h5 (by simp) ty_3 rfl) rfl rfl rfl (fun _ _ _ h => h) .nil rfl ?_
  refine RunA.one (i := 3) (by kernel_rfl) (by kernel_rfl) ?_
  refine RunI.callP rfl (isCall_func rfl ent_54) rfl rfl rfl (fun w hm => share_calls m nE qe ce fs qf bf cf c e hc he bh bk w ⟨hm.old_at hv (by simp), hH.sl.mono (by decide) hm (by simp), hH.len, hH.le, hH.ne, hH.lt⟩) (RunK.toA .nil .nil rfl ?_)
  refine RunA.toB (by kernel_rfl) ?_
  refine RunB.one (i := 5) (by kernel_rfl) ?_
  refine RunI.val rfl (Val.pure rfl) rfl rfl rfl (RunK.toB ?_)
  refine RunB.one (i := 6) (by kernel_rfl) ?_
  refine RunI.val rfl (Val.pure rfl) rfl rfl rfl (RunK.toB ?_)
  refine RunB.done (by kernel_rfl) ?_
  refine RunE.next ?_
  refine RunC.ret ?_
  exact RunE.retP (.r1 rfl (.tmp rfl)) (by first | rfl | simp)
theorem sure_err (m : MxA) (hsm : MSm m) (W : World) (hM : MOk W m) (hw : waysE m.pl ≠ 0) : Calls Tryd.prog 25 #[m.v] W (Pure (.tuple #[.slice none 0 0, .int .i64 (waysE m.pl)]) W) := by
  refine calls_start Tryd.func25 rfl rfl ?_
  refine RunC.seq ?_
  refine RunC.region ?_
  refine RunL.new (New.box rfl) rfl rfl rfl (fun b1 => ?_)
  refine RunL.val (Val.pure rfl) rfl rfl rfl ?_
  refine RunL.val (Val.pure rfl) rfl rfl rfl ?_
  refine RunL.nil ?_
  refine RunE.next ?_
  refine RunC.seq ?_
  refine RunC.region ?_
  refine RunL.val (Val.load_agg rfl (.head _) ty_25 rfl) rfl rfl rfl ?_
  refine RunL.callP (isCall_func rfl ent_55) rfl rfl rfl (fun w hm => ways_err m hsm w (hM.mono0 hm) hw) ?_
  iterate 3 refine RunL.val (Val.pure rfl) rfl rfl rfl ?_
  refine RunL.new (New.alloc zero_64) rfl rfl rfl (fun b4 => ?_)
  refine RunL.sto (Sto.store rfl rfl .here ty_64 rfl rfl) rfl rfl ?_
  refine RunL.val (Val.pure rfl) rfl rfl rfl ?_
  refine RunL.nil ?_
  refine RunE.next ?_
  refine RunC.seq ?_
  refine RunC.seq ?_
  refine RunC.region ?_
  refine RunL.val (Val.pure rfl) rfl rfl rfl ?_
  refine RunL.val (Val.pure rfl) rfl rfl rfl ?_
  refine RunL.nil ?_
  refine RunE.next ?_
  refine RunC.cond rfl ?_ (fun h => absurd h (by simpa using hw))
  intro c0
  clear c0
  refine RunC.seq ?_
  refine RunC.region ?_
  iterate 3 refine RunL.val (Val.pure rfl) rfl rfl rfl ?_
  refine RunL.nil ?_
  refine RunE.next ?_
  refine RunC.ret ?_
  refine RunE.pass_ret ?_
  exact RunE.retP (.r2 rfl (.tmp rfl) (.tmp rfl)) (by first | rfl | simp)
theorem sure_calls (m : MxA) (hsm : MSm m) (W : World) (hM : MOk W m) (hw : waysE m.pl = 0) : Calls Tryd.prog 25 #[m.v] W
    (News (fun z : IO (SureX m.pl).1 => .tuple #[ownV z.1 (SureX m.pl).1.length, .int .i64 0]) (fun z => ownB 3 z.1 (intsW (SureX m.pl).1).flatten ++ []) W) := by
  obtain ⟨hX, h0⟩ := ways_ok hw
  obtain ⟨h4, h8, h12⟩ := mixed_ok hX
  have hfl := fs_len m
  have e : (SureX m.pl).1 = (List.range m.cards.length).map (sureC m.pl) := by unfold SureX; rw [if_pos hw]; rfl
  have hall : cntL (esX m).length (fsX m.pl) 0 = cntX m.pl := rfl
  rw [e]
  refine calls_start Tryd.func25 rfl rfl ?_
  refine RunC.seq ?_
  refine RunC.region ?_
  refine RunL.new (New.box rfl) rfl rfl rfl (fun b1 => ?_)
  refine RunL.val (Val.pure rfl) rfl rfl rfl ?_
  refine RunL.val (Val.pure rfl) rfl rfl rfl ?_
  refine RunL.nil ?_
  refine RunE.next ?_
  refine RunC.seq ?_
  refine RunC.region ?_
  refine RunL.val (Val.load_agg rfl (.head _) ty_25 rfl) rfl rfl rfl ?_
  refine RunL.callNT (isCall_func rfl ent_55) rfl rfl rfl (fun w hm => ways_calls m hsm w (hM.mono0 hm) hw) (fun z11 => ?_)
  obtain ⟨⟨⟨bh11, bm11, x11, y11⟩, l11⟩, hx11, hy11, hg11⟩ := z11
  dsimp only
  iterate 3 refine RunL.val (Val.pure rfl) rfl rfl rfl ?_
  refine RunL.new (New.alloc zero_64) rfl rfl rfl (fun b4 => ?_)
  refine RunL.sto (Sto.store rfl rfl .here ty_64 rfl rfl) rfl rfl ?_
  refine RunL.val (Val.pure rfl) rfl rfl rfl ?_
  refine RunL.nil ?_
  refine RunE.next ?_
  refine RunC.seq ?_
  refine RunC.seq ?_
  refine RunC.region ?_
  refine RunL.val (Val.pure rfl) rfl rfl rfl ?_
  refine RunL.val (Val.pure rfl) rfl rfl rfl ?_
  refine RunL.nil ?_
  refine RunE.next ?_
  refine RunC.cond rfl (fun h => absurd h (by simp)) ?_
  intro c0
  clear c0
  refine RunC.skip ?_
  refine RunE.next ?_
  refine RunC.seq ?_
  refine RunC.region ?_
  refine RunL.val (Val.load_one rfl (.head _) ty_64 rfl) rfl rfl rfl ?_
  refine RunL.callN (isCall_func rfl ent_51) rfl rfl rfl (fun w hm => count0_calls bh11 w) (fun b18 => ?_)
  refine RunL.callZ (isCall_value rfl rfl ent_68) rfl rfl rfl (fun _ => (.there (.there (.there (.there (.there .here)))))) (fun w hm => on_calls (fsX m.pl).length 0 m (esX m).length _ _ (fsX m.pl) _ _ _ (by omega) 0 (by decide) l11 hg11 bh11 bm11 b18.1 b18.2 w (hp_at hX (hm.at (.tail _ (.tail _ (.tail _ (.tail _ (.head _)))))) hy11 (fun b o h => hm.at (.tail _ (.tail _ (.tail _ (.tail _ (.tail _ (.tail _ ((by first | exact List.mem_append_left _ h | exact List.mem_append_right _ (List.mem_append_left _ h))))))))))) (hm.at (.tail _ (.tail _ (.tail _ (.tail _ (.tail _ (.head _))))))) (hm.at (.tail _ (.head _))) (hm.at (.head _))) (fun x19 hx19 => ?_)
  refine RunL.new (New.alloc zero_3) rfl rfl rfl (fun b5 => ?_)
  refine RunL.sto (Sto.store rfl rfl .here ty_3 rfl rfl) rfl rfl ?_
  refine RunL.nil ?_
  refine RunE.next ?_
  refine RunC.seq ?_
  refine RunC.seq ?_
  refine RunC.region ?_
  refine RunL.val (Val.load_one rfl (.tail _ (.tail _ (.tail _ (.head _)))) ty_64 rfl) rfl rfl rfl ?_
  refine RunL.val (Val.pure rfl) rfl rfl rfl ?_
  refine RunL.val (Val.fieldAddr rfl fld_73_0) rfl rfl rfl ?_
  refine RunL.val (Val.fieldAddr rfl fld_25_1) rfl rfl rfl ?_
  refine RunL.val (Val.load_one rfl (.tail _ (.tail _ (.tail _ (.tail _ (.tail _ (.head _)))))) ty_23 rfl) rfl rfl rfl ?_
  refine RunL.val (Val.len_sl rfl sl_23) rfl rfl rfl ?_
  refine RunL.val (Val.pure rfl) rfl rfl rfl ?_
  refine RunL.nil ?_
  refine RunE.next ?_
  refine RunC.block ?_
  refine RunC.loopX (X := Eng.Own) (n0 := [(b4, _), (b5, _), (bh11, _), (bm11, _)]) (m.cards.length) (fun k x q => (26, .int .i64 (k : Int)) :: (2, ownV x k) :: q) (fun _ _ => _) (fun k x => []) (fun k x => ownB 3 x (intsW ((List.range k).map (sureC m.pl))).flatten ++ (ownB 68 y11 (setsV (fsX m.pl)).flatten ++ (ownB 95 x11 ((esX m).map En.cells).flatten ++ []))) (fun k x => OwnOk 1 x k (intsW ((List.range k).map (sureC m.pl))).flatten) none OwnOk.start rfl (Sub.consE (t := 26) rfl rfl (Sub.consE (t := 2) rfl rfl (Sub.cons (t := 4) rfl (Sub.cons (t := 5) rfl (Sub.cons (t := 25) rfl (Sub.nil _)))))) (.cons (.there (.there (.there .here))) rfl (.cons .here rfl (.cons (.there (.there (.there .here))) rfl (.cons (.there (.there (.there .here))) rfl (Pick.skip (Pick.skip (Pick.skip (Pick.same rfl)))))))) ?_
  intro k x kN kI
  have hx1 := kI
  refine RunC.seq ?_
  refine RunC.region ?_
  refine RunL.val (Val.pure rfl) rfl rfl rfl ?_
  refine RunL.nil ?_
  refine RunE.next ?_
  refine RunC.seq ?_
  refine RunC.cond rfl ?_ ?_
  · intro c1
    have c1' := c1; clear c1
    try simp only [decide_eq_true_eq, decide_eq_false_iff_not, Bool.not_eq_true', Bool.not_eq_false', Bool.and_eq_true, Bool.or_eq_true, Bool.and_eq_false_iff, Bool.or_eq_false_iff, Int.not_le, Int.not_lt] at c1'
    have hk : k < m.cards.length := by omega
    refine RunC.skip ?_
    refine RunE.next ?_
    refine RunC.seq ?_
    refine RunC.block ?_
    refine RunC.seq ?_
    refine RunC.region ?_
    refine RunL.val (Val.pure rfl) rfl rfl rfl ?_
    refine RunL.new (New.alloc zero_3) rfl rfl rfl (fun b6 => ?_)
    refine RunL.sto (Sto.store rfl rfl .here ty_3 rfl rfl) rfl rfl ?_
    refine RunL.nil ?_
    refine RunE.next ?_
    refine RunC.seq ?_
    refine RunC.region ?_
    refine RunL.val (Val.pure rfl) rfl rfl rfl ?_
    refine RunL.val (Val.pure rfl) rfl rfl rfl ?_
    refine RunL.nil ?_
    refine RunE.next ?_
    refine RunC.seq ?_
    refine RunC.region ?_
    refine RunL.val (Val.pure rfl) rfl rfl rfl ?_
    refine RunL.new (New.buildSlice (parts := [(0, .const (.int .i64 (-1)))]) rfl sl_34 zero_3 rfl rfl rfl rfl) rfl rfl rfl (fun b31 => ?_)
    refine RunL.append (A := [(b31, _), (b6, _), (b4, _), (b5, _), (bh11, _), (bm11, _)]) (B := _) (x := x) (ys := [.int .i64 (-1)]) ap_34 rfl rfl rfl hx1 rfl (fun h => by cases h) (fun w hm => src_blk (hm.at (.head _))) (one_of rfl) (by simp only [maxLen]; omega) (by omega) rfl (fun z32 hz32 => ?_)
    refine RunL.val (Val.pure rfl) rfl rfl rfl ?_
    refine RunL.nil ?_
    refine RunE.next ?_
    refine RunC.seq ?_
    refine RunC.region ?_
    refine RunL.val (Val.load_one rfl (.tail _ (.tail _ (.head _))) ty_64 rfl) rfl rfl rfl ?_
    refine RunL.val (Val.pure rfl) rfl rfl rfl ?_
    refine RunL.val (Val.fieldAddr rfl fld_73_1) rfl rfl rfl ?_
    refine RunL.val (Val.load_one rfl (.tail _ (.tail _ (.tail _ (.tail _ (.head _))))) ty_69 rfl) rfl rfl rfl ?_
    refine RunL.val (Val.len_sl rfl sl_69) rfl rfl rfl ?_
    refine RunL.val (Val.pure rfl) rfl rfl rfl ?_
    refine RunL.nil ?_
    refine RunE.next ?_
    refine RunC.block ?_
    refine RunC.loopX (X := Eng.Own) (n0 := [(b4, _), (b5, _), (b6, _), (bh11, _), (bm11, _)]) ((esX m).length) (fun j y q => (38, .int .i64 (j : Int)) :: (2, ownV y (k + 1)) :: q) (fun _ _ => _) (fun j y => []) (fun j y => ownB 3 y (intsW ((List.range k).map (sureC m.pl) ++ [lastP (sureP m.pl k) j])).flatten ++ (ownB 68 y11 (setsV (fsX m.pl)).flatten ++ (ownB 95 x11 ((esX m).map En.cells).flatten ++ []))) (fun j y => OwnOk 1 y (k + 1) (intsW ((List.range k).map (sureC m.pl) ++ [lastP (sureP m.pl k) j])).flatten) z32 (by rw [ints_snoc]; exact hz32) rfl (Sub.consE (t := 38) rfl rfl (Sub.consE (t := 2) rfl rfl (Sub.cons (t := 4) rfl (Sub.cons (t := 5) rfl (Sub.cons (t := 25) rfl (Sub.cons (t := 26) rfl (Sub.cons (t := 6) rfl (Sub.cons (t := 7) rfl (Sub.cons (t := 37) rfl (Sub.nil _)))))))))) (.cons (.there (.there .here)) rfl (.cons (.there (.there .here)) rfl (.cons (.there .here) rfl (.cons (.there .here) rfl (.cons (.there .here) rfl (Pick.skip (Pick.same (by rw [ints_snoc]; rfl)))))))) ?_
    intro j y jN jI
    have hx1 := jI
    refine RunC.seq ?_
    refine RunC.region ?_
    refine RunL.val (Val.pure rfl) rfl rfl rfl ?_
    refine RunL.nil ?_
    refine RunE.next ?_
    refine RunC.seq ?_
    refine RunC.cond rfl ?_ ?_
    · intro c2
      have c2' := c2; clear c2
      try simp only [decide_eq_true_eq, decide_eq_false_iff_not, Bool.not_eq_true', Bool.not_eq_false', Bool.and_eq_true, Bool.or_eq_true, Bool.and_eq_false_iff, Bool.or_eq_false_iff, Int.not_le, Int.not_lt] at c2'
      have hj : j < (esX m).length := by omega
      refine RunC.skip ?_
      refine RunE.next ?_
      refine RunC.seq ?_
      refine RunC.block ?_
      refine RunC.seq ?_
      refine RunC.region ?_
      refine RunL.val (Val.pure rfl) rfl rfl rfl ?_
      refine RunL.val (Val.pure rfl) rfl rfl rfl ?_
      refine RunL.nil ?_
      refine RunE.next ?_
      refine RunC.seq ?_
      refine RunC.region ?_
      refine RunL.val (Val.pure rfl) rfl rfl rfl ?_
      refine RunL.val (Val.pure rfl) rfl rfl rfl ?_
      refine RunL.callP (isCall_value rfl rfl ent_57) rfl rfl rfl (fun w hm => one_calls m (esX m).length _ _ (fsX m.pl) _ _ _ k j (cntX m.pl) (by omega) hj bh11 bm11 b4 b6 b5 w (hp_at hX (hm.at (.tail _ (.tail _ (.tail _ (.head _))))) hy11 (fun b o h => hm.at (.tail _ (.tail _ (.tail _ (.tail _ (.tail _ ((by first | exact List.mem_append_right _ (List.mem_append_left _ h) | exact List.mem_append_right _ (List.mem_append_right _ (List.mem_append_left _ h))))))))))) (hm.at (.head _)) (hm.at (.tail _ (.tail _ (.head _)))) (hm.at (.tail _ (.head _)))) ?_
      refine RunL.nil ?_
      refine RunE.next ?_
      refine RunC.cond rfl ?_ ?_
      · intro c3
        have c3' := c3; clear c3
        try simp only [decide_eq_true_eq, decide_eq_false_iff_not, Bool.not_eq_true', Bool.not_eq_false', Bool.and_eq_true, Bool.or_eq_true, Bool.and_eq_false_iff, Bool.or_eq_false_iff, Int.not_le, Int.not_lt] at c3'
        have q3 : lastP (sureP m.pl k) (j + 1) = (j : Int) := if_pos (decide_eq_true (Int.ofNat_inj.1 (by (show ((shareL (esX m).length (fsX m.pl) k j : Nat) : Int) = ((cntX m.pl : Nat) : Int); simpa using c3'))))
        have hv2 := hx1
        refine RunC.region ?_
        refine RunL.val (Val.pure rfl) rfl rfl rfl ?_
        refine RunL.val (Val.load_one rfl (.tail _ (.tail _ (.head _))) ty_3 rfl) rfl rfl rfl ?_
        refine RunL.val (Val.pure rfl) rfl rfl rfl ?_
        obtain ⟨bx1, cx1, rx1, rfl, lx11, lx12, lx13⟩ := hx1.has (by omega)
        refine RunL.val (Val.indexAddr_sl rfl rfl sl_34 (by omega) (by omega)) rfl rfl rfl ?_
        refine RunL.sto (Sto.store (cs := (intsW ((List.range k).map (sureC m.pl) ++ [lastP (sureP m.pl k) j])).flatten ++ rx1) (cs' := (intsW ((List.range k).map (sureC m.pl) ++ [(j : Int)])).flatten ++ rx1) rfl rfl (.there (.there (.there (.there (.there .here))))) ty_3 rfl (by have h9 := paste_int (l := (List.range k).map (sureC m.pl)) (a := lastP (sureP m.pl k) j) (v := (j : Int)) (t := rx1); rw [List.length_map, List.length_range] at h9; rw [Nat.zero_add, Int.toNat_natCast, Nat.mul_one]; exact h9)) rfl rfl ?_
        refine RunL.nil ?_
        refine RunE.block_normal ?_
        refine RunE.next ?_
        refine RunC.region ?_
        refine RunL.val (Val.add rfl rfl (IntWalk.i64_in _ ⟨by omega, by omega⟩)) rfl rfl rfl ?_
        refine RunL.val (Val.pure rfl) rfl rfl rfl ?_
        refine RunL.nil ?_
        exact RunE.roundX (some (bx1, cx1, rx1)) (by omega) (by rw [q3]; exact own_put hv2 (by simp [intsW])) rfl (Sub.consE (t := 38) rfl rfl (Sub.consE (t := 2) rfl rfl (Sub.cons (t := 4) rfl (Sub.cons (t := 5) rfl (Sub.cons (t := 25) rfl (Sub.cons (t := 26) rfl (Sub.cons (t := 6) rfl (Sub.cons (t := 7) rfl (Sub.cons (t := 37) rfl (Sub.nil _)))))))))) (.cons .here rfl (.cons .here rfl (.cons .here rfl (.cons .here rfl (.cons .here rfl (.cons .here (by rw [q3]) (Pick.refl _)))))))
      · intro c3
        have c3' := c3; clear c3
        try simp only [decide_eq_true_eq, decide_eq_false_iff_not, Bool.not_eq_true', Bool.not_eq_false', Bool.and_eq_true, Bool.or_eq_true, Bool.and_eq_false_iff, Bool.or_eq_false_iff, Int.not_le, Int.not_lt] at c3'
        have q3 : lastP (sureP m.pl k) (j + 1) = lastP (sureP m.pl k) j := if_neg (fun h9 => absurd (congrArg (fun (n : Nat) => (n : Int)) (of_decide_eq_true h9)) (by (show ¬ ((shareL (esX m).length (fsX m.pl) k j : Nat) : Int) = ((cntX m.pl : Nat) : Int); simpa using c3')))
        have hv2 := hx1
        refine RunC.skip ?_
        refine RunE.block_normal ?_
        refine RunE.next ?_
        refine RunC.region ?_
        refine RunL.val (Val.add rfl rfl (IntWalk.i64_in _ ⟨by omega, by omega⟩)) rfl rfl rfl ?_
        refine RunL.val (Val.pure rfl) rfl rfl rfl ?_
        refine RunL.nil ?_
        exact RunE.roundX y (by omega) (by rw [q3]; exact hv2) rfl (Sub.consE (t := 38) rfl rfl (Sub.consE (t := 2) rfl rfl (Sub.cons (t := 4) rfl (Sub.cons (t := 5) rfl (Sub.cons (t := 25) rfl (Sub.cons (t := 26) rfl (Sub.cons (t := 6) rfl (Sub.cons (t := 7) rfl (Sub.cons (t := 37) rfl (Sub.nil _)))))))))) (.cons .here rfl (.cons .here rfl (.cons .here rfl (.cons .here rfl (.cons .here rfl (Pick.same (by rw [q3])))))))
    · intro c2
      have c2' := c2; clear c2
      try simp only [decide_eq_true_eq, decide_eq_false_iff_not, Bool.not_eq_true', Bool.not_eq_false', Bool.and_eq_true, Bool.or_eq_true, Bool.and_eq_false_iff, Bool.or_eq_false_iff, Int.not_le, Int.not_lt] at c2'
      have hjn : j = (esX m).length := by omega
      have hS2 : (List.range (k + 1)).map (sureC m.pl) = (List.range k).map (sureC m.pl) ++ [lastP (sureP m.pl k) j] := by (rw [List.range_succ, List.map_append, hjn]; rfl)
      refine RunC.exit ?_
      refine RunE.pass_exit ?_
      refine RunE.pass_exit ?_
      refine RunE.block_here ?_
      refine RunE.block_normal ?_
      refine RunE.next ?_
      refine RunC.region ?_
      refine RunL.val (Val.add rfl rfl (IntWalk.i64_in _ ⟨by omega, by omega⟩)) rfl rfl rfl ?_
      refine RunL.val (Val.pure rfl) rfl rfl rfl ?_
      refine RunL.nil ?_
      exact RunE.roundX y (by omega) (by rw [hS2]; exact hx1) rfl (Sub.consE (t := 26) rfl rfl (Sub.consE (t := 2) rfl rfl (Sub.cons (t := 4) rfl (Sub.cons (t := 5) rfl (Sub.cons (t := 25) rfl (Sub.nil _)))))) (.cons .here rfl (.cons .here rfl (.cons (.there .here) rfl (.cons (.there .here) rfl (Pick.skip (Pick.same (by rw [hS2])))))))
  · intro c1
    have c1' := c1; clear c1
    try simp only [decide_eq_true_eq, decide_eq_false_iff_not, Bool.not_eq_true', Bool.not_eq_false', Bool.and_eq_true, Bool.or_eq_true, Bool.and_eq_false_iff, Bool.or_eq_false_iff, Int.not_le, Int.not_lt] at c1'
    have hkn : k = m.cards.length := by omega
    subst hkn
    refine RunC.exit ?_
    refine RunE.pass_exit ?_
    refine RunE.pass_exit ?_
    refine RunE.block_here ?_
    refine RunE.next ?_
    refine RunC.seq ?_
    refine RunC.region ?_
    iterate 3 refine RunL.val (Val.pure rfl) rfl rfl rfl ?_
    refine RunL.nil ?_
    refine RunE.next ?_
    refine RunC.ret ?_
    exact RunE.ret (chg := []) (.r2 rfl (.tmp rfl) (.tmp rfl)) (fun _ hm => ⟨⟨x, by simpa using hx1⟩, by simp, hm.pick (Pick.skip (Pick.skip (Pick.skip (Pick.skip (Pick.app .nil _)))))⟩)
end Go.Proofs.YtlhdalcipflblaaDoor
