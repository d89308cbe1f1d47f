/- Walks of package heap: First. -/
import Derived.Test.YtlhdalcipflblaaDoorHl
import Derived.Test.YtlhdalcipflblaaDoorHy8
set_option linter.unusedSimpArgs false
set_option linter.unusedVariables false
namespace Go.Hp
open Go Go.Eng Go.Pw1
def natI (l : List Nat) : List Int := l.map fun (x : Nat) => (x : Int)
theorem nat_snoc (l : List Nat) (j : Nat) : (intsW (natI (l ++ [j]))).flatten = (intsW (natI l)).flatten ++ [.int .i64 (j : Int)] := by
  unfold natI
  rw [List.map_append]
  exact ints_snoc _ _
def canP (ne f : Nat) (fs : List Nat) (u i : Nat) : Bool := free f u i && decide (0 < cntL ne fs (u ||| 2 ^ i))
theorem first_some {ne f u j : Nat} {fs : List Nat} (h : ∀ i, i < j → canP ne f fs u i = false) (hj : canP ne f fs u j = true) (hn : j < ne) : firstL ne (f :: fs) u = j :: firstL ne fs (u ||| 2 ^ j) := by
  have e : (List.range ne).find? (fun i => free f u i && decide (0 < cntL ne fs (u ||| 2 ^ i))) = some j := by
    rw [List.find?_range_eq_some]
    exact ⟨hj, List.mem_range.2 hn, fun i hi => by have := h i hi; unfold canP at this; rw [this]; rfl⟩
  show (match (List.range ne).find? (fun i => free f u i && decide (0 < cntL ne fs (u ||| 2 ^ i))) with | some i => i :: firstL ne fs (u ||| 2 ^ i) | none => firstL ne fs u) = _
  rw [e]
theorem first_none {ne f u : Nat} {fs : List Nat} (h : ∀ i, i < ne → canP ne f fs u i = false) : firstL ne (f :: fs) u = firstL ne fs u := by
  have e : (List.range ne).find? (fun i => free f u i && decide (0 < cntL ne fs (u ||| 2 ^ i))) = none := by
    rw [List.find?_range_eq_none]
    exact fun i hi => by have := h i hi; unfold canP at this; rw [this]; rfl
  show (match (List.range ne).find? (fun i => free f u i && decide (0 < cntL ne fs (u ||| 2 ^ i))) with | some i => i :: firstL ne fs (u ||| 2 ^ i) | none => firstL ne fs u) = _
  rw [e]
theorem step_none {p : Nat → Bool} {j : Nat} (h : ∀ i, i < j → p i = false) (hj : p j = false) : ∀ i, i < j + 1 → p i = false := fun i hi => by
  by_cases e : i = j
  · rw [e]; exact hj
  · exact h i (by omega)
end Go.Hp
namespace Go.Proofs.YtlhdalcipflblaaDoor
open Go Go.Eng Go.Hp Go.Pw1

theorem first_err (m : MxA) (hsm : MSm m) (W : World) (hM : MOk W m) (hw : waysE m.pl ≠ 0) : Calls Tryd.prog 23 #[m.v] W (Pure (.tuple #[.slice none 0 0, .int .i64 (waysE m.pl)]) W) := by
  refine calls_start Tryd.func23 rfl rfl ?_
  refine RunC.seq ?_
  refine RunC.region ?_
  refine RunL.new (New.box rfl) rfl rfl rfl (fun b1 => ?_)
  refine RunL.val (Val.pure rfl) rfl rfl rfl ?_
  refine RunL.val (Val.pure rfl) rfl rfl rfl ?_
  refine RunL.nil ?_
  refine RunE.next ?_
  refine RunC.scope ?_
  refine RunC.seq ?_
  refine RunC.region ?_
  refine RunL.val (Val.load_agg rfl (.head _) ty_25 rfl) rfl rfl rfl ?_
  refine RunL.callP (isCall_func rfl ent_55) rfl rfl rfl (fun w hm => ways_err m hsm w (hM.mono0 hm) hw) ?_
  iterate 5 refine RunL.val (Val.pure rfl) rfl rfl rfl ?_
  refine RunL.nil ?_
  refine RunE.next ?_
  refine RunC.seq ?_
  refine RunC.seq ?_
  refine RunC.region ?_
  refine RunL.val (Val.pure rfl) rfl rfl rfl ?_
  refine RunL.val (Val.pure rfl) rfl rfl rfl ?_
  refine RunL.nil ?_
  refine RunE.next ?_
  refine RunC.cond rfl ?_ (fun h => absurd h (by simpa using hw))
  intro c0
  clear c0
  refine RunC.seq ?_
  refine RunC.region ?_
  iterate 3 refine RunL.val (Val.pure rfl) rfl rfl rfl ?_
  refine RunL.nil ?_
  refine RunE.next ?_
  refine RunC.ret ?_
  refine RunE.pass_ret ?_
  refine RunE.scope_ret ?_
  exact RunE.retP (.r2 rfl (.tmp rfl) (.tmp rfl)) (by first | rfl | simp)
theorem first_calls (m : MxA) (hsm : MSm m) (W : World) (hM : MOk W m) (hw : waysE m.pl = 0) : Calls Tryd.prog 23 #[m.v] W
    (News (fun z : IO (FirstX m.pl).1 => .tuple #[ownV z.1 (FirstX m.pl).1.length, .int .i64 0]) (fun z => ownB 3 z.1 (intsW (FirstX m.pl).1).flatten ++ []) W) := by
  obtain ⟨hX, h0⟩ := ways_ok hw
  obtain ⟨h4, h8, h12⟩ := mixed_ok hX
  have hfl := fs_len m
  have e : (FirstX m.pl).1 = natI (firstL (esX m).length (fsX m.pl) 0) := by unfold FirstX; rw [if_pos hw]; rfl
  rw [e]
  refine calls_start Tryd.func23 rfl rfl ?_
  refine RunC.seq ?_
  refine RunC.region ?_
  refine RunL.new (New.box rfl) rfl rfl rfl (fun b1 => ?_)
  refine RunL.val (Val.pure rfl) rfl rfl rfl ?_
  refine RunL.val (Val.pure rfl) rfl rfl rfl ?_
  refine RunL.nil ?_
  refine RunE.next ?_
  refine RunC.scope ?_
  refine RunC.seq ?_
  refine RunC.region ?_
  refine RunL.val (Val.load_agg rfl (.head _) ty_25 rfl) rfl rfl rfl ?_
  refine RunL.callNT (isCall_func rfl ent_55) rfl rfl rfl (fun w hm => ways_calls m hsm w (hM.mono0 hm) hw) (fun z11 => ?_)
  obtain ⟨⟨⟨bh11, bm11, x11, y11⟩, l11⟩, hx11, hy11, hg11⟩ := z11
  dsimp only at hg11 ⊢
  iterate 5 refine RunL.val (Val.pure rfl) rfl rfl rfl ?_
  refine RunL.nil ?_
  refine RunE.next ?_
  refine RunC.seq ?_
  refine RunC.seq ?_
  refine RunC.region ?_
  refine RunL.val (Val.pure rfl) rfl rfl rfl ?_
  refine RunL.val (Val.pure rfl) rfl rfl rfl ?_
  refine RunL.nil ?_
  refine RunE.next ?_
  refine RunC.cond rfl (fun h => absurd h (by simp)) ?_
  intro c0
  clear c0
  refine RunC.skip ?_
  refine RunE.next ?_
  refine RunC.seq ?_
  refine RunC.region ?_
  refine RunL.val (Val.pure rfl) rfl rfl rfl ?_
  refine RunL.callN (isCall_func rfl ent_51) rfl rfl rfl (fun w hm => count0_calls bh11 w) (fun b18 => ?_)
  refine RunL.val (Val.pure rfl) rfl rfl rfl ?_
  refine RunL.nil ?_
  refine RunE.next ?_
  refine RunC.seq ?_
  refine RunC.region ?_
  refine RunL.val (Val.pure rfl) rfl rfl rfl ?_
  refine RunL.nil ?_
  refine RunE.next ?_
  refine RunC.seq ?_
  refine RunC.label ?_
  refine RunE.next ?_
  refine RunC.seq ?_
  refine RunC.seq ?_
  refine RunC.region ?_
  refine RunL.val (Val.pure rfl) rfl rfl rfl ?_
  refine RunL.val (Val.pure rfl) rfl rfl rfl ?_
  refine RunL.val (Val.fieldAddr rfl fld_73_0) rfl rfl rfl ?_
  refine RunL.val (Val.fieldAddr rfl fld_25_1) rfl rfl rfl ?_
  refine RunL.val (Val.load_one rfl (.tail _ (.tail _ (.tail _ (.head _)))) ty_23 rfl) rfl rfl rfl ?_
  refine RunL.val (Val.len_sl rfl sl_23) rfl rfl rfl ?_
  refine RunL.val (Val.pure rfl) rfl rfl rfl ?_
  refine RunL.nil ?_
  refine RunE.next ?_
  refine RunC.block ?_
  refine RunC.loopX (X := Eng.Own × Nat × List Nat × List ((Nat × Nat) × Value)) (n0 := [(b18.2, _), (b18.1, _), (bh11, _)]) (m.cards.length) (fun k x q => (25, .int .i64 (k : Int)) :: (2, ownV x.1 x.2.2.1.length) :: (6, .int .u64 ((x.2.1 : Nat) : Int)) :: q) (fun _ _ => _) (fun k x => [(bm11, mapG x.2.2.2)]) (fun k x => ownB 3 x.1 (intsW (natI x.2.2.1)).flatten ++ (ownB 68 y11 (setsV (fsX m.pl)).flatten ++ (ownB 95 x11 ((esX m).map En.cells).flatten ++ []))) (fun k x => OwnOk 1 x.1 x.2.2.1.length (intsW (natI x.2.2.1)).flatten ∧ x.2.1 < 2 ^ 12 ∧ GoodM (esX m).length (fsX m.pl) x.2.2.2 ∧ firstL (esX m).length (fsX m.pl) 0 = x.2.2.1 ++ firstL (esX m).length ((fsX m.pl).drop k) x.2.1 ∧ x.2.2.1.length ≤ k) (none, 0, [], l11) ⟨OwnOk.start, (by show (0 : Nat) < 2 ^ 12; decide), hg11, rfl, Nat.le_refl _⟩ rfl (Sub.consE (t := 25) rfl rfl (Sub.consE (t := 2) rfl rfl (Sub.consE (t := 6) rfl rfl (Sub.cons (t := 4) rfl (Sub.cons (t := 5) rfl (Sub.cons (t := 24) rfl (Sub.nil _))))))) (.cons (.there (.there (.there (.there .here)))) rfl (.cons .here rfl (.cons .here rfl (.cons (.there .here) rfl (Pick.skip (Pick.same rfl)))))) ?_
  intro k x kN kI
  obtain ⟨X1, u, l, lm⟩ := x
  obtain ⟨hx1, hu, hgm, hfe, hll⟩ := kI
  dsimp only at hx1 hu hgm hfe hll ⊢
  refine RunC.seq ?_
  refine RunC.region ?_
  refine RunL.val (Val.pure rfl) rfl rfl rfl ?_
  refine RunL.nil ?_
  refine RunE.next ?_
  refine RunC.seq ?_
  refine RunC.cond rfl ?_ ?_
  · intro c1
    have c1' := c1; clear c1
    try simp only [decide_eq_true_eq, decide_eq_false_iff_not, Bool.not_eq_true', Bool.not_eq_false', Bool.and_eq_true, Bool.or_eq_true, Bool.and_eq_false_iff, Bool.or_eq_false_iff, Int.not_le, Int.not_lt] at c1'
    have hk : k < m.cards.length := by omega
    have hk2 : k < (fsX m.pl).length := by omega
    obtain ⟨f, hf⟩ : ∃ f, (fsX m.pl)[k] = f := ⟨_, rfl⟩
    have hdr : (fsX m.pl).drop k = f :: (fsX m.pl).drop (k + 1) := by rw [drop_at hk2, hf]
    have hfl2 := fs_lt m f (hf ▸ List.getElem_mem hk2)
    have hfl3 : 2 ^ (esX m).length ≤ 2 ^ 12 := Nat.pow_le_pow_right (by decide) h12
    have hal := andN_le f u
    refine RunC.skip ?_
    refine RunE.next ?_
    refine RunC.seq ?_
    refine RunC.block ?_
    refine RunC.seq ?_
    refine RunC.region ?_
    refine RunL.val (Val.pure rfl) rfl rfl rfl ?_
    refine RunL.val (Val.pure rfl) rfl rfl rfl ?_
    refine RunL.nil ?_
    refine RunE.next ?_
    refine RunC.seq ?_
    refine RunC.region ?_
    refine RunL.val (Val.pure rfl) rfl rfl rfl ?_
    refine RunL.val (Val.pure rfl) rfl rfl rfl ?_
    refine RunL.val (Val.fieldAddr rfl fld_73_1) rfl rfl rfl ?_
    refine RunL.val (Val.load_one rfl (.tail _ (.tail _ (.tail _ (.head _)))) ty_69 rfl) rfl rfl rfl ?_
    refine RunL.val (Val.len_sl rfl sl_69) rfl rfl rfl ?_
    refine RunL.val (Val.pure rfl) rfl rfl rfl ?_
    refine RunL.nil ?_
    refine RunE.next ?_
    refine RunC.block ?_
    refine RunC.loopX (X := List ((Nat × Nat) × Value)) (n0 := [(b18.2, _), (b18.1, _), (bh11, _)]) ((esX m).length) (fun j y q => (33, .int .i64 (j : Int)) :: q) (fun _ _ => _) (fun j y => [(bm11, mapG y)]) (fun j y => ownB 3 X1 (intsW (natI l)).flatten ++ (ownB 68 y11 (setsV (fsX m.pl)).flatten ++ (ownB 95 x11 ((esX m).map En.cells).flatten ++ []))) (fun j y => GoodM (esX m).length (fsX m.pl) y ∧ ∀ i, i < j → canP (esX m).length f ((fsX m.pl).drop (k + 1)) u i = false) lm ⟨hgm, fun i hi => absurd hi (Nat.not_lt_zero i)⟩ rfl (Sub.consE (t := 33) rfl rfl (Sub.cons (t := 4) rfl (Sub.cons (t := 5) rfl (Sub.cons (t := 24) rfl (Sub.cons (t := 25) rfl (Sub.cons (t := 2) rfl (Sub.cons (t := 6) rfl (Sub.cons (t := 7) rfl (Sub.cons (t := 32) rfl (Sub.nil _)))))))))) (.cons .here rfl (.cons .here rfl (.cons .here rfl (.cons .here rfl (Pick.same rfl))))) ?_
    intro j y jN jI
    refine RunC.seq ?_
    refine RunC.region ?_
    refine RunL.val (Val.pure rfl) rfl rfl rfl ?_
    refine RunL.nil ?_
    refine RunE.next ?_
    refine RunC.seq ?_
    refine RunC.cond rfl ?_ ?_
    · intro c2
      have c2' := c2; clear c2
      try simp only [decide_eq_true_eq, decide_eq_false_iff_not, Bool.not_eq_true', Bool.not_eq_false', Bool.and_eq_true, Bool.or_eq_true, Bool.and_eq_false_iff, Bool.or_eq_false_iff, Int.not_le, Int.not_lt] at c2'
      have hj : j < (esX m).length := by omega
      have h2j : 2 ^ j < 2 ^ 12 := Nat.pow_lt_pow_right (by decide) (by omega)
      have huj := Nat.or_lt_two_pow hu h2j
      refine RunC.skip ?_
      refine RunE.next ?_
      refine RunC.seq ?_
      refine RunC.block ?_
      refine RunC.seq ?_
      refine RunC.region ?_
      refine RunL.val (Val.pure rfl) rfl rfl rfl ?_
      refine RunL.val (Val.pure rfl) rfl rfl rfl ?_
      refine RunL.nil ?_
      refine RunE.next ?_
      refine RunC.seq ?_
      refine RunC.region ?_
      refine RunL.val (Val.pure rfl) rfl rfl rfl ?_
      refine RunL.val (Val.pure rfl) rfl rfl rfl ?_
      refine RunL.val (Val.fieldAddr rfl fld_73_2) rfl rfl rfl ?_
      refine RunL.val (Val.load_one rfl (.tail _ (.tail _ (.tail _ (.head _)))) ty_70 rfl) rfl rfl rfl ?_
      refine RunL.val (Val.pure rfl) rfl rfl rfl ?_
      refine RunL.val (Val.indexAddr_slp rfl rfl sl_70 (by omega) (by omega) (own_ptr hy11 (by omega))) rfl rfl rfl ?_
      refine RunL.val (Val.load_gen rfl (fun w hm => (sets_sl hy11 (fun b o h => hm.at (.tail _ (.tail _ (.tail _ (.tail _ ((by first | exact List.mem_append_right _ (List.mem_append_left _ h) | exact List.mem_append_right _ (List.mem_append_right _ (List.mem_append_left _ h)))))))))).loadM1 (by decide) (Mem.refl w) (by simp) ty_68 hk2 (v := .int .u64 (f : Int)) (by simp [hf]))) rfl rfl rfl ?_
      refine RunL.val (Val.pure rfl) rfl rfl rfl ?_
      refine RunL.val (Val.andNot (a := f) (b := u) rfl rfl (by show _ < 18446744073709551616; omega) (by show _ < 18446744073709551616; omega) (u64_in (by omega))) rfl rfl rfl ?_
      refine RunL.val (Val.pure rfl) rfl rfl rfl ?_
      refine RunL.callP (isCall_func rfl ent_45) rfl rfl rfl (fun w hm => has_calls (andN f u) j (by omega) (by omega) w) ?_
      refine RunL.val (Val.pure rfl) rfl rfl rfl ?_
      refine RunL.ways (dj := 47) rfl ?_ ?_
      · intro g47
        have g47' := g47; clear g47
        try simp only [decide_eq_true_eq, decide_eq_false_iff_not, Bool.not_eq_true', Bool.not_eq_false', Bool.and_eq_true, Bool.or_eq_true, Bool.and_eq_false_iff, Bool.or_eq_false_iff, Int.not_le, Int.not_lt] at g47'
        have hfr : free f u j = true := by (rw [andN_bit] at g47'; exact g47')
        refine RunL.val (Val.pure rfl) rfl rfl rfl ?_
        refine RunL.val (Val.pure rfl) rfl rfl rfl ?_
        refine RunL.val (Val.add rfl rfl (IntWalk.i64_in _ ⟨by omega, by omega⟩)) rfl rfl rfl ?_
        refine RunL.val (Val.pure rfl) rfl rfl rfl ?_
        refine RunL.val (Val.pure rfl) rfl rfl rfl ?_
        refine RunL.val (Val.shl1 (b := j) rfl rfl (by show j ≤ 64; omega) (u64_in (n := 2 ^ j) (by omega))) rfl rfl rfl ?_
        refine RunL.new (New.buildSlice (parts := [(0, .tmp 51), (1, .tmp 53)]) rfl sl_70 zero_68 rfl rfl rfl rfl) rfl rfl rfl (fun b54 => ?_)
        refine RunL.callP (isCall_func rfl ent_46) rfl rfl rfl (fun w hm => union2_calls u (2 ^ j) hu h2j b54 w (hm.at (.head _))) ?_
        refine RunL.callZ (isCall_value rfl rfl ent_68) rfl rfl rfl (fun _ => (.there .here)) (fun w hm => on_calls ((fsX m.pl).length - (k + 1)) (k + 1) m (esX m).length _ _ (fsX m.pl) _ _ _ (by omega) (u ||| 2 ^ j) huj y jI.1 bh11 bm11 b18.1 b18.2 w (hp_at hX (hm.at (.tail _ (.tail _ (.tail _ (.tail _ (.head _)))))) hy11 (fun b o h => hm.at (.tail _ (.tail _ (.tail _ (.tail _ (.tail _ ((by first | exact List.mem_append_right _ (List.mem_append_left _ h) | exact List.mem_append_right _ (List.mem_append_right _ (List.mem_append_left _ h))))))))))) (hm.at (.tail _ (.head _))) (hm.at (.tail _ (.tail _ (.tail _ (.head _))))) (hm.at (.tail _ (.tail _ (.head _))))) (fun x56 hx56 => ?_)
        refine RunL.val (Val.pure rfl) rfl rfl rfl ?_
        have hfr := g47'
        rw [andN_bit] at hfr
        refine RunL.val (Val.pure rfl) rfl rfl rfl ?_
        refine RunL.nil ?_
        refine RunE.next ?_
        refine RunC.cond rfl ?_ ?_
        · intro c3
          have c3' := c3; clear c3
          try simp only [decide_eq_true_eq, decide_eq_false_iff_not, Bool.not_eq_true', Bool.not_eq_false', Bool.and_eq_true, Bool.or_eq_true, Bool.and_eq_false_iff, Bool.or_eq_false_iff, Int.not_le, Int.not_lt] at c3'
          have hcp : canP (esX m).length f ((fsX m.pl).drop (k + 1)) u j = true := by (unfold canP; rw [show free f u j = true from hfr, Bool.true_and]; exact decide_eq_true (by simpa using c3'))
          refine RunC.seq ?_
          refine RunC.drawX (X := Eng.Own) 8 (n0 := [(b54, _), (bm11, _), (b18.2, _), (b18.1, _), (bh11, _)]) (fun z q => (2, ownV z (l.length + 1)) :: (6, .int .u64 ((u ||| 2 ^ j : Nat) : Int)) :: q) (fun z => []) (fun z => []) (fun z => ownB 3 z (intsW (natI (l ++ [j]))).flatten ++ (ownB 68 y11 (setsV (fsX m.pl)).flatten ++ (ownB 95 x11 ((esX m).map En.cells).flatten ++ []))) (fun z => OwnOk 1 z (l.length + 1) (intsW (natI (l ++ [j]))).flatten) fol_ (.cons .here rfl (.cons .here rfl (.cons .here rfl (.cons .here rfl (.cons .here rfl .nil))))) (Sub.cons (t := 4) rfl (Sub.cons (t := 5) rfl (Sub.cons (t := 24) rfl (Sub.cons (t := 25) rfl (Sub.nil _))))) (.cons .here rfl (.cons .here rfl (.cons .here rfl (.cons .here rfl (.cons .here rfl .nil))))) ?_ ?_
          · refine RunA.val (i := 0) rfl (by kernel_rfl) (by kernel_rfl) (Val.pure rfl) rfl rfl rfl (fun _ _ _ h => h) (.cons .here rfl (.cons .here rfl (.cons .here rfl (.cons .here rfl (.cons .here rfl .nil))))) rfl ?_
            refine RunA.val (i := 1) rfl (by kernel_rfl) (by kernel_rfl) (Val.pure rfl) rfl rfl rfl (fun _ _ _ h => h) (.cons .here rfl (.cons .here rfl (.cons .here rfl (.cons .here rfl (.cons .here rfl .nil))))) rfl ?_
            refine RunA.val (i := 4) rfl (by kernel_rfl) (by kernel_rfl) (Val.pure rfl) rfl rfl rfl (fun _ _ _ h => h) (.cons .here rfl (.cons .here rfl (.cons .here rfl (.cons .here rfl (.cons .here rfl .nil))))) rfl ?_
            refine RunA.val (i := 5) rfl (by kernel_rfl) (by kernel_rfl) (Val.pure rfl) rfl rfl rfl (fun _ _ _ h => h) (.cons .here rfl (.cons .here rfl (.cons .here rfl (.cons .here rfl (.cons .here rfl .nil))))) rfl ?_
            refine RunA.val (i := 6) rfl (by kernel_rfl) (by kernel_rfl) (Val.shl1 (b := j) rfl rfl (by show j ≤ 64; omega) (u64_in (n := 2 ^ j) (by omega))) rfl rfl rfl (fun _ _ _ h => h) (.cons .here rfl (.cons .here rfl (.cons .here rfl (.cons .here rfl (.cons .here rfl .nil))))) rfl ?_
            refine RunA.all (rs := [2, 7]) (by kernel_rfl) (by simp) (by kernel_rfl) (fun m hm => ?_)
            simp only [List.mem_cons, List.not_mem_nil, or_false] at hm
            rcases hm with rfl | rfl
            · refine RunI.new rfl (New.buildSlice (parts := [(0, .tmp 60)]) rfl sl_34 zero_3 rfl rfl rfl rfl) rfl rfl rfl (fun b61 => (RunK.toA (.cons .here rfl (.cons .here rfl (.cons .here rfl (.cons .here rfl (.cons .here rfl (.cons .here rfl .nil)))))) (.cons (.there .here) rfl (.cons (.there .here) rfl (.cons (.there .here) rfl (.cons (.there .here) rfl (.cons (.there .here) rfl .nil))))) rfl ?_))
              refine RunA.all (rs := [3, 7]) (by kernel_rfl) (by simp) (by kernel_rfl) (fun m hm => ?_)
              simp only [List.mem_cons, List.not_mem_nil, or_false] at hm
              rcases hm with rfl | rfl
              · refine RunI.append (A := [(b61, _), (b54, _), (bm11, _), (b18.2, _), (b18.1, _), (bh11, _)]) (B := _) (x := X1) (ys := [.int .i64 (j : Int)]) rfl ap_34 rfl rfl rfl hx1 rfl (fun h => by cases h) (fun w hm => src_blk (hm.at (.head _))) (one_of rfl) (by simp only [maxLen]; omega) (by omega) rfl (fun z62 hz62 => (RunK.toA (.cons .here rfl (.cons .here rfl (.cons .here rfl (.cons .here rfl (.cons .here rfl (.cons .here rfl .nil)))))) (.cons .here rfl (.cons .here rfl (.cons .here rfl (.cons .here rfl (.cons .here rfl (.cons .here rfl .nil)))))) rfl ?_))
                refine RunA.one (i := 7) (by kernel_rfl) (by kernel_rfl) ?_
                refine RunI.new rfl (New.buildSlice (parts := [(0, .tmp 63), (1, .tmp 65)]) rfl sl_70 zero_68 rfl rfl rfl rfl) rfl rfl rfl (fun b66 => (RunK.toA (.cons .here rfl (.cons .here rfl (.cons .here rfl (.cons .here rfl (.cons .here rfl (.cons .here rfl (.cons .here rfl .nil))))))) (.cons (.there .here) rfl (.cons (.there .here) rfl (.cons (.there .here) rfl (.cons (.there .here) rfl (.cons (.there .here) rfl (.cons (.there .here) rfl .nil)))))) rfl ?_))
                refine RunA.toB (by kernel_rfl) ?_
                refine RunB.one (i := 8) (by kernel_rfl) ?_
                refine RunI.callP rfl (isCall_func rfl ent_46) rfl rfl rfl (fun w hm => union2_calls u (2 ^ j) hu h2j b66 w (hm.at (.head _))) (RunK.toB ?_)
                refine RunB.one (i := 9) (by kernel_rfl) ?_
                refine RunI.val rfl (Val.pure rfl) rfl rfl rfl (RunK.toB ?_)
                refine RunB.one (i := 10) (by kernel_rfl) ?_
                refine RunI.val rfl (Val.pure rfl) rfl rfl rfl (RunK.toB ?_)
                refine RunB.done (by kernel_rfl) ?_
                exact RunE.joinX z62 (by rw [nat_snoc]; exact hz62) rfl (Sub.consE (t := 2) rfl rfl (Sub.consE (t := 6) rfl rfl (Sub.cons (t := 4) rfl (Sub.cons (t := 5) rfl (Sub.cons (t := 24) rfl (Sub.cons (t := 25) rfl (Sub.nil _))))))) (.cons (.there (.there .here)) rfl (.cons (.there (.there .here)) rfl (.cons (.there (.there .here)) rfl (.cons (.there (.there .here)) rfl (.cons (.there (.there .here)) rfl (Pick.skip (Pick.skip (Pick.same (by rw [nat_snoc])))))))))
              · refine RunI.new rfl (New.buildSlice (parts := [(0, .tmp 63), (1, .tmp 65)]) rfl sl_70 zero_68 rfl rfl rfl rfl) rfl rfl rfl (fun b66 => (RunK.toA (.cons .here rfl (.cons .here rfl (.cons .here rfl (.cons .here rfl (.cons .here rfl (.cons .here rfl (.cons .here rfl .nil))))))) (.cons (.there .here) rfl (.cons (.there .here) rfl (.cons (.there .here) rfl (.cons (.there .here) rfl (.cons (.there .here) rfl (.cons (.there .here) rfl .nil)))))) rfl ?_))
                refine RunA.one (i := 3) (by kernel_rfl) (by kernel_rfl) ?_
                refine RunI.append (A := [(b66, _), (b61, _), (b54, _), (bm11, _), (b18.2, _), (b18.1, _), (bh11, _)]) (B := _) (x := X1) (ys := [.int .i64 (j : Int)]) rfl ap_34 rfl rfl rfl hx1 rfl (fun h => by cases h) (fun w hm => src_blk (hm.at (.tail _ (.head _)))) (one_of rfl) (by simp only [maxLen]; omega) (by omega) rfl (fun z62 hz62 => (RunK.toA (.cons .here rfl (.cons .here rfl (.cons .here rfl (.cons .here rfl (.cons .here rfl (.cons .here rfl (.cons .here rfl .nil))))))) (.cons .here rfl (.cons .here rfl (.cons .here rfl (.cons .here rfl (.cons .here rfl (.cons .here rfl (.cons .here rfl .nil))))))) rfl ?_))
                refine RunA.toB (by kernel_rfl) ?_
                refine RunB.one (i := 8) (by kernel_rfl) ?_
                refine RunI.callP rfl (isCall_func rfl ent_46) rfl rfl rfl (fun w hm => union2_calls u (2 ^ j) hu h2j b66 w (hm.at (.head _))) (RunK.toB ?_)
                refine RunB.one (i := 9) (by kernel_rfl) ?_
                refine RunI.val rfl (Val.pure rfl) rfl rfl rfl (RunK.toB ?_)
                refine RunB.one (i := 10) (by kernel_rfl) ?_
                refine RunI.val rfl (Val.pure rfl) rfl rfl rfl (RunK.toB ?_)
                refine RunB.done (by kernel_rfl) ?_
                exact RunE.joinX z62 (by rw [nat_snoc]; exact hz62) rfl (Sub.consE (t := 2) rfl rfl (Sub.consE (t := 6) rfl rfl (Sub.cons (t := 4) rfl (Sub.cons (t := 5) rfl (Sub.cons (t := 24) rfl (Sub.cons (t := 25) rfl (Sub.nil _))))))) (.cons (.there (.there .here)) rfl (.cons (.there (.there .here)) rfl (.cons (.there (.there .here)) rfl (.cons (.there (.there .here)) rfl (.cons (.there (.there .here)) rfl (Pick.skip (Pick.skip (Pick.same (by rw [nat_snoc])))))))))
            · refine RunI.new rfl (New.buildSlice (parts := [(0, .tmp 63), (1, .tmp 65)]) rfl sl_70 zero_68 rfl rfl rfl rfl) rfl rfl rfl (fun b66 => (RunK.toA (.cons .here rfl (.cons .here rfl (.cons .here rfl (.cons .here rfl (.cons .here rfl (.cons .here rfl .nil)))))) (.cons (.there .here) rfl (.cons (.there .here) rfl (.cons (.there .here) rfl (.cons (.there .here) rfl (.cons (.there .here) rfl .nil))))) rfl ?_))
              refine RunA.one (i := 2) (by kernel_rfl) (by kernel_rfl) ?_
              refine RunI.new rfl (New.buildSlice (parts := [(0, .tmp 60)]) rfl sl_34 zero_3 rfl rfl rfl rfl) rfl rfl rfl (fun b61 => (RunK.toA (.cons .here rfl (.cons .here rfl (.cons .here rfl (.cons .here rfl (.cons .here rfl (.cons .here rfl (.cons .here rfl .nil))))))) (.cons (.there .here) rfl (.cons (.there .here) rfl (.cons (.there .here) rfl (.cons (.there .here) rfl (.cons (.there .here) rfl (.cons (.there .here) rfl .nil)))))) rfl ?_))
              refine RunA.one (i := 3) (by kernel_rfl) (by kernel_rfl) ?_
              refine RunI.append (A := [(b61, _), (b66, _), (b54, _), (bm11, _), (b18.2, _), (b18.1, _), (bh11, _)]) (B := _) (x := X1) (ys := [.int .i64 (j : Int)]) rfl ap_34 rfl rfl rfl hx1 rfl (fun h => by cases h) (fun w hm => src_blk (hm.at (.head _))) (one_of rfl) (by simp only [maxLen]; omega) (by omega) rfl (fun z62 hz62 => (RunK.toA (.cons .here rfl (.cons .here rfl (.cons .here rfl (.cons .here rfl (.cons .here rfl (.cons .here rfl (.cons .here rfl .nil))))))) (.cons .here rfl (.cons .here rfl (.cons .here rfl (.cons .here rfl (.cons .here rfl (.cons .here rfl (.cons .here rfl .nil))))))) rfl ?_))
              refine RunA.toB (by kernel_rfl) ?_
              refine RunB.one (i := 8) (by kernel_rfl) ?_
              refine RunI.callP rfl (isCall_func rfl ent_46) rfl rfl rfl (fun w hm => union2_calls u (2 ^ j) hu h2j b66 w (hm.at (.tail _ (.head _)))) (RunK.toB ?_)
              refine RunB.one (i := 9) (by kernel_rfl) ?_
              refine RunI.val rfl (Val.pure rfl) rfl rfl rfl (RunK.toB ?_)
              refine RunB.one (i := 10) (by kernel_rfl) ?_
              refine RunI.val rfl (Val.pure rfl) rfl rfl rfl (RunK.toB ?_)
              refine RunB.done (by kernel_rfl) ?_
              exact RunE.joinX z62 (by rw [nat_snoc]; exact hz62) rfl (Sub.consE (t := 2) rfl rfl (Sub.consE (t := 6) rfl rfl (Sub.cons (t := 4) rfl (Sub.cons (t := 5) rfl (Sub.cons (t := 24) rfl (Sub.cons (t := 25) rfl (Sub.nil _))))))) (.cons (.there (.there .here)) rfl (.cons (.there (.there .here)) rfl (.cons (.there (.there .here)) rfl (.cons (.there (.there .here)) rfl (.cons (.there (.there .here)) rfl (Pick.skip (Pick.skip (Pick.same (by rw [nat_snoc])))))))))
          · intro z zI
            have hx1 := zI
            refine RunE.next ?_
            refine RunC.exit ?_
            refine RunE.block_other rfl ?_
            refine RunE.pass_exit ?_
            refine RunE.pass_exit ?_
            refine RunE.block_other rfl ?_
            refine RunE.block_here ?_
            refine RunE.next ?_
            refine RunC.region ?_
            refine RunL.val (Val.add rfl rfl (IntWalk.i64_in _ ⟨by omega, by omega⟩)) rfl rfl rfl ?_
            refine RunL.val (Val.pure rfl) rfl rfl rfl ?_
            refine RunL.nil ?_
            exact RunE.roundX (z, u ||| 2 ^ j, l ++ [j], x56) (by omega) ⟨(by rw [List.length_append]; exact hx1), huj, hx56.1, (by rw [hfe, hdr, first_some jI.2 hcp hj, List.append_assoc]; rfl), (by simp; omega)⟩ rfl (Sub.consE (t := 25) rfl rfl (Sub.consE (t := 2) rfl (by first | rfl | simp) (Sub.consE (t := 6) rfl rfl (Sub.cons (t := 4) rfl (Sub.cons (t := 5) rfl (Sub.cons (t := 24) rfl (Sub.nil _))))))) (.cons (.there .here) rfl (.cons (.there .here) rfl (.cons (.there .here) rfl (.cons (.there .here) rfl (Pick.skip (Pick.refl _))))))
        · intro c3
          have c3' := c3; clear c3
          try simp only [decide_eq_true_eq, decide_eq_false_iff_not, Bool.not_eq_true', Bool.not_eq_false', Bool.and_eq_true, Bool.or_eq_true, Bool.and_eq_false_iff, Bool.or_eq_false_iff, Int.not_le, Int.not_lt] at c3'
          have hc3 : ¬ 0 < cntL (esX m).length ((fsX m.pl).drop (k + 1)) (u ||| 2 ^ j) := by simpa using c3'
          refine RunC.skip ?_
          refine RunE.block_normal ?_
          refine RunE.next ?_
          refine RunC.region ?_
          refine RunL.val (Val.add rfl rfl (IntWalk.i64_in _ ⟨by omega, by omega⟩)) rfl rfl rfl ?_
          refine RunL.val (Val.pure rfl) rfl rfl rfl ?_
          refine RunL.nil ?_
          exact RunE.roundX x56 (by omega) ⟨hx56.1, step_none jI.2 (by unfold canP; rw [decide_eq_false hc3, Bool.and_false])⟩ rfl (Sub.consE (t := 33) rfl rfl (Sub.cons (t := 4) rfl (Sub.cons (t := 5) rfl (Sub.cons (t := 24) rfl (Sub.cons (t := 25) rfl (Sub.cons (t := 2) rfl (Sub.cons (t := 6) rfl (Sub.cons (t := 7) rfl (Sub.cons (t := 32) rfl (Sub.nil _)))))))))) (.cons (.there .here) rfl (.cons (.there .here) rfl (.cons (.there .here) rfl (.cons (.there .here) rfl (Pick.skip (Pick.refl _))))))
      · intro g47
        have g47' := g47; clear g47
        try simp only [decide_eq_true_eq, decide_eq_false_iff_not, Bool.not_eq_true', Bool.not_eq_false', Bool.and_eq_true, Bool.or_eq_true, Bool.and_eq_false_iff, Bool.or_eq_false_iff, Int.not_le, Int.not_lt] at g47'
        iterate 10 refine RunL.no rfl rfl rfl ?_
        have hfr := g47'
        rw [andN_bit] at hfr
        refine RunL.val (Val.pure rfl) rfl rfl rfl ?_
        refine RunL.nil ?_
        refine RunE.next ?_
        refine RunC.cond_false rfl ?_
        refine RunC.skip ?_
        refine RunE.block_normal ?_
        refine RunE.next ?_
        refine RunC.region ?_
        refine RunL.val (Val.add rfl rfl (IntWalk.i64_in _ ⟨by omega, by omega⟩)) rfl rfl rfl ?_
        refine RunL.val (Val.pure rfl) rfl rfl rfl ?_
        refine RunL.nil ?_
        exact RunE.roundX y (by omega) ⟨jI.1, step_none jI.2 (by unfold canP; rw [show free f u j = false from hfr, Bool.false_and])⟩ rfl (Sub.consE (t := 33) rfl rfl (Sub.cons (t := 4) rfl (Sub.cons (t := 5) rfl (Sub.cons (t := 24) rfl (Sub.cons (t := 25) rfl (Sub.cons (t := 2) rfl (Sub.cons (t := 6) rfl (Sub.cons (t := 7) rfl (Sub.cons (t := 32) rfl (Sub.nil _)))))))))) (.cons .here rfl (.cons .here rfl (.cons .here rfl (.cons .here rfl (Pick.refl _)))))
    · intro c2
      have c2' := c2; clear c2
      try simp only [decide_eq_true_eq, decide_eq_false_iff_not, Bool.not_eq_true', Bool.not_eq_false', Bool.and_eq_true, Bool.or_eq_true, Bool.and_eq_false_iff, Bool.or_eq_false_iff, Int.not_le, Int.not_lt] at c2'
      have hjn : j = (esX m).length := by omega
      refine RunC.exit ?_
      refine RunE.pass_exit ?_
      refine RunE.pass_exit ?_
      refine RunE.block_here ?_
      refine RunE.block_normal ?_
      refine RunE.next ?_
      refine RunC.region ?_
      refine RunL.val (Val.add rfl rfl (IntWalk.i64_in _ ⟨by omega, by omega⟩)) rfl rfl rfl ?_
      refine RunL.val (Val.pure rfl) rfl rfl rfl ?_
      refine RunL.nil ?_
      exact RunE.roundX (X1, u, l, y) (by omega) ⟨hx1, hu, jI.1, (by rw [hfe, hdr, first_none (fun i hi => jI.2 i (by omega))]), Nat.le_succ_of_le hll⟩ rfl (Sub.consE (t := 25) rfl rfl (Sub.consE (t := 2) rfl (by first | rfl | simp) (Sub.consE (t := 6) rfl rfl (Sub.cons (t := 4) rfl (Sub.cons (t := 5) rfl (Sub.cons (t := 24) rfl (Sub.nil _))))))) (.cons .here rfl (.cons .here rfl (.cons .here rfl (.cons .here rfl (Pick.refl _)))))
  · intro c1
    have c1' := c1; clear c1
    try simp only [decide_eq_true_eq, decide_eq_false_iff_not, Bool.not_eq_true', Bool.not_eq_false', Bool.and_eq_true, Bool.or_eq_true, Bool.and_eq_false_iff, Bool.or_eq_false_iff, Int.not_le, Int.not_lt] at c1'
    have hkn : k = (fsX m.pl).length := by omega
    rw [hkn, List.drop_length] at hfe
    have hfe2 : firstL (esX m).length (fsX m.pl) 0 = l := by (rw [hfe]; simp [firstL])
    rw [hfe2]
    refine RunC.exit ?_
    refine RunE.pass_exit ?_
    refine RunE.pass_exit ?_
    refine RunE.block_here ?_
    refine RunE.next ?_
    refine RunC.seq ?_
    refine RunC.region ?_
    iterate 3 refine RunL.val (Val.pure rfl) rfl rfl rfl ?_
    refine RunL.nil ?_
    refine RunE.next ?_
    refine RunC.ret ?_
    refine RunE.scope_ret ?_
    exact RunE.ret (chg := []) (.r2 rfl (.tmp rfl) (.tmp rfl)) (fun _ hm => ⟨⟨X1, by simpa [natI] using hx1⟩, by simp [natI], hm.pick (Pick.skip (Pick.skip (Pick.skip (Pick.skip (Pick.app .nil _)))))⟩)
end Go.Proofs.YtlhdalcipflblaaDoor
