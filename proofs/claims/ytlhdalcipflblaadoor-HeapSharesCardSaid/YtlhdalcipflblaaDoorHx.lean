/- Walks of the laws of layer 10: entries; HeapFirst. -/
import Derived.Test.YtlhdalcipflblaaDoorHw
import Derived.Test.YtlhdalcipflblaaDoorHyG
set_option linter.unusedSimpArgs false
set_option linter.unusedVariables false
namespace Go.Hp
open Go Go.Eng Go.Pw1
theorem shr_one {s k : Nat} (h : s.testBit k = true) : ((s >>> k &&& 1 : Nat) : Int) = 1 := by rw [bit_iff] at h; exact of_decide_eq_true h
theorem shr_zero {s k : Nat} (h : s.testBit k = false) : ((s >>> k &&& 1 : Nat) : Int) = 0 := by
  rw [bit_iff] at h
  have h1 := of_decide_eq_false h
  have h2 := Nat.and_le_right (n := s >>> k) (m := 1)
  omega
theorem bit_no0 {s k : Nat} (h : ((s >>> k &&& 1 : Nat) : Int) = 0) : s.testBit k = false := bit_no (by omega)
theorem mod_at {k n : Nat} (h : 0 < n) : ∃ i, k % n = i ∧ i < n := ⟨_, rfl, Nat.mod_lt _ h⟩
theorem ints_sl {l : List Int} {x : Eng.Own} {w : World} (h : OwnOk 1 x l.length (intsW l).flatten) (hm : ∀ b o, (b, o) ∈ ownB 3 x (intsW l).flatten → w.heap[b]? = some o) : Sl w (ownQ x) (ownK x) 0 1 (intsW l) := own_sl (f := fun (x : Int) => [Value.int .i64 x]) (fun _ => rfl) (by decide) h hm
theorem ints_row (l : List Int) : ∀ x ∈ intsW l, x.length = 1 := fun x hx => by obtain ⟨a, _, rfl⟩ := List.mem_map.1 hx; rfl
theorem natI_len (l : List Nat) : (natI l).length = l.length := by simp [natI]
theorem natI_at {l : List Nat} {k c : Nat} (hk : k < l.length) (hc : l[k] = c) : ((natI l)[k]'(by rw [natI_len]; exact hk)) = (c : Int) := by simp [natI, hc]
theorem take_snocN {a b : List Nat} {k : Nat} (ha : k < a.length) (hb : k < b.length) (h : a.take k = b.take k) (h2 : a[k] = b[k]) : a.take (k + 1) = b.take (k + 1) := by
  rw [List.take_succ_eq_append_getElem ha, List.take_succ_eq_append_getElem hb, h, h2]
end Go.Hp
namespace Go.Proofs.YtlhdalcipflblaaDoor
open Go Go.Eng Go.Hp Go.Pw1

theorem rEntries_calls (m : MxA) (hsm : MSm m) (hX : mixedX m.pl = true) (W : World) (hM : MOk W m) : Calls Tryd.prog 34 #[m.v] W
    (News (fun z : EO m => .slice (ownQ z.1) (esX m).length (ownC z.1)) (fun z => ownB 56 z.1 ((esX m).map En.cells).flatten ++ []) W) := by
  obtain ⟨hb4, hc8, he12⟩ := mixed_ok hX
  have hman : manyX (m.bxs.map (·.bx)) = (esX m).length := (entries_len _).symm
  refine calls_start Tryd.func34 rfl rfl ?_
  refine RunC.seq ?_
  refine RunC.region ?_
  refine RunL.new (New.box rfl) rfl rfl rfl (fun b1 => ?_)
  refine RunL.val (Val.pure rfl) rfl rfl rfl ?_
  refine RunL.nil ?_
  refine RunE.next ?_
  refine RunC.seq ?_
  refine RunC.region ?_
  refine RunL.val (Val.pure rfl) rfl rfl rfl ?_
  refine RunL.nil ?_
  refine RunE.next ?_
  refine RunC.seq ?_
  refine RunC.seq ?_
  refine RunC.region ?_
  refine RunL.val (Val.pure rfl) rfl rfl rfl ?_
  refine RunL.nil ?_
  refine RunE.next ?_
  refine RunC.block ?_
  refine RunC.loopX (X := Eng.Own) (n0 := [(b1, _)]) (m.bxs.length) (fun k x q => (4, .int .i64 (k : Int)) :: (3, ownV x (enK m k).length) :: q) (fun _ _ => _) (fun k x => []) (fun k x => ownB 56 x ((enK m k).map En.cells).flatten ++ []) (fun k x => OwnOk 3 x (enK m k).length ((enK m k).map En.cells).flatten) none OwnOk.start rfl (Sub.consE (t := 4) rfl rfl (Sub.consE (t := 3) rfl rfl (Sub.cons (t := 1) rfl (Sub.nil _)))) (.cons .here rfl (Pick.same rfl)) ?_
  intro k x kN kI
  have hx1 := kI
  refine RunC.seq ?_
  refine RunC.seq ?_
  refine RunC.region ?_
  refine RunL.val (Val.pure rfl) rfl rfl rfl ?_
  refine RunL.val (Val.fieldAddr rfl fld_25_0) rfl rfl rfl ?_
  refine RunL.val (Val.load_one rfl (.head _) ty_22 rfl) rfl rfl rfl ?_
  refine RunL.val (Val.len_sl rfl sl_22) rfl rfl rfl ?_
  refine RunL.val (Val.pure rfl) rfl rfl rfl ?_
  refine RunL.nil ?_
  refine RunE.next ?_
  refine RunC.cond rfl ?_ ?_
  · intro c0
    have c0' := c0; clear c0
    try simp only [decide_eq_true_eq, decide_eq_false_iff_not, Bool.not_eq_true', Bool.not_eq_false', Bool.and_eq_true, Bool.or_eq_true, Bool.and_eq_false_iff, Bool.or_eq_false_iff, Int.not_le, Int.not_lt] at c0'
    have hk : k < m.bxs.length := by omega
    obtain ⟨B, hB⟩ : ∃ B, m.bxs[k] = B := ⟨_, rfl⟩
    have hBm : B ∈ m.bxs := hB ▸ List.getElem_mem hk
    have hBl := many_mem hBm
    have hBT := hM.ti B hBm
    refine RunC.skip ?_
    refine RunE.next ?_
    refine RunC.seq ?_
    refine RunC.block ?_
    refine RunC.seq ?_
    refine RunC.region ?_
    refine RunL.val (Val.pure rfl) rfl rfl rfl ?_
    refine RunL.nil ?_
    refine RunE.next ?_
    refine RunC.block ?_
    refine RunC.loopX (X := Eng.Own) (n0 := [(b1, _)]) (B.bx.titles.length) (fun j y q => (5, .int .i64 (j : Int)) :: (3, ownV y (enK m k ++ boxEn B.bx.colour 0 (B.bx.titles.take j)).length) :: q) (fun _ _ => _) (fun j y => []) (fun j y => ownB 56 y ((enK m k ++ boxEn B.bx.colour 0 (B.bx.titles.take j)).map En.cells).flatten ++ []) (fun j y => OwnOk 3 y (enK m k ++ boxEn B.bx.colour 0 (B.bx.titles.take j)).length ((enK m k ++ boxEn B.bx.colour 0 (B.bx.titles.take j)).map En.cells).flatten) x (by simpa [boxEn] using hx1) rfl (Sub.consE (t := 5) rfl rfl (Sub.consE (t := 3) rfl (by simp [boxEn]) (Sub.cons (t := 1) rfl (Sub.cons (t := 4) rfl (Sub.nil _))))) (.cons .here rfl (Pick.same (by simp [boxEn]))) ?_
    intro j y jN jI
    have hy1 := jI
    refine RunC.seq ?_
    refine RunC.seq ?_
    refine RunC.region ?_
    refine RunL.val (Val.pure rfl) rfl rfl rfl ?_
    refine RunL.val (Val.fieldAddr rfl fld_25_0) rfl rfl rfl ?_
    refine RunL.val (Val.load_one rfl (.head _) ty_22 rfl) rfl rfl rfl ?_
    refine RunL.val (Val.pure rfl) rfl rfl rfl ?_
    refine RunL.val (Val.indexAddr_slp rfl rfl sl_22 (by omega) (by omega) (hM.bx.ptrM hk)) rfl rfl rfl ?_
    refine RunL.val (Val.fieldAddr rfl fld_46_1) rfl rfl rfl ?_
    refine RunL.val (Val.load_gen rfl (fun w hm => hM.bx.cellX hm (by simp) ty_44 hk hB (j := 1) (by decide) rfl)) rfl rfl rfl ?_
    refine RunL.val (Val.len_sl rfl sl_44) rfl rfl rfl ?_
    refine RunL.val (Val.pure rfl) rfl rfl rfl ?_
    refine RunL.nil ?_
    refine RunE.next ?_
    refine RunC.cond rfl ?_ ?_
    · intro c1
      have c1' := c1; clear c1
      try simp only [decide_eq_true_eq, decide_eq_false_iff_not, Bool.not_eq_true', Bool.not_eq_false', Bool.and_eq_true, Bool.or_eq_true, Bool.and_eq_false_iff, Bool.or_eq_false_iff, Int.not_le, Int.not_lt] at c1'
      have hj : j < B.bx.titles.length := by omega
      obtain ⟨S, hS⟩ : ∃ S, B.bx.titles[j] = S := ⟨_, rfl⟩
      have hlen : (enK m k ++ boxEn B.bx.colour 0 (B.bx.titles.take j)).length ≤ 100000 := by (rw [List.length_append, boxEn_len]; have h9 := enK_len hsm k; rw [List.length_take]; omega)
      have hS2 : enK m k ++ boxEn B.bx.colour 0 (B.bx.titles.take (j + 1)) = (enK m k ++ boxEn B.bx.colour 0 (B.bx.titles.take j)) ++ [⟨B.bx.colour, itoa (j + 1), S⟩] := by rw [List.take_succ_eq_append_getElem hj, hS, boxEn_snoc, List.append_assoc]; simp [Nat.min_eq_left (Nat.le_of_lt hj)]
      have hlen2 : (enK m k ++ boxEn B.bx.colour 0 (B.bx.titles.take j) ++ [(⟨B.bx.colour, itoa (j + 1), S⟩ : En)]).length = (enK m k ++ boxEn B.bx.colour 0 (B.bx.titles.take j)).length + 1 := by rw [List.length_append (bs := [_])]; rfl
      refine RunC.skip ?_
      refine RunE.next ?_
      refine RunC.seq ?_
      refine RunC.block ?_
      refine RunC.drawX (X := Eng.Own) 21 (n0 := [(b1, _)]) (fun z q => (3, ownV z (enK m k ++ boxEn B.bx.colour 0 (B.bx.titles.take j) ++ [(⟨B.bx.colour, itoa (j + 1), S⟩ : En)]).length) :: q) (fun z => []) (fun z => []) (fun z => ownB 56 z ((enK m k ++ boxEn B.bx.colour 0 (B.bx.titles.take j) ++ [(⟨B.bx.colour, itoa (j + 1), S⟩ : En)]).map En.cells).flatten ++ []) (fun z => OwnOk 3 z (enK m k ++ boxEn B.bx.colour 0 (B.bx.titles.take j) ++ [(⟨B.bx.colour, itoa (j + 1), S⟩ : En)]).length ((enK m k ++ boxEn B.bx.colour 0 (B.bx.titles.take j) ++ [(⟨B.bx.colour, itoa (j + 1), S⟩ : En)]).map En.cells).flatten) fol_ (.cons .here rfl .nil) (Sub.cons (t := 1) rfl (Sub.cons (t := 4) rfl (Sub.cons (t := 5) rfl (Sub.nil _)))) (.cons .here rfl .nil) ?_ ?_
      · refine RunA.val (i := 0) rfl (by kernel_rfl) (by kernel_rfl) (Val.pure rfl) rfl rfl rfl (fun _ _ _ h => h) (.cons .here rfl .nil) rfl ?_
        refine RunA.val (i := 1) rfl (by kernel_rfl) (by kernel_rfl) (Val.fieldAddr rfl fld_25_0) rfl rfl rfl (fun _ _ _ h => h) (.cons .here rfl .nil) rfl ?_
        refine RunA.val (i := 2) rfl (by kernel_rfl) (by kernel_rfl) (Val.load_one rfl (.head _) ty_22 rfl) rfl rfl rfl (fun _ _ _ h => h) (.cons .here rfl .nil) rfl ?_
        refine RunA.val (i := 3) rfl (by kernel_rfl) (by kernel_rfl) (Val.pure rfl) rfl rfl rfl (fun _ _ _ h => h) (.cons .here rfl .nil) rfl ?_
        refine RunA.val (i := 4) rfl (by kernel_rfl) (by kernel_rfl) (Val.indexAddr_slp rfl rfl sl_22 (by omega) (by omega) (hM.bx.ptrM hk)) rfl rfl rfl (fun _ _ _ h => h) (.cons .here rfl .nil) rfl ?_
        refine RunA.val (i := 5) rfl (by kernel_rfl) (by kernel_rfl) (Val.fieldAddr rfl fld_46_0) rfl rfl rfl (fun _ _ _ h => h) (.cons .here rfl .nil) rfl ?_
        refine RunA.val (i := 6) rfl (by kernel_rfl) (by kernel_rfl) (Val.load_gen rfl (fun w hm => hM.bx.cellX hm (by simp) ty_3 hk hB (j := 0) (by decide) rfl)) rfl rfl rfl (fun _ _ _ h => h) (.cons .here rfl .nil) rfl ?_
        refine RunA.val (i := 7) rfl (by kernel_rfl) (by kernel_rfl) (Val.pure rfl) rfl rfl rfl (fun _ _ _ h => h) (.cons .here rfl .nil) rfl ?_
        refine RunA.val (i := 8) rfl (by kernel_rfl) (by kernel_rfl) (Val.add rfl rfl (IntWalk.i64_in _ ⟨by omega, by omega⟩)) rfl rfl rfl (fun _ _ _ h => h) (.cons .here rfl .nil) rfl ?_
        refine RunA.val (i := 10) rfl (by kernel_rfl) (by kernel_rfl) (Val.fieldAddr rfl fld_25_0) rfl rfl rfl (fun _ _ _ h => h) (.cons .here rfl .nil) rfl ?_
        refine RunA.val (i := 11) rfl (by kernel_rfl) (by kernel_rfl) (Val.load_one rfl (.head _) ty_22 rfl) rfl rfl rfl (fun _ _ _ h => h) (.cons .here rfl .nil) rfl ?_
        refine RunA.val (i := 12) rfl (by kernel_rfl) (by kernel_rfl) (Val.pure rfl) rfl rfl rfl (fun _ _ _ h => h) (.cons .here rfl .nil) rfl ?_
        refine RunA.val (i := 13) rfl (by kernel_rfl) (by kernel_rfl) (Val.indexAddr_slp rfl rfl sl_22 (by omega) (by omega) (hM.bx.ptrM hk)) rfl rfl rfl (fun _ _ _ h => h) (.cons .here rfl .nil) rfl ?_
        refine RunA.val (i := 14) rfl (by kernel_rfl) (by kernel_rfl) (Val.fieldAddr rfl fld_46_1) rfl rfl rfl (fun _ _ _ h => h) (.cons .here rfl .nil) rfl ?_
        refine RunA.val (i := 15) rfl (by kernel_rfl) (by kernel_rfl) (Val.load_gen rfl (fun w hm => hM.bx.cellX hm (by simp) ty_44 hk hB (j := 1) (by decide) rfl)) rfl rfl rfl (fun _ _ _ h => h) (.cons .here rfl .nil) rfl ?_
        refine RunA.val (i := 16) rfl (by kernel_rfl) (by kernel_rfl) (Val.pure rfl) rfl rfl rfl (fun _ _ _ h => h) (.cons .here rfl .nil) rfl ?_
        refine RunA.val (i := 17) rfl (by kernel_rfl) (by kernel_rfl) (Val.indexAddr_slp rfl rfl sl_44 (by omega) (by omega) (hBT.ptrM hj)) rfl rfl rfl (fun _ _ _ h => h) (.cons .here rfl .nil) rfl ?_
        refine RunA.val (i := 18) rfl (by kernel_rfl) (by kernel_rfl) (Val.load_gen rfl (fun w hm => Sl.loadM1 hBT (by decide) hm (by simp) ty_9 hj (v := .string (bs S)) (by simp [hS]))) rfl rfl rfl (fun _ _ _ h => h) (.cons .here rfl .nil) rfl ?_
        refine RunA.one (i := 9) (by kernel_rfl) (by kernel_rfl) ?_
        refine RunI.callP rfl (isCall_func rfl ent_31) rfl rfl rfl (fun w hm => rText_calls (j + 1) (by omega) w) (RunK.toA (.cons .here rfl .nil) (.cons .here rfl .nil) rfl ?_)
        refine RunA.val (i := 19) rfl (by kernel_rfl) (by kernel_rfl) (Val.build (parts := [(0, .tmp 30), (1, .tmp 33), (2, .tmp 42)]) rfl zero_56 places_56 rfl) rfl rfl rfl (fun _ _ _ h => h) (.cons .here rfl .nil) rfl ?_
        refine RunA.one (i := 20) (by kernel_rfl) (by kernel_rfl) ?_
        refine RunI.new rfl (New.buildSlice (parts := [(0, .tmp 43)]) rfl sl_53 zero_56 rfl rfl rfl rfl) rfl rfl rfl (fun b44 => (RunK.toA (.cons .here rfl (.cons .here rfl .nil)) (.cons (.there .here) rfl .nil) rfl ?_))
        refine RunA.toB (by kernel_rfl) ?_
        refine RunB.one (i := 21) (by kernel_rfl) ?_
        refine RunI.append (A := [(b44, _), (b1, _)]) (B := _) (x := y) (ys := (En.cells ⟨B.bx.colour, itoa (j + 1), S⟩)) rfl ap_53 rfl rfl rfl hy1 rfl (fun h => by cases h) (fun w hm => src_blk (hm.at (.head _))) (one_of (en_one _)) (by simp only [maxLen]; omega) (by omega) rfl (fun z45 hz45 => (RunK.toB ?_))
        refine RunB.one (i := 22) (by kernel_rfl) ?_
        refine RunI.val rfl (Val.pure rfl) rfl rfl rfl (RunK.toB ?_)
        refine RunB.done (by kernel_rfl) ?_
        exact RunE.joinX z45 (by rw [← flat_snoc, hlen2]; exact hz45) rfl (Sub.consE (t := 3) rfl (by rw [hlen2]) (Sub.cons (t := 1) rfl (Sub.cons (t := 4) rfl (Sub.cons (t := 5) rfl (Sub.nil _))))) (.cons (.there .here) rfl (Pick.skip (Pick.same (by rw [← flat_snoc]))))
      · intro z zI
        have hx1 := zI
        refine RunE.block_normal ?_
        refine RunE.next ?_
        refine RunC.region ?_
        refine RunL.val (Val.pure rfl) rfl rfl rfl ?_
        refine RunL.val (Val.add rfl rfl (IntWalk.i64_in _ ⟨by omega, by omega⟩)) rfl rfl rfl ?_
        refine RunL.val (Val.pure rfl) rfl rfl rfl ?_
        refine RunL.nil ?_
        exact RunE.roundX z (by omega) (by rw [hS2]; exact hx1) rfl (Sub.consE (t := 5) rfl rfl (Sub.consE (t := 3) rfl (by rw [hS2]) (Sub.cons (t := 1) rfl (Sub.cons (t := 4) rfl (Sub.nil _))))) (.cons .here rfl (Pick.same (by rw [hS2])))
    · intro c1
      have c1' := c1; clear c1
      try simp only [decide_eq_true_eq, decide_eq_false_iff_not, Bool.not_eq_true', Bool.not_eq_false', Bool.and_eq_true, Bool.or_eq_true, Bool.and_eq_false_iff, Bool.or_eq_false_iff, Int.not_le, Int.not_lt] at c1'
      obtain rfl : j = B.bx.titles.length := by omega
      rw [List.take_length] at hy1
      simp only [List.take_length]
      refine RunC.exit ?_
      refine RunE.pass_exit ?_
      refine RunE.pass_exit ?_
      refine RunE.block_here ?_
      refine RunE.block_normal ?_
      refine RunE.next ?_
      refine RunC.region ?_
      refine RunL.val (Val.pure rfl) rfl rfl rfl ?_
      refine RunL.val (Val.add rfl rfl (IntWalk.i64_in _ ⟨by omega, by omega⟩)) rfl rfl rfl ?_
      refine RunL.val (Val.pure rfl) rfl rfl rfl ?_
      refine RunL.nil ?_
      exact RunE.roundX y (by omega) (by rw [enK_snoc hk hB]; exact hy1) rfl (Sub.consE (t := 4) rfl rfl (Sub.consE (t := 3) rfl (by rw [enK_snoc hk hB]) (Sub.cons (t := 1) rfl (Sub.nil _)))) (.cons .here rfl (Pick.same (by rw [enK_snoc hk hB])))
  · intro c0
    have c0' := c0; clear c0
    try simp only [decide_eq_true_eq, decide_eq_false_iff_not, Bool.not_eq_true', Bool.not_eq_false', Bool.and_eq_true, Bool.or_eq_true, Bool.and_eq_false_iff, Bool.or_eq_false_iff, Int.not_le, Int.not_lt] at c0'
    obtain rfl : k = m.bxs.length := by omega
    rw [enK_all] at hx1
    have y1 : ownV x (esX m).length = .slice (ownQ x) (esX m).length (ownC x) := ownV_slice hx1
    simp only [enK_all, y1]
    refine RunC.exit ?_
    refine RunE.pass_exit ?_
    refine RunE.pass_exit ?_
    refine RunE.block_here ?_
    refine RunE.next ?_
    refine RunC.seq ?_
    refine RunC.region ?_
    refine RunL.val (Val.pure rfl) rfl rfl rfl ?_
    refine RunL.val (Val.pure rfl) rfl rfl rfl ?_
    refine RunL.nil ?_
    refine RunE.next ?_
    refine RunC.ret ?_
    exact RunE.ret (chg := []) (.r1 rfl (.tmp rfl)) (fun _ hm => ⟨⟨x, hx1⟩, rfl, hm.pick (Pick.skip (Pick.refl _))⟩)
theorem first_ok (m : MxA) (hsm : MSm m) (W : World) (hM : MOk W m) (hw : waysE m.pl = 0) : Calls Tryd.prog 23 #[m.v] W
    (News (fun z : IO (natI (firstL (esX m).length (fsX m.pl) 0)) => .tuple #[.slice (ownQ z.1) m.cards.length (ownC z.1), .int .i64 0]) (fun z => ownB 3 z.1 (intsW (natI (firstL (esX m).length (fsX m.pl) 0))).flatten ++ []) W) := by
  have h1 := first_calls m hsm W hM hw
  have e : (FirstX m.pl).1 = natI (firstL (esX m).length (fsX m.pl) 0) := by unfold FirstX; rw [if_pos hw]; rfl
  obtain ⟨hX, h0⟩ := ways_ok hw
  have hl : (natI (firstL (esX m).length (fsX m.pl) 0)).length = m.cards.length := by
    rw [natI_len, (first_way (ne := (esX m).length) (fs := fsX m.pl) (u := 0) (Nat.pos_of_ne_zero h0)).len, fs_len]
  rw [e] at h1
  refine calls_mono h1 ?_
  rintro ed w' ⟨z, rfl, hm⟩
  exact ⟨z, by show Ending.returned (.tuple #[ownV z.1 (natI (firstL (esX m).length (fsX m.pl) 0)).length, .int .i64 0]) = _; rw [ownV_slice z.2]; exact congrArg (fun n => Ending.returned (Value.tuple #[.slice (ownQ z.1) n (ownC z.1), .int .i64 0])) hl, hm⟩
theorem hfirst_far (m : MxA) (ys : Str) (q : Option Addr) (b o cap : Nat) (W : World) (hM : MOk W m) (hf : farX m.pl = true ∨ ys.length = 0) : Calls Tryd.prog 8 #[m.v, .slice q ys.length cap] W (Pure (.bool true) W) := by
  refine calls_start Tryd.func8 rfl rfl ?_
  refine RunC.seq ?_
  refine RunC.region ?_
  refine RunL.new (New.box rfl) rfl rfl rfl (fun b2 => ?_)
  refine RunL.val (Val.pure rfl) rfl rfl rfl ?_
  refine RunL.nil ?_
  refine RunE.next ?_
  refine RunC.seq ?_
  refine RunC.seq ?_
  refine RunC.region ?_
  refine RunL.val (Val.load_agg rfl (.head _) ty_25 rfl) rfl rfl rfl ?_
  refine RunL.callP (isCall_func rfl ent_12) rfl rfl rfl (fun w hm => far_calls m w (hM.mono0 hm)) ?_
  refine RunL.val (Val.pure rfl) rfl rfl rfl ?_
  refine RunL.orPart (dj := 24) (dp := 28) 4 rfl (fun g24 => by
    have g24' := g24
    try simp only [decide_eq_true_eq, decide_eq_false_iff_not, Bool.not_eq_true', Bool.not_eq_false', Bool.and_eq_true, Bool.or_eq_true, Bool.and_eq_false_iff, Bool.or_eq_false_iff, Int.not_le, Int.not_lt] at g24'
    refine RunL.val (Val.pure rfl) rfl rfl rfl ?_
    refine RunL.val (Val.len_sl rfl sl_47) rfl rfl rfl ?_
    refine RunL.val (Val.pure rfl) rfl rfl rfl ?_
    refine RunL.val (Val.pure rfl) rfl rfl rfl ?_
    exact RunL.segEnd (Sub.cons rfl (Sub.skip rfl (Sub.skip rfl (Sub.skip rfl (Sub.skip rfl (Sub.same rfl (by rw [g24]) (Sub.refl _))))))) (List.Sublist.refl _)
  ) (fun g24 => by
    have g24' := g24
    try simp only [decide_eq_true_eq, decide_eq_false_iff_not, Bool.not_eq_true', Bool.not_eq_false', Bool.and_eq_true, Bool.or_eq_true, Bool.and_eq_false_iff, Bool.or_eq_false_iff, Int.not_le, Int.not_lt] at g24'
    iterate 3 refine RunL.no rfl rfl rfl ?_
    refine RunL.val (Val.pure rfl) rfl rfl rfl ?_
    exact RunL.segEnd (Sub.cons rfl (Sub.skip rfl (Sub.skip rfl (Sub.skip rfl (Sub.skip rfl (Sub.same rfl (by rw [g24]) (Sub.refl _))))))) (List.Sublist.refl _)
  ) ?_
  refine RunL.nil ?_
  refine RunE.next ?_
  refine RunC.cond rfl ?_ (fun h => absurd h (by rcases hf with h | h <;> simp [h]))
  intro c0
  clear c0
  refine RunC.seq ?_
  refine RunC.region ?_
  refine RunL.callP (isCall_func rfl ent_13) rfl rfl rfl (fun w hm => hawake_calls w) ?_
  refine RunL.val (Val.pure rfl) rfl rfl rfl ?_
  refine RunL.nil ?_
  refine RunE.next ?_
  refine RunC.ret ?_
  refine RunE.pass_ret ?_
  exact RunE.retP (.r1 rfl (.tmp rfl)) (by first | rfl | simp)
theorem hfirst_bad (m : MxA) (ys : Str) (q : Option Addr) (b o cap : Nat) (W : World) (hM : MOk W m) (hf : farX m.pl = false) (hy : 0 < ys.length) (hyl : ys.length ≤ 9223372036854775807) (hX : mixedX m.pl = false) : Calls Tryd.prog 8 #[m.v, .slice q ys.length cap] W (Pure (.bool true) W) := by
  have hsm := far_sm hf
  have hw : waysE m.pl = 1 := by unfold waysE; rw [hX]; rfl
  have e1 : CountX m.pl = (0, 1) := by unfold CountX; rw [hX]; rfl
  have e2 : WhyX m.pl = (0, 1) := by unfold WhyX; rw [hX]; rfl
  refine calls_start Tryd.func8 rfl rfl ?_
  refine RunC.seq ?_
  refine RunC.region ?_
  refine RunL.new (New.box rfl) rfl rfl rfl (fun b2 => ?_)
  refine RunL.val (Val.pure rfl) rfl rfl rfl ?_
  refine RunL.nil ?_
  refine RunE.next ?_
  refine RunC.seq ?_
  refine RunC.seq ?_
  refine RunC.region ?_
  refine RunL.val (Val.load_agg rfl (.head _) ty_25 rfl) rfl rfl rfl ?_
  refine RunL.callP (isCall_func rfl ent_12) rfl rfl rfl (fun w hm => far_calls m w (hM.mono0 hm)) ?_
  refine RunL.val (Val.pure rfl) rfl rfl rfl ?_
  refine RunL.sure (dj := 24) false rfl (by simp [hf]) ?_
  refine RunL.val (Val.pure rfl) rfl rfl rfl ?_
  refine RunL.val (Val.len_sl rfl sl_47) rfl rfl rfl ?_
  refine RunL.val (Val.pure rfl) rfl rfl rfl ?_
  refine RunL.val (Val.pure rfl) rfl rfl rfl ?_
  refine RunL.nil ?_
  refine RunE.next ?_
  refine RunC.cond rfl (fun h => absurd h (by simp [hf, List.length_pos_iff.1 hy])) ?_
  intro c0
  clear c0
  refine RunC.skip ?_
  refine RunE.next ?_
  refine RunC.seq ?_
  refine RunC.region ?_
  refine RunL.val (Val.load_agg rfl (.head _) ty_25 rfl) rfl rfl rfl ?_
  refine RunL.callP (isCall_func rfl ent_23) rfl rfl rfl (fun w hm => (by have h9 := first_err m hsm w (hM.mono0 hm) (by rw [hw]; decide); rw [hw] at h9; exact h9)) ?_
  iterate 5 refine RunL.val (Val.pure rfl) rfl rfl rfl ?_
  refine RunL.nil ?_
  refine RunE.next ?_
  refine RunC.seq ?_
  refine RunC.region ?_
  refine RunL.val (Val.load_agg rfl (.head _) ty_25 rfl) rfl rfl rfl ?_
  refine RunL.callP (isCall_func rfl ent_19) rfl rfl rfl (fun w hm => (by have h9 := counth_calls m hsm w (hM.mono0 hm); rw [e1] at h9; exact h9)) ?_
  iterate 5 refine RunL.val (Val.pure rfl) rfl rfl rfl ?_
  refine RunL.nil ?_
  refine RunE.next ?_
  refine RunC.seq ?_
  refine RunC.region ?_
  refine RunL.val (Val.load_agg rfl (.head _) ty_25 rfl) rfl rfl rfl ?_
  refine RunL.callP (isCall_func rfl ent_16) rfl rfl rfl (fun w hm => (by have h9 := why_calls m hsm w (hM.mono0 hm); rw [e2] at h9; exact h9)) ?_
  iterate 5 refine RunL.val (Val.pure rfl) rfl rfl rfl ?_
  refine RunL.nil ?_
  refine RunE.next ?_
  refine RunC.seq ?_
  refine RunC.seq ?_
  refine RunC.region ?_
  iterate 3 refine RunL.val (Val.pure rfl) rfl rfl rfl ?_
  refine RunL.sure (dj := 47) true rfl (by simp [hX]) ?_
  iterate 3 refine RunL.no rfl rfl rfl ?_
  refine RunL.val (Val.pure rfl) rfl rfl rfl ?_
  refine RunL.nil ?_
  refine RunE.next ?_
  refine RunC.cond rfl ?_ (fun h => absurd h (by simp))
  intro c1
  clear c1
  refine RunC.seq ?_
  refine RunC.region ?_
  refine RunL.val (Val.pure rfl) rfl rfl rfl ?_
  refine RunL.val (Val.len_sl rfl sl_34) rfl rfl rfl ?_
  refine RunL.val (Val.pure rfl) rfl rfl rfl ?_
  refine RunL.val (Val.pure rfl) rfl rfl rfl ?_
  refine RunL.sure (dj := 55) true rfl (by simp [hX]) ?_
  iterate 4 refine RunL.val (Val.pure rfl) rfl rfl rfl ?_
  refine RunL.sure (dj := 59) true rfl (by simp [hX]) ?_
  iterate 5 refine RunL.val (Val.pure rfl) rfl rfl rfl ?_
  refine RunL.sure (dj := 64) true rfl (by simp [hX]) ?_
  iterate 5 refine RunL.val (Val.pure rfl) rfl rfl rfl ?_
  refine RunL.sure (dj := 69) true rfl (by simp [hX]) ?_
  iterate 4 refine RunL.val (Val.pure rfl) rfl rfl rfl ?_
  refine RunL.sure (dj := 73) true rfl (by simp [hX]) ?_
  iterate 4 refine RunL.val (Val.pure rfl) rfl rfl rfl ?_
  refine RunL.sure (dj := 77) true rfl (by simp [hX]) ?_
  refine RunL.val (Val.load_agg rfl (.head _) ty_25 rfl) rfl rfl rfl ?_
  refine RunL.callP (isCall_func rfl ent_33) rfl rfl rfl (fun w hm => rMixed_calls m hsm w (hM.mono0 hm)) ?_
  iterate 3 refine RunL.val (Val.pure rfl) rfl rfl rfl ?_
  refine RunL.sure (dj := 82) true rfl (by simp [hX]) ?_
  refine RunL.callP (isCall_func rfl ent_13) rfl rfl rfl (fun w hm => hawake_calls w) ?_
  refine RunL.val (Val.pure rfl) rfl rfl rfl ?_
  refine RunL.val (Val.pure rfl) rfl rfl rfl ?_
  refine RunL.nil ?_
  refine RunE.next ?_
  refine RunC.ret ?_
  refine RunE.pass_ret ?_
  exact RunE.retP (.r1 rfl (.tmp rfl)) (by first | rfl | simp)
set_option maxHeartbeats 1000000 in
theorem hfirst_none (m : MxA) (ys : Str) (q : Option Addr) (b o cap : Nat) (W : World) (hM : MOk W m) (hS : Sl W q b o 1 (bytesV ys)) (hf : farX m.pl = false) (hy : 0 < ys.length) (hyl : ys.length ≤ 9223372036854775807) (hX : mixedX m.pl = true) (h0 : cntX m.pl = 0) : Calls Tryd.prog 8 #[m.v, .slice q ys.length cap] W (Pure (.bool true) W) := by
  have hsm := far_sm hf
  obtain ⟨h4, h8, h12⟩ := mixed_ok hX
  have hfl := fs_len m
  have hall := fs12 hX
  have hw : waysE m.pl = 4 := by unfold waysE; rw [if_pos hX, if_pos h0]
  have e1 : CountX m.pl = (0, 0) := by unfold CountX; rw [if_pos hX, h0]; rfl
  obtain ⟨s, e, hI, hW⟩ := why_is hX
  have he : e = 11 := by
    have h1 := why_cnt hX hI
    rcases hI.se with ⟨_, h2⟩ | ⟨_, h2, _⟩ <;> omega
  subst he
  have hno : ∀ (own : List Nat) (ot : Nat), PW (esX m).length (fsX m.pl) own ot → own.length < m.cards.length := fun own ot h => by
    have h1 := h.le
    rcases Nat.lt_or_ge own.length m.cards.length with h2 | h2
    · exact h2
    · have h3 := way_pos (h.way (by omega))
      have h5 : cntL (esX m).length (fsX m.pl) 0 = cntX m.pl := rfl
      omega
  refine calls_start Tryd.func8 rfl rfl ?_
  refine RunC.seq ?_
  refine RunC.region ?_
  refine RunL.new (New.box rfl) rfl rfl rfl (fun b2 => ?_)
  refine RunL.val (Val.pure rfl) rfl rfl rfl ?_
  refine RunL.nil ?_
  refine RunE.next ?_
  refine RunC.seq ?_
  refine RunC.seq ?_
  refine RunC.region ?_
  refine RunL.val (Val.load_agg rfl (.head _) ty_25 rfl) rfl rfl rfl ?_
  refine RunL.callP (isCall_func rfl ent_12) rfl rfl rfl (fun w hm => far_calls m w (hM.mono0 hm)) ?_
  refine RunL.val (Val.pure rfl) rfl rfl rfl ?_
  refine RunL.orPart (dj := 24) (dp := 28) 4 rfl (fun g24 => by
    have g24' := g24
    try simp only [decide_eq_true_eq, decide_eq_false_iff_not, Bool.not_eq_true', Bool.not_eq_false', Bool.and_eq_true, Bool.or_eq_true, Bool.and_eq_false_iff, Bool.or_eq_false_iff, Int.not_le, Int.not_lt] at g24'
    refine RunL.val (Val.pure rfl) rfl rfl rfl ?_
    refine RunL.val (Val.len_sl rfl sl_47) rfl rfl rfl ?_
    refine RunL.val (Val.pure rfl) rfl rfl rfl ?_
    refine RunL.val (Val.pure rfl) rfl rfl rfl ?_
    exact RunL.segEnd (Sub.cons rfl (Sub.skip rfl (Sub.skip rfl (Sub.skip rfl (Sub.skip rfl (Sub.same rfl (by rw [g24]) (Sub.refl _))))))) (List.Sublist.refl _)
  ) (fun g24 => by
    have g24' := g24
    try simp only [decide_eq_true_eq, decide_eq_false_iff_not, Bool.not_eq_true', Bool.not_eq_false', Bool.and_eq_true, Bool.or_eq_true, Bool.and_eq_false_iff, Bool.or_eq_false_iff, Int.not_le, Int.not_lt] at g24'
    iterate 3 refine RunL.no rfl rfl rfl ?_
    refine RunL.val (Val.pure rfl) rfl rfl rfl ?_
    exact RunL.segEnd (Sub.cons rfl (Sub.skip rfl (Sub.skip rfl (Sub.skip rfl (Sub.skip rfl (Sub.same rfl (by rw [g24]) (Sub.refl _))))))) (List.Sublist.refl _)
  ) ?_
  refine RunL.nil ?_
  refine RunE.next ?_
  refine RunC.cond rfl (fun h => absurd h (by simp [hf, List.length_pos_iff.1 hy])) ?_
  intro c0
  clear c0
  refine RunC.skip ?_
  refine RunE.next ?_
  refine RunC.seq ?_
  refine RunC.region ?_
  refine RunL.val (Val.load_agg rfl (.head _) ty_25 rfl) rfl rfl rfl ?_
  refine RunL.callP (isCall_func rfl ent_23) rfl rfl rfl (fun w hm => (by have h9 := first_err m hsm w (hM.mono0 hm) (by rw [hw]; decide); rw [hw] at h9; exact h9)) ?_
  iterate 5 refine RunL.val (Val.pure rfl) rfl rfl rfl ?_
  refine RunL.nil ?_
  refine RunE.next ?_
  refine RunC.seq ?_
  refine RunC.region ?_
  refine RunL.val (Val.load_agg rfl (.head _) ty_25 rfl) rfl rfl rfl ?_
  refine RunL.callP (isCall_func rfl ent_19) rfl rfl rfl (fun w hm => (by have h9 := counth_calls m hsm w (hM.mono0 hm); rw [e1] at h9; exact h9)) ?_
  iterate 5 refine RunL.val (Val.pure rfl) rfl rfl rfl ?_
  refine RunL.nil ?_
  refine RunE.next ?_
  refine RunC.seq ?_
  refine RunC.region ?_
  refine RunL.val (Val.load_agg rfl (.head _) ty_25 rfl) rfl rfl rfl ?_
  refine RunL.callP (isCall_func rfl ent_16) rfl rfl rfl (fun w hm => (by have h9 := why_calls m hsm w (hM.mono0 hm); rw [hW] at h9; exact h9)) ?_
  iterate 5 refine RunL.val (Val.pure rfl) rfl rfl rfl ?_
  refine RunL.nil ?_
  refine RunE.next ?_
  refine RunC.seq ?_
  refine RunC.seq ?_
  refine RunC.region ?_
  iterate 3 refine RunL.val (Val.pure rfl) rfl rfl rfl ?_
  refine RunL.orPart (dj := 47) (dp := 51) 4 rfl (fun g47 => by
    have g47' := g47
    try simp only [decide_eq_true_eq, decide_eq_false_iff_not, Bool.not_eq_true', Bool.not_eq_false', Bool.and_eq_true, Bool.or_eq_true, Bool.and_eq_false_iff, Bool.or_eq_false_iff, Int.not_le, Int.not_lt] at g47'
    refine RunL.val (Val.load_agg rfl (.head _) ty_25 rfl) rfl rfl rfl ?_
    refine RunL.callP (isCall_func rfl ent_33) rfl rfl rfl (fun w hm => rMixed_calls m hsm w (hM.mono0 hm)) ?_
    refine RunL.val (Val.pure rfl) rfl rfl rfl ?_
    refine RunL.val (Val.pure rfl) rfl rfl rfl ?_
    exact RunL.segEnd (Sub.cons rfl (Sub.skip rfl (Sub.skip rfl (Sub.skip rfl (Sub.skip rfl (Sub.same rfl (by rw [g47]) (Sub.refl _))))))) (List.Sublist.refl _)
  ) (fun g47 => by
    have g47' := g47
    try simp only [decide_eq_true_eq, decide_eq_false_iff_not, Bool.not_eq_true', Bool.not_eq_false', Bool.and_eq_true, Bool.or_eq_true, Bool.and_eq_false_iff, Bool.or_eq_false_iff, Int.not_le, Int.not_lt] at g47'
    iterate 3 refine RunL.no rfl rfl rfl ?_
    refine RunL.val (Val.pure rfl) rfl rfl rfl ?_
    exact RunL.segEnd (Sub.cons rfl (Sub.skip rfl (Sub.skip rfl (Sub.skip rfl (Sub.skip rfl (Sub.same rfl (by rw [g47]) (Sub.refl _))))))) (List.Sublist.refl _)
  ) ?_
  refine RunL.nil ?_
  refine RunE.next ?_
  refine RunC.cond rfl (fun h => absurd h (by simp [hX])) ?_
  intro c1
  clear c1
  refine RunC.skip ?_
  refine RunE.next ?_
  refine RunC.seq ?_
  refine RunC.seq ?_
  refine RunC.region ?_
  iterate 3 refine RunL.val (Val.pure rfl) rfl rfl rfl ?_
  refine RunL.orPart (dj := 87) (dp := 93) 6 rfl (fun g87 => by
    have g87' := g87
    try simp only [decide_eq_true_eq, decide_eq_false_iff_not, Bool.not_eq_true', Bool.not_eq_false', Bool.and_eq_true, Bool.or_eq_true, Bool.and_eq_false_iff, Bool.or_eq_false_iff, Int.not_le, Int.not_lt] at g87'
    iterate 4 refine RunL.val (Val.pure rfl) rfl rfl rfl ?_
    refine RunL.val (Val.neq_bool rfl rfl boolB_4) rfl rfl rfl ?_
    refine RunL.val (Val.pure rfl) rfl rfl rfl ?_
    exact RunL.segEnd (Sub.cons rfl (Sub.skip rfl (Sub.skip rfl (Sub.skip rfl (Sub.skip rfl (Sub.skip rfl (Sub.skip rfl (Sub.same rfl (by rw [g87]) (Sub.refl _))))))))) (List.Sublist.refl _)
  ) (fun g87 => by
    have g87' := g87
    try simp only [decide_eq_true_eq, decide_eq_false_iff_not, Bool.not_eq_true', Bool.not_eq_false', Bool.and_eq_true, Bool.or_eq_true, Bool.and_eq_false_iff, Bool.or_eq_false_iff, Int.not_le, Int.not_lt] at g87'
    iterate 5 refine RunL.no rfl rfl rfl ?_
    refine RunL.val (Val.pure rfl) rfl rfl rfl ?_
    exact RunL.segEnd (Sub.cons rfl (Sub.skip rfl (Sub.skip rfl (Sub.skip rfl (Sub.skip rfl (Sub.skip rfl (Sub.skip rfl (Sub.same rfl (by rw [g87]) (Sub.refl _))))))))) (List.Sublist.refl _)
  ) ?_
  refine RunL.val (Val.pure rfl) rfl rfl rfl ?_
  refine RunL.orPart (dj := 94) (dp := 100) 6 rfl (fun g94 => by
    have g94' := g94
    try simp only [decide_eq_true_eq, decide_eq_false_iff_not, Bool.not_eq_true', Bool.not_eq_false', Bool.and_eq_true, Bool.or_eq_true, Bool.and_eq_false_iff, Bool.or_eq_false_iff, Int.not_le, Int.not_lt] at g94'
    iterate 4 refine RunL.val (Val.pure rfl) rfl rfl rfl ?_
    refine RunL.val (Val.neq_bool rfl rfl boolB_4) rfl rfl rfl ?_
    refine RunL.val (Val.pure rfl) rfl rfl rfl ?_
    exact RunL.segEnd (Sub.cons rfl (Sub.skip rfl (Sub.skip rfl (Sub.skip rfl (Sub.skip rfl (Sub.skip rfl (Sub.skip rfl (Sub.same rfl (by rw [g94]) (Sub.refl _))))))))) (List.Sublist.refl _)
  ) (fun g94 => by
    have g94' := g94
    try simp only [decide_eq_true_eq, decide_eq_false_iff_not, Bool.not_eq_true', Bool.not_eq_false', Bool.and_eq_true, Bool.or_eq_true, Bool.and_eq_false_iff, Bool.or_eq_false_iff, Int.not_le, Int.not_lt] at g94'
    iterate 5 refine RunL.no rfl rfl rfl ?_
    refine RunL.val (Val.pure rfl) rfl rfl rfl ?_
    exact RunL.segEnd (Sub.cons rfl (Sub.skip rfl (Sub.skip rfl (Sub.skip rfl (Sub.skip rfl (Sub.skip rfl (Sub.skip rfl (Sub.same rfl (by rw [g94]) (Sub.refl _))))))))) (List.Sublist.refl _)
  ) ?_
  refine RunL.val (Val.pure rfl) rfl rfl rfl ?_
  refine RunL.orPart (dj := 101) (dp := 113) 12 rfl (fun g101 => by
    have g101' := g101
    try simp only [decide_eq_true_eq, decide_eq_false_iff_not, Bool.not_eq_true', Bool.not_eq_false', Bool.and_eq_true, Bool.or_eq_true, Bool.and_eq_false_iff, Bool.or_eq_false_iff, Int.not_le, Int.not_lt] at g101'
    iterate 3 refine RunL.val (Val.pure rfl) rfl rfl rfl ?_
    refine RunL.andPart (dj := 104) (dp := 112) 8 rfl (fun g104 => by
      have g104' := g104
      try simp only [decide_eq_true_eq, decide_eq_false_iff_not, Bool.not_eq_true', Bool.not_eq_false', Bool.and_eq_true, Bool.or_eq_true, Bool.and_eq_false_iff, Bool.or_eq_false_iff, Int.not_le, Int.not_lt] at g104'
      iterate 3 refine RunL.val (Val.pure rfl) rfl rfl rfl ?_
      refine RunL.orPart (dj := 107) (dp := 111) 4 rfl (fun g107 => by
        have g107' := g107
        try simp only [decide_eq_true_eq, decide_eq_false_iff_not, Bool.not_eq_true', Bool.not_eq_false', Bool.and_eq_true, Bool.or_eq_true, Bool.and_eq_false_iff, Bool.or_eq_false_iff, Int.not_le, Int.not_lt] at g107'
        refine RunL.val (Val.pure rfl) rfl rfl rfl ?_
        refine RunL.val (Val.len_sl rfl sl_34) rfl rfl rfl ?_
        refine RunL.val (Val.pure rfl) rfl rfl rfl ?_
        refine RunL.val (Val.pure rfl) rfl rfl rfl ?_
        exact RunL.segEnd (Sub.cons rfl (Sub.skip rfl (Sub.skip rfl (Sub.skip rfl (Sub.skip rfl (Sub.same rfl (by rw [g107]) (Sub.refl _))))))) (List.Sublist.refl _)
      ) (fun g107 => by
        have g107' := g107
        try simp only [decide_eq_true_eq, decide_eq_false_iff_not, Bool.not_eq_true', Bool.not_eq_false', Bool.and_eq_true, Bool.or_eq_true, Bool.and_eq_false_iff, Bool.or_eq_false_iff, Int.not_le, Int.not_lt] at g107'
        iterate 3 refine RunL.no rfl rfl rfl ?_
        refine RunL.val (Val.pure rfl) rfl rfl rfl ?_
        exact RunL.segEnd (Sub.cons rfl (Sub.skip rfl (Sub.skip rfl (Sub.skip rfl (Sub.skip rfl (Sub.same rfl (by rw [g107]) (Sub.refl _))))))) (List.Sublist.refl _)
      ) ?_
      refine RunL.val (Val.pure rfl) rfl rfl rfl ?_
      exact RunL.segEnd (Sub.cons rfl (Sub.skip rfl (Sub.skip rfl (Sub.skip rfl (Sub.skip rfl (Sub.skip rfl (Sub.same rfl (by rw [g104]) (Sub.refl _)))))))) (List.Sublist.refl _)
    ) (fun g104 => by
      have g104' := g104
      try simp only [decide_eq_true_eq, decide_eq_false_iff_not, Bool.not_eq_true', Bool.not_eq_false', Bool.and_eq_true, Bool.or_eq_true, Bool.and_eq_false_iff, Bool.or_eq_false_iff, Int.not_le, Int.not_lt] at g104'
      iterate 7 refine RunL.no rfl rfl rfl ?_
      refine RunL.val (Val.pure rfl) rfl rfl rfl ?_
      exact RunL.segEnd (Sub.cons rfl (Sub.skip rfl (Sub.skip rfl (Sub.skip rfl (Sub.skip rfl (Sub.skip rfl (Sub.skip rfl (Sub.skip rfl (Sub.skip rfl (Sub.same rfl (by rw [g104]) (Sub.refl _))))))))))) (List.Sublist.refl _)
    ) ?_
    refine RunL.val (Val.pure rfl) rfl rfl rfl ?_
    exact RunL.segEnd (Sub.cons rfl (Sub.skip rfl (Sub.skip rfl (Sub.skip rfl (Sub.skip rfl (Sub.skip rfl (Sub.same rfl (by rw [g101]) (Sub.refl _)))))))) (List.Sublist.refl _)
  ) (fun g101 => by
    have g101' := g101
    try simp only [decide_eq_true_eq, decide_eq_false_iff_not, Bool.not_eq_true', Bool.not_eq_false', Bool.and_eq_true, Bool.or_eq_true, Bool.and_eq_false_iff, Bool.or_eq_false_iff, Int.not_le, Int.not_lt] at g101'
    iterate 11 refine RunL.no rfl rfl rfl ?_
    refine RunL.val (Val.pure rfl) rfl rfl rfl ?_
    exact RunL.segEnd (Sub.cons rfl (Sub.skip rfl (Sub.skip rfl (Sub.skip rfl (Sub.skip rfl (Sub.skip rfl (Sub.skip rfl (Sub.skip rfl (Sub.skip rfl (Sub.skip rfl (Sub.skip rfl (Sub.skip rfl (Sub.skip rfl (Sub.same rfl (by rw [g101]) (Sub.refl _))))))))))))))) (List.Sublist.refl _)
  ) ?_
  refine RunL.val (Val.pure rfl) rfl rfl rfl ?_
  refine RunL.orPart (dj := 114) (dp := 125) 11 rfl (fun g114 => by
    have g114' := g114
    try simp only [decide_eq_true_eq, decide_eq_false_iff_not, Bool.not_eq_true', Bool.not_eq_false', Bool.and_eq_true, Bool.or_eq_true, Bool.and_eq_false_iff, Bool.or_eq_false_iff, Int.not_le, Int.not_lt] at g114'
    iterate 3 refine RunL.val (Val.pure rfl) rfl rfl rfl ?_
    refine RunL.andPart (dj := 117) (dp := 124) 7 rfl (fun g117 => by
      have g117' := g117
      try simp only [decide_eq_true_eq, decide_eq_false_iff_not, Bool.not_eq_true', Bool.not_eq_false', Bool.and_eq_true, Bool.or_eq_true, Bool.and_eq_false_iff, Bool.or_eq_false_iff, Int.not_le, Int.not_lt] at g117'
      refine RunL.val (Val.pure rfl) rfl rfl rfl ?_
      refine RunL.val (Val.len_sl rfl sl_34) rfl rfl rfl ?_
      refine RunL.val (Val.fieldAddr rfl fld_25_1) rfl rfl rfl ?_
      refine RunL.val (Val.load_one rfl (.head _) ty_23 rfl) rfl rfl rfl ?_
      refine RunL.val (Val.len_sl rfl sl_23) rfl rfl rfl ?_
      refine RunL.val (Val.pure rfl) rfl rfl rfl ?_
      refine RunL.val (Val.pure rfl) rfl rfl rfl ?_
      exact RunL.segEnd (Sub.cons rfl (Sub.skip rfl (Sub.skip rfl (Sub.skip rfl (Sub.skip rfl (Sub.skip rfl (Sub.skip rfl (Sub.skip rfl (Sub.same rfl (by rw [g117]) (Sub.refl _)))))))))) (List.Sublist.refl _)
    ) (fun g117 => by
      have g117' := g117
      try simp only [decide_eq_true_eq, decide_eq_false_iff_not, Bool.not_eq_true', Bool.not_eq_false', Bool.and_eq_true, Bool.or_eq_true, Bool.and_eq_false_iff, Bool.or_eq_false_iff, Int.not_le, Int.not_lt] at g117'
      iterate 6 refine RunL.no rfl rfl rfl ?_
      refine RunL.val (Val.pure rfl) rfl rfl rfl ?_
      exact RunL.segEnd (Sub.cons rfl (Sub.skip rfl (Sub.skip rfl (Sub.skip rfl (Sub.skip rfl (Sub.skip rfl (Sub.skip rfl (Sub.skip rfl (Sub.same rfl (by rw [g117]) (Sub.refl _)))))))))) (List.Sublist.refl _)
    ) ?_
    refine RunL.val (Val.pure rfl) rfl rfl rfl ?_
    exact RunL.segEnd (Sub.cons rfl (Sub.skip rfl (Sub.skip rfl (Sub.skip rfl (Sub.skip rfl (Sub.skip rfl (Sub.same rfl (by rw [g114]) (Sub.refl _)))))))) (List.Sublist.refl _)
  ) (fun g114 => by
    have g114' := g114
    try simp only [decide_eq_true_eq, decide_eq_false_iff_not, Bool.not_eq_true', Bool.not_eq_false', Bool.and_eq_true, Bool.or_eq_true, Bool.and_eq_false_iff, Bool.or_eq_false_iff, Int.not_le, Int.not_lt] at g114'
    iterate 10 refine RunL.no rfl rfl rfl ?_
    refine RunL.val (Val.pure rfl) rfl rfl rfl ?_
    exact RunL.segEnd (Sub.cons rfl (Sub.skip rfl (Sub.skip rfl (Sub.skip rfl (Sub.skip rfl (Sub.skip rfl (Sub.skip rfl (Sub.skip rfl (Sub.skip rfl (Sub.skip rfl (Sub.skip rfl (Sub.skip rfl (Sub.same rfl (by rw [g114]) (Sub.refl _)))))))))))))) (List.Sublist.refl _)
  ) ?_
  refine RunL.nil ?_
  refine RunE.next ?_
  refine RunC.cond rfl (fun h => absurd h (by simp)) ?_
  intro c2
  clear c2
  refine RunC.skip ?_
  refine RunE.next ?_
  refine RunC.seq ?_
  refine RunC.region ?_
  refine RunL.val (Val.load_agg rfl (.head _) ty_25 rfl) rfl rfl rfl ?_
  refine RunL.callNT (isCall_func rfl ent_34) rfl rfl rfl (fun w hm => rEntries_calls m hsm hX w (hM.mono0 hm)) (fun z127 => ?_)
  obtain ⟨x127, hx127⟩ := z127
  dsimp only
  refine RunL.val (Val.len_sl rfl sl_53) rfl rfl rfl ?_
  refine RunL.val (Val.pure rfl) rfl rfl rfl ?_
  refine RunL.nil ?_
  refine RunE.next ?_
  refine RunC.seq ?_
  refine RunC.region ?_
  refine RunL.new (New.buildSlice0 sl_34) rfl rfl rfl (fun b129 => ?_)
  iterate 3 refine RunL.val (Val.pure rfl) rfl rfl rfl ?_
  refine RunL.nil ?_
  refine RunE.next ?_
  refine RunC.seq ?_
  refine RunC.seq ?_
  refine RunC.region ?_
  refine RunL.val (Val.fieldAddr rfl fld_25_1) rfl rfl rfl ?_
  refine RunL.val (Val.load_one rfl (.tail _ (.head _)) ty_23 rfl) rfl rfl rfl ?_
  refine RunL.val (Val.len_sl rfl sl_23) rfl rfl rfl ?_
  refine RunL.val (Val.pure rfl) rfl rfl rfl ?_
  refine RunL.nil ?_
  refine RunE.next ?_
  refine RunC.block ?_
  refine RunC.loopX (X := Eng.Own × List Nat × Nat) (n0 := [(b2, _)]) (m.cards.length) (fun k x q => (133, .int .i64 (k : Int)) :: (13, .int .i64 ((x.2.2 : Nat) : Int)) :: (14, ownV x.1 x.2.1.length) :: q) (fun _ _ => _) (fun k x => []) (fun k x => ownB 3 x.1 (intsW (natI x.2.1)).flatten ++ (ownB 56 x127 ((esX m).map En.cells).flatten ++ [])) (fun k x => OwnOk 1 x.1 x.2.1.length (intsW (natI x.2.1)).flatten ∧ PW (esX m).length (fsX m.pl) x.2.1 x.2.2 ∧ x.2.1.length ≤ k) (some (b129, 0, []), [], 0) ⟨OwnOk.empty, PW.nil _ _, Nat.le_refl _⟩ rfl (Sub.consE (t := 133) rfl rfl (Sub.consE (t := 13) rfl rfl (Sub.consE (t := 14) rfl rfl (Sub.cons (t := 1) rfl (Sub.cons (t := 2) rfl (Sub.cons (t := 5) rfl (Sub.cons (t := 6) rfl (Sub.cons (t := 11) rfl (Sub.cons (t := 12) rfl (Sub.cons (t := 132) rfl (Sub.nil _))))))))))) (.cons (.there .here) rfl (Pick.same (by rfl))) ?_
  intro k x kN kI
  obtain ⟨X1, own, ot⟩ := x
  obtain ⟨hx1, hpw, hle⟩ := kI
  dsimp only at hx1 hpw hle ⊢
  refine RunC.seq ?_
  refine RunC.region ?_
  refine RunL.val (Val.pure rfl) rfl rfl rfl ?_
  refine RunL.nil ?_
  refine RunE.next ?_
  refine RunC.seq ?_
  refine RunC.cond rfl ?_ ?_
  · intro c3
    have c3' := c3; clear c3
    try simp only [decide_eq_true_eq, decide_eq_false_iff_not, Bool.not_eq_true', Bool.not_eq_false', Bool.and_eq_true, Bool.or_eq_true, Bool.and_eq_false_iff, Bool.or_eq_false_iff, Int.not_le, Int.not_lt] at c3'
    have hk : k < m.cards.length := by omega
    have hk2 : k < (fsX m.pl).length := by omega
    obtain ⟨f, hf2⟩ : ∃ f, (fsX m.pl)[k] = f := ⟨_, rfl⟩
    have hf12 := hall f (hf2 ▸ List.getElem_mem hk2)
    obtain ⟨i, hi, hil⟩ := mod_at (k := k) hy
    obtain ⟨B, hB⟩ : ∃ B, ys[i] = B := ⟨_, rfl⟩
    have hB8 : B.toNat < 256 := UInt8.toNat_lt B
    refine RunC.skip ?_
    refine RunE.next ?_
    refine RunC.seq ?_
    refine RunC.block ?_
    refine RunC.seq ?_
    refine RunC.region ?_
    refine RunL.val (Val.pure rfl) rfl rfl rfl ?_
    refine RunL.val (Val.pure rfl) rfl rfl rfl ?_
    refine RunL.nil ?_
    refine RunE.next ?_
    refine RunC.seq ?_
    refine RunC.region ?_
    refine RunL.val (Val.load_agg rfl (.head _) ty_25 rfl) rfl rfl rfl ?_
    refine RunL.val (Val.pure rfl) rfl rfl rfl ?_
    refine RunL.callP (isCall_func rfl ent_14) rfl rfl rfl (fun w hm => (by have h9 := fits_calls m hsm (k : Int) w (hM.mono0 hm); rw [fits_at hX hk2 hf2] at h9; exact h9)) ?_
    iterate 5 refine RunL.val (Val.pure rfl) rfl rfl rfl ?_
    refine RunL.nil ?_
    refine RunE.next ?_
    refine RunC.seq ?_
    refine RunC.seq ?_
    refine RunC.region ?_
    refine RunL.val (Val.pure rfl) rfl rfl rfl ?_
    refine RunL.val (Val.pure rfl) rfl rfl rfl ?_
    refine RunL.nil ?_
    refine RunE.next ?_
    refine RunC.cond rfl (fun h => absurd h (by simp)) ?_
    intro c4
    clear c4
    refine RunC.skip ?_
    refine RunE.next ?_
    refine RunC.seq ?_
    refine RunC.seq ?_
    refine RunC.region ?_
    refine RunL.val (Val.pure rfl) rfl rfl rfl ?_
    refine RunL.val (Val.pure rfl) rfl rfl rfl ?_
    refine RunL.nil ?_
    refine RunE.next ?_
    refine RunC.cond rfl (fun h => absurd h (by simp)) ?_
    intro c5
    clear c5
    refine RunC.skip ?_
    refine RunE.next ?_
    refine RunC.seq ?_
    refine RunC.region ?_
    refine RunL.val (Val.pure rfl) rfl rfl rfl ?_
    refine RunL.val (Val.pure rfl) rfl rfl rfl ?_
    refine RunL.nil ?_
    refine RunE.next ?_
    refine RunC.block ?_
    refine RunC.loopX (X := Eng.Own × List Nat × Nat) (n0 := [(b2, _)]) ((esX m).length) (fun j y q => (179, .int .i64 (j : Int)) :: (13, .int .i64 ((y.2.2 : Nat) : Int)) :: (14, ownV y.1 y.2.1.length) :: q) (fun _ _ => _) (fun j y => []) (fun j y => ownB 3 y.1 (intsW (natI y.2.1)).flatten ++ (ownB 56 x127 ((esX m).map En.cells).flatten ++ [])) (fun j y => OwnOk 1 y.1 y.2.1.length (intsW (natI y.2.1)).flatten ∧ PW (esX m).length (fsX m.pl) y.2.1 y.2.2 ∧ y.2.1.length ≤ k + 1) (X1, own, ot) ⟨hx1, hpw, Nat.le_succ_of_le hle⟩ rfl (Sub.consE (t := 179) rfl rfl (Sub.consE (t := 13) rfl rfl (Sub.consE (t := 14) rfl rfl (Sub.cons (t := 1) rfl (Sub.cons (t := 2) rfl (Sub.cons (t := 5) rfl (Sub.cons (t := 6) rfl (Sub.cons (t := 11) rfl (Sub.cons (t := 12) rfl (Sub.cons (t := 132) rfl (Sub.cons (t := 133) rfl (Sub.cons (t := 15) rfl (Sub.cons (t := 16) rfl (Sub.cons (t := 178) rfl (Sub.nil _))))))))))))))) (.cons .here rfl (Pick.same rfl)) ?_
    intro j y jN jI
    obtain ⟨Y1, own2, ot2⟩ := y
    obtain ⟨hy1, hpw2, hle2⟩ := jI
    dsimp only at hy1 hpw2 hle2 ⊢
    refine RunC.seq ?_
    refine RunC.region ?_
    refine RunL.val (Val.pure rfl) rfl rfl rfl ?_
    refine RunL.nil ?_
    refine RunE.next ?_
    refine RunC.seq ?_
    refine RunC.cond rfl ?_ ?_
    · intro c7
      have c7' := c7; clear c7
      try simp only [decide_eq_true_eq, decide_eq_false_iff_not, Bool.not_eq_true', Bool.not_eq_false', Bool.and_eq_true, Bool.or_eq_true, Bool.and_eq_false_iff, Bool.or_eq_false_iff, Int.not_le, Int.not_lt] at c7'
      have hj : j < (esX m).length := by omega
      obtain ⟨J, hJ, hJl⟩ := mod_at (k := B.toNat + j) (show 0 < (esX m).length by omega)
      have hsk := Nat.shiftRight_le f J
      have hand := Nat.and_le_right (n := f >>> J) (m := 1)
      have hsk2 := Nat.shiftRight_le ot2 J
      have hand2 := Nat.and_le_right (n := ot2 >>> J) (m := 1)
      have hot2 := hpw2.lt
      have h2J : 2 ^ J < 2 ^ 12 := Nat.pow_lt_pow_right (by decide) (by omega)
      have hor := Nat.or_lt_two_pow hot2 h2J
      refine RunC.skip ?_
      refine RunE.next ?_
      refine RunC.seq ?_
      refine RunC.block ?_
      refine RunC.seq ?_
      refine RunC.region ?_
      refine RunL.val (Val.pure rfl) rfl rfl rfl ?_
      refine RunL.val (Val.pure rfl) rfl rfl rfl ?_
      refine RunL.nil ?_
      refine RunE.next ?_
      refine RunC.seq ?_
      refine RunC.region ?_
      iterate 3 refine RunL.val (Val.pure rfl) rfl rfl rfl ?_
      refine RunL.val (Val.len_sl rfl sl_47) rfl rfl rfl ?_
      refine RunL.val (Val.remN (a := k) (b := ys.length) rfl rfl hy) rfl rfl rfl ?_
      rw [hi]
      refine RunL.val (Val.indexAddr_slp rfl rfl sl_47 (by omega) (by omega) (hS.ptrM hil)) rfl rfl rfl ?_
      refine RunL.val (Val.load_gen rfl (fun w hm => hS.loadM1 (by decide) hm (by simp) ty_5 hil (v := byteV B) (by simp [hB]))) rfl rfl rfl ?_
      refine RunL.val (Val.convInt rfl und_5 und_3 (IntWalk.i64_in _ ⟨by omega, by omega⟩)) rfl rfl rfl ?_
      refine RunL.val (Val.pure rfl) rfl rfl rfl ?_
      refine RunL.val (Val.addN (a := B.toNat) (b := j) (B.toNat + j) rfl rfl rfl (i64_inN (by omega))) rfl rfl rfl ?_
      refine RunL.val (Val.pure rfl) rfl rfl rfl ?_
      refine RunL.val (Val.remN (a := B.toNat + j) (b := (esX m).length) rfl rfl (by omega)) rfl rfl rfl ?_
      refine RunL.val (Val.pure rfl) rfl rfl rfl ?_
      refine RunL.nil ?_
      refine RunE.next ?_
      refine RunC.seq ?_
      refine RunC.region ?_
      rw [hJ]
      refine RunL.val (Val.pure rfl) rfl rfl rfl ?_
      refine RunL.val (Val.len_own rfl sl_34 hy1) rfl rfl rfl ?_
      iterate 3 refine RunL.val (Val.pure rfl) rfl rfl rfl ?_
      refine RunL.andPart (dj := 198) (dp := 204) 6 rfl (fun g198 => by
        have g198' := g198
        try simp only [decide_eq_true_eq, decide_eq_false_iff_not, Bool.not_eq_true', Bool.not_eq_false', Bool.and_eq_true, Bool.or_eq_true, Bool.and_eq_false_iff, Bool.or_eq_false_iff, Int.not_le, Int.not_lt] at g198'
        refine RunL.val (Val.pure rfl) rfl rfl rfl ?_
        refine RunL.val (Val.pure rfl) rfl rfl rfl ?_
        refine RunL.val (Val.shrN (a := f) (b := J) rfl rfl (by show J ≤ 64; omega)) rfl rfl rfl ?_
        refine RunL.val (Val.and (a := f >>> J) (b := 1) rfl rfl (by show _ < 18446744073709551616; omega) (by decide) (i64_inN (by omega))) rfl rfl rfl ?_
        refine RunL.val (Val.pure rfl) rfl rfl rfl ?_
        refine RunL.val (Val.pure rfl) rfl rfl rfl ?_
        exact RunL.segEnd (Sub.cons rfl (Sub.skip rfl (Sub.skip rfl (Sub.skip rfl (Sub.skip rfl (Sub.skip rfl (Sub.skip rfl (Sub.same rfl (by rw [g198]) (Sub.refl _))))))))) (List.Sublist.refl _)
      ) (fun g198 => by
        have g198' := g198
        try simp only [decide_eq_true_eq, decide_eq_false_iff_not, Bool.not_eq_true', Bool.not_eq_false', Bool.and_eq_true, Bool.or_eq_true, Bool.and_eq_false_iff, Bool.or_eq_false_iff, Int.not_le, Int.not_lt] at g198'
        iterate 5 refine RunL.no rfl rfl rfl ?_
        refine RunL.val (Val.pure rfl) rfl rfl rfl ?_
        exact RunL.segEnd (Sub.cons rfl (Sub.skip rfl (Sub.skip rfl (Sub.skip rfl (Sub.skip rfl (Sub.skip rfl (Sub.skip rfl (Sub.same rfl (by rw [g198]) (Sub.refl _))))))))) (List.Sublist.refl _)
      ) ?_
      refine RunL.val (Val.pure rfl) rfl rfl rfl ?_
      refine RunL.andPart (dj := 205) (dp := 211) 6 rfl (fun g205 => by
        have g205' := g205
        try simp only [decide_eq_true_eq, decide_eq_false_iff_not, Bool.not_eq_true', Bool.not_eq_false', Bool.and_eq_true, Bool.or_eq_true, Bool.and_eq_false_iff, Bool.or_eq_false_iff, Int.not_le, Int.not_lt] at g205'
        refine RunL.val (Val.pure rfl) rfl rfl rfl ?_
        refine RunL.val (Val.pure rfl) rfl rfl rfl ?_
        refine RunL.val (Val.shrN (a := ot2) (b := J) rfl rfl (by show J ≤ 64; omega)) rfl rfl rfl ?_
        refine RunL.val (Val.and (a := ot2 >>> J) (b := 1) rfl rfl (by show _ < 18446744073709551616; omega) (by decide) (i64_inN (by omega))) rfl rfl rfl ?_
        refine RunL.val (Val.pure rfl) rfl rfl rfl ?_
        refine RunL.val (Val.pure rfl) rfl rfl rfl ?_
        exact RunL.segEnd (Sub.cons rfl (Sub.skip rfl (Sub.skip rfl (Sub.skip rfl (Sub.skip rfl (Sub.skip rfl (Sub.skip rfl (Sub.same rfl (by rw [g205]) (Sub.refl _))))))))) (List.Sublist.refl _)
      ) (fun g205 => by
        have g205' := g205
        try simp only [decide_eq_true_eq, decide_eq_false_iff_not, Bool.not_eq_true', Bool.not_eq_false', Bool.and_eq_true, Bool.or_eq_true, Bool.and_eq_false_iff, Bool.or_eq_false_iff, Int.not_le, Int.not_lt] at g205'
        iterate 5 refine RunL.no rfl rfl rfl ?_
        refine RunL.val (Val.pure rfl) rfl rfl rfl ?_
        exact RunL.segEnd (Sub.cons rfl (Sub.skip rfl (Sub.skip rfl (Sub.skip rfl (Sub.skip rfl (Sub.skip rfl (Sub.skip rfl (Sub.same rfl (by rw [g205]) (Sub.refl _))))))))) (List.Sublist.refl _)
      ) ?_
      refine RunL.nil ?_
      refine RunE.next ?_
      refine RunC.cond rfl ?_ ?_
      · intro c8
        have c8' := c8; clear c8
        try simp only [decide_eq_true_eq, decide_eq_false_iff_not, Bool.not_eq_true', Bool.not_eq_false', Bool.and_eq_true, Bool.or_eq_true, Bool.and_eq_false_iff, Bool.or_eq_false_iff, Int.not_le, Int.not_lt] at c8'
        obtain ⟨⟨g1, g2⟩, g3⟩ := c8'
        have g1 : own2.length = k := by omega
        subst g1
        have hpw3 := hpw2.snoc hk2 hf2 hJl h12 (bit_yes g2) (bit_no0 g3)
        refine RunC.drawX (X := Eng.Own) 9 (n0 := [(b2, _)]) (fun z q => (14, ownV z (own2.length + 1)) :: (13, .int .i64 ((ot2 ||| 2 ^ J : Nat) : Int)) :: q) (fun z => []) (fun z => []) (fun z => ownB 3 z (intsW (natI (own2 ++ [J]))).flatten ++ (ownB 56 x127 ((esX m).map En.cells).flatten ++ [])) (fun z => OwnOk 1 z (own2.length + 1) (intsW (natI (own2 ++ [J]))).flatten) fol_ (.cons .here rfl .nil) (Sub.cons (t := 1) rfl (Sub.cons (t := 2) rfl (Sub.cons (t := 5) rfl (Sub.cons (t := 6) rfl (Sub.cons (t := 11) rfl (Sub.cons (t := 12) rfl (Sub.cons (t := 132) rfl (Sub.cons (t := 133) rfl (Sub.cons (t := 15) rfl (Sub.cons (t := 16) rfl (Sub.cons (t := 178) rfl (Sub.cons (t := 179) rfl (Sub.nil _))))))))))))) (.cons .here rfl .nil) ?_ ?_
        · refine RunA.val (i := 0) rfl (by kernel_rfl) (by kernel_rfl) (Val.pure rfl) rfl rfl rfl (fun _ _ _ h => h) (.cons .here rfl .nil) rfl ?_
          refine RunA.val (i := 1) rfl (by kernel_rfl) (by kernel_rfl) (Val.pure rfl) rfl rfl rfl (fun _ _ _ h => h) (.cons .here rfl .nil) rfl ?_
          refine RunA.val (i := 4) rfl (by kernel_rfl) (by kernel_rfl) (Val.pure rfl) rfl rfl rfl (fun _ _ _ h => h) (.cons .here rfl .nil) rfl ?_
          refine RunA.val (i := 5) rfl (by kernel_rfl) (by kernel_rfl) (Val.pure rfl) rfl rfl rfl (fun _ _ _ h => h) (.cons .here rfl .nil) rfl ?_
          refine RunA.val (i := 6) rfl (by kernel_rfl) (by kernel_rfl) (Val.shl1 (b := J) rfl rfl (by show J ≤ 64; omega) (i64_inN (by omega))) rfl rfl rfl (fun _ _ _ h => h) (.cons .here rfl .nil) rfl ?_
          refine RunA.val (i := 7) rfl (by kernel_rfl) (by kernel_rfl) (Val.or (a := ot2) (b := 2 ^ J) rfl rfl (by show _ < 18446744073709551616; omega) (by show _ < 18446744073709551616; omega) (i64_inN (by omega))) rfl rfl rfl (fun _ _ _ h => h) (.cons .here rfl .nil) rfl ?_
          refine RunA.one (i := 2) (by kernel_rfl) (by kernel_rfl) ?_
          refine RunI.new rfl (New.buildSlice (parts := [(0, .tmp 213)]) rfl sl_34 zero_3 rfl rfl rfl rfl) rfl rfl rfl (fun b214 => (RunK.toA (.cons .here rfl (.cons .here rfl .nil)) (.cons (.there .here) rfl .nil) rfl ?_))
          refine RunA.one (i := 3) (by kernel_rfl) (by kernel_rfl) ?_
          refine RunI.append (A := [(b214, _), (b2, _)]) (B := _) (x := Y1) (ys := [.int .i64 (J : Int)]) rfl ap_34 rfl rfl rfl hy1 rfl (fun h => by cases h) (fun w hm => src_blk (hm.at (.head _))) (one_of rfl) (by simp only [maxLen]; omega) (by omega) rfl (fun z215 hz215 => (RunK.toA (.cons .here rfl (.cons .here rfl .nil)) (.cons .here rfl (.cons .here rfl .nil)) rfl ?_))
          refine RunA.val (i := 8) rfl (by kernel_rfl) (by kernel_rfl) (Val.pure rfl) rfl rfl rfl (fun _ _ _ h => h) (.cons .here rfl (.cons .here rfl .nil)) rfl ?_
          refine RunA.toB (by kernel_rfl) ?_
          refine RunB.one (i := 9) (by kernel_rfl) ?_
          refine RunI.val rfl (Val.pure rfl) rfl rfl rfl (RunK.toB ?_)
          refine RunB.done (by kernel_rfl) ?_
          exact RunE.joinX z215 (by rw [nat_snoc]; exact hz215) rfl (Sub.consE (t := 14) rfl rfl (Sub.consE (t := 13) rfl rfl (Sub.cons (t := 1) rfl (Sub.cons (t := 2) rfl (Sub.cons (t := 5) rfl (Sub.cons (t := 6) rfl (Sub.cons (t := 11) rfl (Sub.cons (t := 12) rfl (Sub.cons (t := 132) rfl (Sub.cons (t := 133) rfl (Sub.cons (t := 15) rfl (Sub.cons (t := 16) rfl (Sub.cons (t := 178) rfl (Sub.cons (t := 179) rfl (Sub.nil _))))))))))))))) (.cons (.there .here) rfl (Pick.skip (Pick.same (by rw [nat_snoc]))))
        · intro z zI
          have hx1 := zI
          refine RunE.block_normal ?_
          refine RunE.next ?_
          refine RunC.region ?_
          refine RunL.val (Val.add rfl rfl (IntWalk.i64_in _ ⟨by omega, by omega⟩)) rfl rfl rfl ?_
          refine RunL.val (Val.pure rfl) rfl rfl rfl ?_
          refine RunL.nil ?_
          exact RunE.roundX (z, own2 ++ [J], ot2 ||| 2 ^ J) (by omega) ⟨(by rw [List.length_append]; exact hx1), hpw3, (by simp)⟩ rfl (Sub.consE (t := 179) rfl rfl (Sub.consE (t := 13) rfl rfl (Sub.consE (t := 14) rfl (by first | rfl | simp) (Sub.cons (t := 1) rfl (Sub.cons (t := 2) rfl (Sub.cons (t := 5) rfl (Sub.cons (t := 6) rfl (Sub.cons (t := 11) rfl (Sub.cons (t := 12) rfl (Sub.cons (t := 132) rfl (Sub.cons (t := 133) rfl (Sub.cons (t := 15) rfl (Sub.cons (t := 16) rfl (Sub.cons (t := 178) rfl (Sub.nil _))))))))))))))) (.cons .here rfl (Pick.refl _))
      · intro c8
        have c8' := c8; clear c8
        try simp only [decide_eq_true_eq, decide_eq_false_iff_not, Bool.not_eq_true', Bool.not_eq_false', Bool.and_eq_true, Bool.or_eq_true, Bool.and_eq_false_iff, Bool.or_eq_false_iff, Int.not_le, Int.not_lt] at c8'
        refine RunC.skip ?_
        refine RunE.block_normal ?_
        refine RunE.next ?_
        refine RunC.region ?_
        refine RunL.val (Val.add rfl rfl (IntWalk.i64_in _ ⟨by omega, by omega⟩)) rfl rfl rfl ?_
        refine RunL.val (Val.pure rfl) rfl rfl rfl ?_
        refine RunL.nil ?_
        exact RunE.roundX (Y1, own2, ot2) (by omega) ⟨hy1, hpw2, hle2⟩ rfl (Sub.consE (t := 179) rfl rfl (Sub.consE (t := 13) rfl rfl (Sub.consE (t := 14) rfl (by first | rfl | simp) (Sub.cons (t := 1) rfl (Sub.cons (t := 2) rfl (Sub.cons (t := 5) rfl (Sub.cons (t := 6) rfl (Sub.cons (t := 11) rfl (Sub.cons (t := 12) rfl (Sub.cons (t := 132) rfl (Sub.cons (t := 133) rfl (Sub.cons (t := 15) rfl (Sub.cons (t := 16) rfl (Sub.cons (t := 178) rfl (Sub.nil _))))))))))))))) (.cons .here rfl (Pick.refl _))
    · intro c7
      have c7' := c7; clear c7
      try simp only [decide_eq_true_eq, decide_eq_false_iff_not, Bool.not_eq_true', Bool.not_eq_false', Bool.and_eq_true, Bool.or_eq_true, Bool.and_eq_false_iff, Bool.or_eq_false_iff, Int.not_le, Int.not_lt] at c7'
      refine RunC.exit ?_
      refine RunE.pass_exit ?_
      refine RunE.pass_exit ?_
      refine RunE.block_here ?_
      refine RunE.block_normal ?_
      refine RunE.next ?_
      refine RunC.region ?_
      refine RunL.val (Val.add rfl rfl (IntWalk.i64_in _ ⟨by omega, by omega⟩)) rfl rfl rfl ?_
      refine RunL.val (Val.pure rfl) rfl rfl rfl ?_
      refine RunL.nil ?_
      exact RunE.roundX (Y1, own2, ot2) (by omega) ⟨hy1, hpw2, hle2⟩ rfl (Sub.consE (t := 133) rfl rfl (Sub.consE (t := 13) rfl rfl (Sub.consE (t := 14) rfl rfl (Sub.cons (t := 1) rfl (Sub.cons (t := 2) rfl (Sub.cons (t := 5) rfl (Sub.cons (t := 6) rfl (Sub.cons (t := 11) rfl (Sub.cons (t := 12) rfl (Sub.cons (t := 132) rfl (Sub.nil _))))))))))) (.cons .here rfl (Pick.refl _))
  · intro c3
    have c3' := c3; clear c3
    try simp only [decide_eq_true_eq, decide_eq_false_iff_not, Bool.not_eq_true', Bool.not_eq_false', Bool.and_eq_true, Bool.or_eq_true, Bool.and_eq_false_iff, Bool.or_eq_false_iff, Int.not_le, Int.not_lt] at c3'
    have hkn : k = m.cards.length := by omega
    refine RunC.exit ?_
    refine RunE.pass_exit ?_
    refine RunE.pass_exit ?_
    refine RunE.block_here ?_
    refine RunE.next ?_
    refine RunC.seq ?_
    refine RunC.seq ?_
    refine RunC.region ?_
    refine RunL.val (Val.pure rfl) rfl rfl rfl ?_
    refine RunL.val (Val.len_own rfl sl_34 hx1) rfl rfl rfl ?_
    refine RunL.val (Val.fieldAddr rfl fld_25_1) rfl rfl rfl ?_
    refine RunL.val (Val.load_one rfl (.head _) ty_23 rfl) rfl rfl rfl ?_
    refine RunL.val (Val.len_sl rfl sl_23) rfl rfl rfl ?_
    refine RunL.val (Val.pure rfl) rfl rfl rfl ?_
    refine RunL.nil ?_
    refine RunE.next ?_
    refine RunC.cond rfl ?_ (fun h => absurd h (by have h9 := hno _ _ hpw; simp; omega))
    intro c9
    clear c9
    refine RunC.seq ?_
    refine RunC.region ?_
    refine RunL.callP (isCall_func rfl ent_13) rfl rfl rfl (fun w hm => hawake_calls w) ?_
    refine RunL.val (Val.pure rfl) rfl rfl rfl ?_
    refine RunL.nil ?_
    refine RunE.next ?_
    refine RunC.ret ?_
    refine RunE.pass_ret ?_
    exact RunE.retP (.r1 rfl (.tmp rfl)) (by first | rfl | simp)
end Go.Proofs.YtlhdalcipflblaaDoor
