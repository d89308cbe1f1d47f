/- Walks of the laws of layer 10: entries; HeapFirst. -/
import Derived.Test.YtlhdalcipflblaaDoorT04
set_option linter.unusedSimpArgs false
set_option linter.unusedVariables false
namespace Go.Hp
open Go Go.Eng Go.Pw1
theorem shr_one {s k : Nat} (h : s.testBit k = true) : ((s >>> k &&& 1 : Nat) : Int) = 1 := by rw [bit_iff] at h; exact of_decide_eq_true h
theorem shr_zero {s k : Nat} (h : s.testBit k = false) : ((s >>> k &&& 1 : Nat) : Int) = 0 := by
  rw [bit_iff] at h
  have h1 := of_decide_eq_false h
  have h2 := Nat.and_le_right (n := s >>> k) (m := 1)
  omega
theorem bit_no0 {s k : Nat} (h : ((s >>> k &&& 1 : Nat) : Int) = 0) : s.testBit k = false := bit_no (by omega)
theorem mod_at {k n : Nat} (h : 0 < n) : ∃ i, k % n = i ∧ i < n := ⟨_, rfl, Nat.mod_lt _ h⟩
theorem ints_sl {l : List Int} {x : Eng.Own} {w : World} (h : OwnOk 1 x l.length (intsW l).flatten) (hm : ∀ b o, (b, o) ∈ ownB 3 x (intsW l).flatten → w.heap[b]? = some o) : Sl w (ownQ x) (ownK x) 0 1 (intsW l) := own_sl (f := fun (x : Int) => [Value.int .i64 x]) (fun _ => rfl) (by decide) h hm
theorem ints_row (l : List Int) : ∀ x ∈ intsW l, x.length = 1 := fun x hx => by obtain ⟨a, _, rfl⟩ := List.mem_map.1 hx; rfl
theorem natI_len (l : List Nat) : (natI l).length = l.length := by simp [natI]
theorem natI_at {l : List Nat} {k c : Nat} (hk : k < l.length) (hc : l[k] = c) : ((natI l)[k]'(by rw [natI_len]; exact hk)) = (c : Int) := by simp [natI, hc]
theorem take_snocN {a b : List Nat} {k : Nat} (ha : k < a.length) (hb : k < b.length) (h : a.take k = b.take k) (h2 : a[k] = b[k]) : a.take (k + 1) = b.take (k + 1) := by
  rw [List.take_succ_eq_append_getElem ha, List.take_succ_eq_append_getElem hb, h, h2]
end Go.Hp
namespace Go.Proofs.YtlhdalcipflblaaDoor
open Go Go.Eng Go.Hp Go.Pw1

theorem rEntries_calls (m : MxA) (hsm : MSm m) (hX : mixedX m.pl = true) (W : World) (hM : MOk W m) : Calls Tryd.prog 34 #[m.v] W
    (News (fun z : EO m => .slice (ownQ z.1) (esX m).length (ownC z.1)) (fun z => ownB 56 z.1 ((esX m).map En.cells).flatten ++ []) W) := by
  obtain ⟨hb4, hc8, he12⟩ := mixed_ok hX
  have hman : manyX (m.bxs.map (·.bx)) = (esX m).length := (entries_len _).symm
  refine calls_start Tryd.func34 rfl rfl ?_
  refine RunC.seq ?_
  refine RunC.region ?_
  refine RunL.new (New.box rfl) rfl rfl rfl (fun b1 => ?_)
  refine RunL.val (Val.pure rfl) rfl rfl rfl ?_
  refine RunL.nil ?_
  refine RunE.next ?_
  refine RunC.seq ?_
  refine RunC.region ?_
  refine RunL.val (Val.pure rfl) rfl rfl rfl ?_
  refine RunL.nil ?_
  refine RunE.next ?_
  refine RunC.seq ?_
  refine RunC.seq ?_
  refine RunC.region ?_
  refine RunL.val (Val.pure rfl) rfl rfl rfl ?_
  refine RunL.nil ?_
  refine RunE.next ?_
  refine RunC.block ?_
  refine RunC.loopX (X := Eng.Own) (n0 := [(b1, _)]) (m.bxs.length) (fun k x q => (4, .int .i64 (k : Int)) :: (3, ownV x (enK m k).length) :: q) (fun _ _ => _) (fun k x => []) (fun k x => ownB 56 x ((enK m k).map En.cells).flatten ++ []) (fun k x => OwnOk 3 x (enK m k).length ((enK m k).map En.cells).flatten) none OwnOk.start rfl (Sub.consE (t := 4) rfl rfl (Sub.consE (t := 3) rfl rfl (Sub.cons (t := 1) rfl (Sub.nil _)))) (.cons .here rfl (Pick.same rfl)) ?_
  intro k x kN kI
  have hx1 := kI
  refine RunC.seq ?_
  refine RunC.seq ?_
  refine RunC.region ?_
  refine RunL.val (Val.pure rfl) rfl rfl rfl ?_
  refine RunL.val (Val.fieldAddr rfl fld_25_0) rfl rfl rfl ?_
  refine RunL.val (Val.load_one rfl (.head _) ty_22 rfl) rfl rfl rfl ?_
  refine RunL.val (Val.len_sl rfl sl_22) rfl rfl rfl ?_
  refine RunL.val (Val.pure rfl) rfl rfl rfl ?_
  refine RunL.nil ?_
  refine RunE.next ?_
  refine RunC.cond rfl ?_ ?_
  · intro c0
    have c0' := c0; clear c0
    try simp only [decide_eq_true_eq, decide_eq_false_iff_not, Bool.not_eq_true', Bool.not_eq_false', Bool.and_eq_true, Bool.or_eq_true, Bool.and_eq_false_iff, Bool.or_eq_false_iff, Int.not_le, Int.not_lt] at c0'
    have hk : k < m.bxs.length := by omega
    obtain ⟨B, hB⟩ : ∃ B, m.bxs[k] = B := ⟨_, rfl⟩
    have hBm : B ∈ m.bxs := hB ▸ List.getElem_mem hk
    have hBl := many_mem hBm
    have hBT := hM.ti B hBm
    refine RunC.skip ?_
    refine RunE.next ?_
    refine RunC.seq ?_
    refine RunC.block ?_
    refine RunC.seq ?_
    refine RunC.region ?_
    refine RunL.val (Val.pure rfl) rfl rfl rfl ?_
    refine RunL.nil ?_
    refine RunE.next ?_
    refine RunC.block ?_
    refine RunC.loopX (X := Eng.Own) (n0 := [(b1, _)]) (B.bx.titles.length) (fun j y q => (5, .int .i64 (j : Int)) :: (3, ownV y (enK m k ++ boxEn B.bx.colour 0 (B.bx.titles.take j)).length) :: q) (fun _ _ => _) (fun j y => []) (fun j y => ownB 56 y ((enK m k ++ boxEn B.bx.colour 0 (B.bx.titles.take j)).map En.cells).flatten ++ []) (fun j y => OwnOk 3 y (enK m k ++ boxEn B.bx.colour 0 (B.bx.titles.take j)).length ((enK m k ++ boxEn B.bx.colour 0 (B.bx.titles.take j)).map En.cells).flatten) x (by simpa [boxEn] using hx1) rfl (Sub.consE (t := 5) rfl rfl (Sub.consE (t := 3) rfl (by simp [boxEn]) (Sub.cons (t := 1) rfl (Sub.cons (t := 4) rfl (Sub.nil _))))) (.cons .here rfl (Pick.same (by simp [boxEn]))) ?_
    intro j y jN jI
    have hy1 := jI
    refine RunC.seq ?_
    refine RunC.seq ?_
    refine RunC.region ?_
    refine RunL.val (Val.pure rfl) rfl rfl rfl ?_
    refine RunL.val (Val.fieldAddr rfl fld_25_0) rfl rfl rfl ?_
    refine RunL.val (Val.load_one rfl (.head _) ty_22 rfl) rfl rfl rfl ?_
    refine RunL.val (Val.pure rfl) rfl rfl rfl ?_
    refine RunL.val (Val.indexAddr_slp rfl rfl sl_22 (by omega) (by omega) (hM.bx.ptrM hk)) rfl rfl rfl ?_
    refine RunL.val (Val.fieldAddr rfl fld_46_1) rfl rfl rfl ?_
    refine RunL.val (Val.load_gen rfl (fun w hm => hM.bx.cellX hm (by simp) ty_44 hk hB (j := 1) (by decide) rfl)) rfl rfl rfl ?_
    refine RunL.val (Val.len_sl rfl sl_44) rfl rfl rfl ?_
    refine RunL.val (Val.pure rfl) rfl rfl rfl ?_
    refine RunL.nil ?_
    refine RunE.next ?_
    refine RunC.cond rfl ?_ ?_
    · intro c1
      have c1' := c1; clear c1
      try simp only [decide_eq_true_eq, decide_eq_false_iff_not, Bool.not_eq_true', Bool.not_eq_false', Bool.and_eq_true, Bool.or_eq_true, Bool.and_eq_false_iff, Bool.or_eq_false_iff, Int.not_le, Int.not_lt] at c1'
      have hj : j < B.bx.titles.length := by omega
      obtain ⟨S, hS⟩ : ∃ S, B.bx.titles[j] = S := ⟨_, rfl⟩
      have hlen : (enK m k ++ boxEn B.bx.colour 0 (B.bx.titles.take j)).length ≤ 100000 := by (rw [List.length_append, boxEn_len]; have h9 := enK_len hsm k; rw [List.length_take]; omega)
      have hS2 : enK m k ++ boxEn B.bx.colour 0 (B.bx.titles.take (j + 1)) = (enK m k ++ boxEn B.bx.colour 0 (B.bx.titles.take j)) ++ [⟨B.bx.colour, itoa (j + 1), S⟩] := by rw [List.take_succ_eq_append_getElem hj, hS, boxEn_snoc, List.append_assoc]; simp [Nat.min_eq_left (Nat.le_of_lt hj)]
      have hlen2 : (enK m k ++ boxEn B.bx.colour 0 (B.bx.titles.take j) ++ [(⟨B.bx.colour, itoa (j + 1), S⟩ : En)]).length = (enK m k ++ boxEn B.bx.colour 0 (B.bx.titles.take j)).length + 1 := by rw [List.length_append (bs := [_])]; rfl
      refine RunC.skip ?_
      refine RunE.next ?_
      refine RunC.seq ?_
      refine RunC.block ?_
      refine RunC.drawX (X := Eng.Own) 21 (n0 := [(b1, _)]) (fun z q => (3, ownV z (enK m k ++ boxEn B.bx.colour 0 (B.bx.titles.take j) ++ [(⟨B.bx.colour, itoa (j + 1), S⟩ : En)]).length) :: q) (fun z => []) (fun z => []) (fun z => ownB 56 z ((enK m k ++ boxEn B.bx.colour 0 (B.bx.titles.take j) ++ [(⟨B.bx.colour, itoa (j + 1), S⟩ : En)]).map En.cells).flatten ++ []) (fun z => OwnOk 3 z (enK m k ++ boxEn B.bx.colour 0 (B.bx.titles.take j) ++ [(⟨B.bx.colour, itoa (j + 1), S⟩ : En)]).length ((enK m k ++ boxEn B.bx.colour 0 (B.bx.titles.take j) ++ [(⟨B.bx.colour, itoa (j + 1), S⟩ : En)]).map En.cells).flatten) fol_ (.cons .here rfl .nil) (Sub.cons (t := 1) rfl (Sub.cons (t := 4) rfl (Sub.cons (t := 5) rfl (Sub.nil _)))) (.cons .here rfl .nil) ?_ ?_
      · refine RunA.val (i := 0) rfl (by kernel_rfl) (by kernel_rfl) (Val.pure rfl) rfl rfl rfl (fun _ _ _ h => h) (.cons .here rfl .nil) rfl ?_
        refine RunA.val (i := 1) rfl (by kernel_rfl) (by kernel_rfl) (Val.fieldAddr rfl fld_25_0) rfl rfl rfl (fun _ _ _ h => h) (.cons .here rfl .nil) rfl ?_
        refine RunA.val (i := 2) rfl (by kernel_rfl) (by kernel_rfl) (Val.load_one rfl (.head _) ty_22 rfl) rfl rfl rfl (fun _ _ _ h => h) (.cons .here rfl .nil) rfl ?_
        refine RunA.val (i := 3) rfl (by kernel_rfl) (by kernel_rfl) (Val.pure rfl) rfl rfl rfl (fun _ _ _ h => h) (.cons .here rfl .nil) rfl ?_
        refine RunA.val (i := 4) rfl (by kernel_rfl) (by kernel_rfl) (Val.indexAddr_slp rfl rfl sl_22 (by omega) (by omega) (hM.bx.ptrM hk)) rfl rfl rfl (fun _ _ _ h => h) (.cons .here rfl .nil) rfl ?_
        refine RunA.val (i := 5) rfl (by kernel_rfl) (by kernel_rfl) (Val.fieldAddr rfl fld_46_0) rfl rfl rfl (fun _ _ _ h => h) (.cons .here rfl .nil) rfl ?_
        refine RunA.val (i := 6) rfl (by kernel_rfl) (by kernel_rfl) (Val.load_gen rfl (fun w hm => hM.bx.cellX hm (by simp) ty_3 hk hB (j := 0) (by decide) rfl)) rfl rfl rfl (fun _ _ _ h => h) (.cons .here rfl .nil) rfl ?_
        refine RunA.val (i := 7) rfl (by kernel_rfl) (by kernel_rfl) (Val.pure rfl) rfl rfl rfl (fun _ _ _ h => h) (.cons .here rfl .nil) rfl ?_
        refine RunA.val (i := 8) rfl (by kernel_rfl) (by kernel_rfl) (Val.add rfl rfl (IntWalk.i64_in _ ⟨by omega, by omega⟩)) rfl rfl rfl (fun _ _ _ h => h) (.cons .here rfl .nil) rfl ?_
        refine RunA.val (i := 10) rfl (by kernel_rfl) (by kernel_rfl) (Val.fieldAddr rfl fld_25_0) rfl rfl rfl (fun _ _ _ h => h) (.cons .here rfl .nil) rfl ?_
        refine RunA.val (i := 11) rfl (by kernel_rfl) (by kernel_rfl) (Val.load_one rfl (.head _) ty_22 rfl) rfl rfl rfl (fun _ _ _ h => h) (.cons .here rfl .nil) rfl ?_
        refine RunA.val (i := 12) rfl (by kernel_rfl) (by kernel_rfl) (Val.pure rfl) rfl rfl rfl (fun _ _ _ h => h) (.cons .here rfl .nil) rfl ?_
        refine RunA.val (i := 13) rfl (by kernel_rfl) (by kernel_rfl) (Val.indexAddr_slp rfl rfl sl_22 (by omega) (by omega) (hM.bx.ptrM hk)) rfl rfl rfl (fun _ _ _ h => h) (.cons .here rfl .nil) rfl ?_
        refine RunA.val (i := 14) rfl (by kernel_rfl) (by kernel_rfl) (Val.fieldAddr rfl fld_46_1) rfl rfl rfl (fun _ _ _ h => h) (.cons .here rfl .nil) rfl ?_
        refine RunA.val (i := 15) rfl (by kernel_rfl) (by kernel_rfl) (Val.load_gen rfl (fun w hm => hM.bx.cellX hm (by simp) ty_44 hk hB (j := 1) (by decide) rfl)) rfl rfl rfl (fun _ _ _ h => h) (.cons .here rfl .nil) rfl ?_
        refine RunA.val (i := 16) rfl (by kernel_rfl) (by kernel_rfl) (Val.pure rfl) rfl rfl rfl (fun _ _ _ h => h) (.cons .here rfl .nil) rfl ?_
        refine RunA.val (i := 17) rfl (by kernel_rfl) (by kernel_rfl) (Val.indexAddr_slp rfl rfl sl_44 (by omega) (by omega) (hBT.ptrM hj)) rfl rfl rfl (fun _ _ _ h => h) (.cons .here rfl .nil) rfl ?_
        refine RunA.val (i := 18) rfl (by kernel_rfl) (by kernel_rfl) (Val.load_gen rfl (fun w hm => Sl.loadM1 hBT (by decide) hm (by simp) ty_9 hj (v := .string (bs S)) (by simp [hS]))) rfl rfl rfl (fun _ _ _ h => h) (.cons .here rfl .nil) rfl ?_
        refine RunA.one (i := 9) (by kernel_rfl) (by kernel_rfl) ?_
        refine RunI.callP rfl (isCall_func rfl ent_31) rfl rfl rfl (fun w hm => rText_calls (j + 1) (by omega) w) (RunK.toA (.cons .here rfl .nil) (.cons .here rfl .nil) rfl ?_)
        refine RunA.val (i := 19) rfl (by kernel_rfl) (by kernel_rfl) (Val.build (parts := [(0, .tmp 30), (1, .tmp 33), (2, .tmp 42)]) rfl zero_56 places_56 rfl) rfl rfl rfl (fun _ _ _ h => h) (.cons .here rfl .nil) rfl ?_
        refine RunA.one (i := 20) (by kernel_rfl) (by kernel_rfl) ?_
        refine RunI.new rfl (New.buildSlice (parts := [(0, .tmp 43)]) rfl sl_53 zero_56 rfl rfl rfl rfl) rfl rfl rfl (fun b44 => (RunK.toA (.cons .here rfl (.cons .here rfl .nil)) (.cons (.there .here) rfl .nil) rfl ?_))
        refine RunA.toB (by kernel_rfl) ?_
        refine RunB.one (i := 21) (by kernel_rfl) ?_
        refine RunI.append (A := [(b44, _), (b1, _)]) (B := _) (x := y) (ys := (En.cells ⟨B.bx.colour, itoa (j + 1), S⟩)) rfl ap_53 rfl rfl rfl hy1 rfl (fun h => by cases h) (fun w hm => src_blk (hm.at (.head _))) (one_of (en_one _)) (by simp only [maxLen]; omega) (by omega) rfl (fun z45 hz45 => (RunK.toB ?_))
        refine RunB.one (i := 22) (by kernel_rfl) ?_
        refine RunI.val rfl (Val.pure rfl) rfl rfl rfl (RunK.toB ?_)
        refine RunB.done (by kernel_rfl) ?_
        exact RunE.joinX z45 (by rw [← flat_snoc, hlen2]; exact hz45) rfl (Sub.consE (t := 3) rfl (by rw [hlen2]) (Sub.cons (t := 1) rfl (Sub.cons (t := 4) rfl (Sub.cons (t := 5) rfl (Sub.nil _))))) (.cons (.there .here) rfl (Pick.skip (Pick.same (by rw [← flat_snoc]))))
      · intro z zI
        have hx1 := zI
        refine RunE.block_normal ?_
        refine RunE.next ?_
        refine RunC.region ?_
        refine RunL.val (Val.pure rfl) rfl rfl rfl ?_
        refine RunL.val (Val.add rfl rfl (IntWalk.i64_in _ ⟨by omega, by omega⟩)) rfl rfl rfl ?_
        refine RunL.val (Val.pure rfl) rfl rfl rfl ?_
        refine RunL.nil ?_
        exact RunE.roundX z (by omega) (by rw [hS2]; exact hx1) rfl (Sub.consE (t := 5) rfl rfl (Sub.consE (t := 3) rfl (by rw [hS2]) (Sub.cons (t := 1) rfl (Sub.cons (t := 4) rfl (Sub.nil _))))) (.cons .here rfl (Pick.same (by rw [hS2])))
    · intro c1
      have c1' := c1; clear c1
      try simp only [decide_eq_true_eq, decide_eq_false_iff_not, Bool.not_eq_true', Bool.not_eq_false', Bool.and_eq_true, Bool.or_eq_true, Bool.and_eq_false_iff, Bool.or_eq_false_iff, Int.not_le, Int.not_lt] at c1'
      obtain rfl : j = B.bx.titles.length := by omega
      rw [List.take_length] at hy1
      simp only [List.take_length]
      refine RunC.exit ?_
      refine RunE.pass_exit ?_
      refine RunE.pass_exit ?_
      refine RunE.block_here ?_
      refine RunE.block_normal ?_
      refine RunE.next ?_
      refine RunC.region ?_
      refine RunL.val (Val.pure rfl) rfl rfl rfl ?_
      refine RunL.val (Val.add rfl rfl (IntWalk.i64_in _ ⟨by omega, by omega⟩)) rfl rfl rfl ?_
      refine RunL.val (Val.pure rfl) rfl rfl rfl ?_
      refine RunL.nil ?_
      exact RunE.roundX y (by omega) (by rw [enK_snoc hk hB]; exact hy1) rfl (Sub.consE (t := 4) rfl rfl (Sub.consE (t := 3) rfl (by rw [enK_snoc hk hB]) (Sub.cons (t := 1) rfl (Sub.nil _)))) (.cons .here rfl (Pick.same (by rw [enK_snoc hk hB])))
  · intro c0
    have c0' := c0; clear c0
    try simp only [decide_eq_true_eq, decide_eq_false_iff_not, Bool.not_eq_true', Bool.not_eq_false', Bool.and_eq_true, Bool.or_eq_true, Bool.and_eq_false_iff, Bool.or_eq_false_iff, Int.not_le, Int.not_lt] at c0'
    obtain rfl : k = m.bxs.length := by omega
    rw [enK_all] at hx1
    have y1 : ownV x (esX m).length = .slice (ownQ x) (esX m).length (ownC x) := ownV_slice hx1
    simp only [enK_all, y1]
    refine RunC.exit ?_
    refine RunE.pass_exit ?_
    refine RunE.pass_exit ?_
    refine RunE.block_here ?_
    refine RunE.next ?_
    refine RunC.seq ?_
    refine RunC.region ?_
    refine RunL.val (Val.pure rfl) rfl rfl rfl ?_
    refine RunL.val (Val.pure rfl) rfl rfl rfl ?_
    refine RunL.nil ?_
    refine RunE.next ?_
    refine RunC.ret ?_
    exact RunE.ret (chg := []) (.r1 rfl (.tmp rfl)) (fun _ hm => ⟨⟨x, hx1⟩, rfl, hm.pick (Pick.skip (Pick.refl _))⟩)
theorem first_ok (m : MxA) (hsm : MSm m) (W : World) (hM : MOk W m) (hw : waysE m.pl = 0) : Calls Tryd.prog 23 #[m.v] W
    (News (fun z : IO (natI (firstL (esX m).length (fsX m.pl) 0)) => .tuple #[.slice (ownQ z.1) m.cards.length (ownC z.1), .int .i64 0]) (fun z => ownB 3 z.1 (intsW (natI (firstL (esX m).length (fsX m.pl) 0))).flatten ++ []) W) := by
  have h1 := first_calls m hsm W hM hw
  have e : (FirstX m.pl).1 = natI (firstL (esX m).length (fsX m.pl) 0) := by unfold FirstX; rw [if_pos hw]; rfl
  obtain ⟨hX, h0⟩ := ways_ok hw
  have hl : (natI (firstL (esX m).length (fsX m.pl) 0)).length = m.cards.length := by
    rw [natI_len, (first_way (ne := (esX m).length) (fs := fsX m.pl) (u := 0) (Nat.pos_of_ne_zero h0)).len, fs_len]
  rw [e] at h1
  refine calls_mono h1 ?_
  rintro ed w' ⟨z, rfl, hm⟩
  exact ⟨z, by show Ending.returned (.tuple #[ownV z.1 (natI (firstL (esX m).length (fsX m.pl) 0)).length, .int .i64 0]) = _; rw [ownV_slice z.2]; exact congrArg (fun n => Ending.returned (Value.tuple #[.slice (ownQ z.1) n (ownC z.1), .int .i64 0])) hl, hm⟩
theorem hfirst_far (m : MxA) (ys : Str) (q : Option Addr) (b o cap : Nat) (W : World) (hM : MOk W m) (hf : farX m.pl = true ∨ ys.length = 0) : Calls Tryd.prog 8 #[m.v, .slice q ys.length cap] W (Pure (.bool true) W) := by
  refine calls_start Tryd.func8 rfl rfl ?_
  refine RunC.seq ?_
  refine RunC.region ?_
  refine RunL.new (New.box rfl) rfl rfl rfl (fun b2 => ?_)
  refine RunL.val (Val.pure rfl) rfl rfl rfl ?_
  refine RunL.nil ?_
  refine RunE.next ?_
  refine RunC.seq ?_
  refine RunC.seq ?_
  refine RunC.region ?_
  refine RunL.val (Val.load_agg rfl (.head _) ty_25 rfl) rfl rfl rfl ?_
  refine RunL.callP (isCall_func rfl ent_12) rfl rfl rfl (fun w hm => far_calls m w (hM.mono0 hm)) ?_
  refine RunL.val (Val.pure rfl) rfl rfl rfl ?_
  refine RunL.orPart (dj := 24) (dp := 28) 4 rfl (fun g24 => by
    have g24' := g24
    try simp only [decide_eq_true_eq, decide_eq_false_iff_not, Bool.not_eq_true', Bool.not_eq_false', Bool.and_eq_true, Bool.or_eq_true, Bool.and_eq_false_iff, Bool.or_eq_false_iff, Int.not_le, Int.not_lt] at g24'
    refine RunL.val (Val.pure rfl) rfl rfl rfl ?_
    refine RunL.val (Val.len_sl rfl sl_47) rfl rfl rfl ?_
    refine RunL.val (Val.pure rfl) rfl rfl rfl ?_
    refine RunL.val (Val.pure rfl) rfl rfl rfl ?_
    exact RunL.segEnd (Sub.cons rfl (Sub.skip rfl (Sub.skip rfl (Sub.skip rfl (Sub.skip rfl (Sub.same rfl (by rw [g24]) (Sub.refl _))))))) (List.Sublist.refl _)
  ) (fun g24 => by
    have g24' := g24
    try simp only [decide_eq_true_eq, decide_eq_false_iff_not, Bool.not_eq_true', Bool.not_eq_false', Bool.and_eq_true, Bool.or_eq_true, Bool.and_eq_false_iff, Bool.or_eq_false_iff, Int.not_le, Int.not_lt] at g24'
    iterate 3 refine RunL.no rfl rfl rfl ?_
    refine RunL.val (Val.pure rfl) rfl rfl rfl ?_
    exact RunL.segEnd (Sub.cons rfl (Sub.skip rfl (Sub.skip rfl (Sub.skip rfl (Sub.skip rfl (Sub.same rfl (by rw [g24]) (Sub.refl _))))))) (List.Sublist.refl _)
  ) ?_
  refine RunL.nil ?_
  refine RunE.next ?_
  refine RunC.cond rfl ?_ (fun h => absurd h (by rcases hf with h | h <;> simp [h]))
  intro c0
  clear c0
  refine RunC.seq ?_
  refine RunC.region ?_
  refine RunL.callP (isCall_func rfl ent_13) rfl rfl rfl (fun w hm => hawake_calls w) ?_
  refine RunL.val (Val.pure rfl) rfl rfl rfl ?_
  refine RunL.nil ?_
  refine RunE.next ?_
  refine RunC.ret ?_
  refine RunE.pass_ret ?_
  exact RunE.retP (.r1 rfl (.tmp rfl)) (by first | rfl | simp)
theorem hfirst_bad (m : MxA) (ys : Str) (q : Option Addr) (b o cap : Nat) (W : World) (hM : MOk W m) (hf : farX m.pl = false) (hy : 0 < ys.length) (hyl : ys.length ≤ 9223372036854775807) (hX : mixedX m.pl = false) : Calls Tryd.prog 8 #[m.v, .slice q ys.length cap] W (Pure (.bool true) W) := by
  have hsm := far_sm hf
  have hw : waysE m.pl = 1 := by unfold waysE; rw [hX]; rfl
  have e1 : CountX m.pl = (0, 1) := by unfold CountX; rw [hX]; rfl
  have e2 : WhyX m.pl = (0, 1) := by unfold WhyX; rw [hX]; rfl
  refine calls_start Tryd.func8 rfl rfl ?_
  refine RunC.seq ?_
  refine RunC.region ?_
  refine RunL.new (New.box rfl) rfl rfl rfl (fun b2 => ?_)
  refine RunL.val (Val.pure rfl) rfl rfl rfl ?_
  refine RunL.nil ?_
  refine RunE.next ?_
  refine RunC.seq ?_
  refine RunC.seq ?_
  refine RunC.region ?_
  refine RunL.val (Val.load_agg rfl (.head _) ty_25 rfl) rfl rfl rfl ?_
  refine RunL.callP (isCall_func rfl ent_12) rfl rfl rfl (fun w hm => far_calls m w (hM.mono0 hm)) ?_
  refine RunL.val (Val.pure rfl) rfl rfl rfl ?_
  refine RunL.sure (dj := 24) false rfl (by simp [hf]) ?_
  refine RunL.val (Val.pure rfl) rfl rfl rfl ?_
  refine RunL.val (Val.len_sl rfl sl_47) rfl rfl rfl ?_
  refine RunL.val (Val.pure rfl) rfl rfl rfl ?_
  refine RunL.val (Val.pure rfl) rfl rfl rfl ?_
  refine RunL.nil ?_
  refine RunE.next ?_
  refine RunC.cond rfl (fun h => absurd h (by simp [hf, List.length_pos_iff.1 hy])) ?_
  intro c0
  clear c0
  refine RunC.skip ?_
  refine RunE.next ?_
  refine RunC.seq ?_
  refine RunC.region ?_
  refine RunL.val (Val.load_agg rfl (.head _) ty_25 rfl) rfl rfl rfl ?_
  refine RunL.callP (isCall_func rfl ent_23) rfl rfl rfl (fun w hm => (by have h9 := first_err m hsm w (hM.mono0 hm) (by rw [hw]; decide); rw [hw] at h9; exact h9)) ?_
  iterate 5 refine RunL.val (Val.pure rfl) rfl rfl rfl ?_
  refine RunL.nil ?_
  refine RunE.next ?_
  refine RunC.seq ?_
  refine RunC.region ?_
  refine RunL.val (Val.load_agg rfl (.head _) ty_25 rfl) rfl rfl rfl ?_
  refine RunL.callP (isCall_func rfl ent_19) rfl rfl rfl (fun w hm => (by have h9 := counth_calls m hsm w (hM.mono0 hm); rw [e1] at h9; exact h9)) ?_
  iterate 5 refine RunL.val (Val.pure rfl) rfl rfl rfl ?_
  refine RunL.nil ?_
  refine RunE.next ?_
  refine RunC.seq ?_
  refine RunC.region ?_
  refine RunL.val (Val.load_agg rfl (.head _) ty_25 rfl) rfl rfl rfl ?_
  refine RunL.callP (isCall_func rfl ent_16) rfl rfl rfl (fun w hm => (by have h9 := why_calls m hsm w (hM.mono0 hm); rw [e2] at h9; exact h9)) ?_
  iterate 5 refine RunL.val (Val.pure rfl) rfl rfl rfl ?_
  refine RunL.nil ?_
  refine RunE.next ?_
  refine RunC.seq ?_
  refine RunC.seq ?_
  refine RunC.region ?_
  iterate 3 refine RunL.val (Val.pure rfl) rfl rfl rfl ?_
  refine RunL.sure (dj := 47) true rfl (by simp [hX]) ?_
  iterate 3 refine RunL.no rfl rfl rfl ?_
  refine RunL.val (Val.pure rfl) rfl rfl rfl ?_
  refine RunL.nil ?_
  refine RunE.next ?_
  refine RunC.cond rfl ?_ (fun h => absurd h (by simp))
  intro c1
  clear c1
  refine RunC.seq ?_
  refine RunC.region ?_
  refine RunL.val (Val.pure rfl) rfl rfl rfl ?_
  refine RunL.val (Val.len_sl rfl sl_34) rfl rfl rfl ?_
  refine RunL.val (Val.pure rfl) rfl rfl rfl ?_
  refine RunL.val (Val.pure rfl) rfl rfl rfl ?_
  refine RunL.sure (dj := 55) true rfl (by simp [hX]) ?_
  iterate 4 refine RunL.val (Val.pure rfl) rfl rfl rfl ?_
  refine RunL.sure (dj := 59) true rfl (by simp [hX]) ?_
  iterate 5 refine RunL.val (Val.pure rfl) rfl rfl rfl ?_
  refine RunL.sure (dj := 64) true rfl (by simp [hX]) ?_
  iterate 5 refine RunL.val (Val.pure rfl) rfl rfl rfl ?_
  refine RunL.sure (dj := 69) true rfl (by simp [hX]) ?_
  iterate 4 refine RunL.val (Val.pure rfl) rfl rfl rfl ?_
  refine RunL.sure (dj := 73) true rfl (by simp [hX]) ?_
  iterate 4 refine RunL.val (Val.pure rfl) rfl rfl rfl ?_
  refine RunL.sure (dj := 77) true rfl (by simp [hX]) ?_
  refine RunL.val (Val.load_agg rfl (.head _) ty_25 rfl) rfl rfl rfl ?_
  refine RunL.callP (isCall_func rfl ent_33) rfl rfl rfl (fun w hm => rMixed_calls m hsm w (hM.mono0 hm)) ?_
  iterate 3 refine RunL.val (Val.pure rfl) rfl rfl rfl ?_
  refine RunL.sure (dj := 82) true rfl (by simp [hX]) ?_
  refine RunL.callP (isCall_func rfl ent_13) rfl rfl rfl (fun w hm => hawake_calls w) ?_
  refine RunL.val (Val.pure rfl) rfl rfl rfl ?_
  refine RunL.val (Val.pure rfl) rfl rfl rfl ?_
  refine RunL.nil ?_
  refine RunE.next ?_
  refine RunC.ret ?_
  refine RunE.pass_ret ?_
  exact RunE.retP (.r1 rfl (.tmp rfl)) (by first | rfl | simp)
set_option maxHeartbeats 1000000 in
theorem hfirst_none (m : MxA) (ys : Str) (q : Option Addr) (b o cap : Nat) (W : World) (hM : MOk W m) (hS : Sl W q b o 1 (bytesV ys)) (hf : farX m.pl = false) (hy : 0 < ys.length) (hyl : ys.length ≤ 9223372036854775807) (hX : mixedX m.pl = true) (h0 : cntX m.pl = 0) : Calls Tryd.prog 8 #[m.v, .slice q ys.length cap] W (Pure (.bool true) W) := by
  have hsm := far_sm hf
  obtain ⟨h4, h8, h12⟩ := mixed_ok hX
  have hfl := fs_len m
  have hall := fs12 hX
  have hw : waysE m.pl = 4 := by unfold waysE; rw [if_pos hX, if_pos h0]
  have e1 : CountX m.pl = (0, 0) := by unfold CountX; rw [if_pos hX, h0]; rfl
  obtain ⟨s, e, hI, hW⟩ := why_is hX
  have he : e = 11 := by
    have h1 := why_cnt hX hI
    rcases hI.se with ⟨_, h2⟩ | ⟨_, h2, _⟩ <;> omega
  subst he
  have hno : ∀ (own : List Nat) (ot : Nat), PW (esX m).length (fsX m.pl) own ot → own.length < m.cards.length := fun own ot h => by
    have h1 := h.le
    rcases Nat.lt_or_ge own.length m.cards.length with h2 | h2
    · exact h2
    · have h3 := way_pos (h.way (by omega))
      have h5 : cntL (esX m).length (fsX m.pl) 0 = cntX m.pl := rfl
      omega
  refine calls_start Tryd.func8 rfl rfl ?_
  refine RunC.seq ?_
  refine RunC.region ?_
  refine RunL.new (New.box rfl) rfl rfl rfl (fun b2 => ?_)
  refine RunL.val (Val.pure rfl) rfl rfl rfl ?_
  refine RunL.nil ?_
  refine RunE.next ?_
  refine RunC.seq ?_
  refine RunC.seq ?_
  refine RunC.region ?_
  refine RunL.val (Val.load_agg rfl (.head _) ty_25 rfl) rfl rfl rfl ?_
  refine RunL.callP (isCall_func rfl ent_12) rfl rfl rfl (fun w hm => far_calls m w (hM.mono0 hm)) ?_
  refine RunL.val (Val.pure rfl) rfl rfl rfl ?_
  refine RunL.orPart (dj := 24) (dp := 28) 4 rfl (fun g24 => by
    have g24' := g24
    try simp only [decide_eq_true_eq, decide_eq_false_iff_not, Bool.not_eq_true', Bool.not_eq_false', Bool.and_eq_true, Bool.or_eq_true, Bool.and_eq_false_iff, Bool.or_eq_false_iff, Int.not_le, Int.not_lt] at g24'
    refine RunL.val (Val.pure rfl) rfl rfl rfl ?_
    refine RunL.val (Val.len_sl rfl sl_47) rfl rfl rfl ?_
    refine RunL.val (Val.pure rfl) rfl rfl rfl ?_
    refine RunL.val (Val.pure rfl) rfl rfl rfl ?_
    exact RunL.segEnd (Sub.cons rfl (Sub.skip rfl (Sub.skip rfl (Sub.skip rfl (Sub.skip rfl (Sub.same rfl (by rw [g24]) (Sub.refl _))))))) (List.Sublist.refl _)
  ) (fun g24 => by
    have g24' := g24
    try simp only [decide_eq_true_eq, decide_eq_false_iff_not, Bool.not_eq_true', Bool.not_eq_false', Bool.and_eq_true, Bool.or_eq_true, Bool.and_eq_false_iff, Bool.or_eq_false_iff, Int.not_le, Int.not_lt] at g24'
    iterate 3 refine RunL.no rfl rfl rfl ?_
    refine RunL.val (Val.pure rfl) rfl rfl rfl ?_
    exact RunL.segEnd (Sub.cons rfl (Sub.skip rfl (Sub.skip rfl (Sub.skip rfl (Sub.skip rfl (Sub.same rfl (by rw [g24]) (Sub.refl _))))))) (List.Sublist.refl _)
  ) ?_
  refine RunL.nil ?_
  refine RunE.next ?_
  refine RunC.cond rfl (fun h => absurd h (by simp [hf, List.length_pos_iff.1 hy])) ?_
  intro c0
  clear c0
  refine RunC.skip ?_
  refine RunE.next ?_
  refine RunC.seq ?_
  refine RunC.region ?_
  refine RunL.val (Val.load_agg rfl (.head _) ty_25 rfl) rfl rfl rfl ?_
  refine RunL.callP (isCall_func rfl ent_23) rfl rfl rfl (fun w hm => (by have h9 := first_err m hsm w (hM.mono0 hm) (by rw [hw]; decide); rw [hw] at h9; exact h9)) ?_
  iterate 5 refine RunL.val (Val.pure rfl) rfl rfl rfl ?_
  refine RunL.nil ?_
  refine RunE.next ?_
  refine RunC.seq ?_
  refine RunC.region ?_
  refine RunL.val (Val.load_agg rfl (.head _) ty_25 rfl) rfl rfl rfl ?_
  refine RunL.callP (isCall_func rfl ent_19) rfl rfl rfl (fun w hm => (by have h9 := counth_calls m hsm w (hM.mono0 hm); rw [e1] at h9; exact h9)) ?_
  iterate 5 refine RunL.val (Val.pure rfl) rfl rfl rfl ?_
  refine RunL.nil ?_
  refine RunE.next ?_
  refine RunC.seq ?_
  refine RunC.region ?_
  refine RunL.val (Val.load_agg rfl (.head _) ty_25 rfl) rfl rfl rfl ?_
  refine RunL.callP (isCall_func rfl ent_16) rfl rfl rfl (fun w hm => (by have h9 := why_calls m hsm w (hM.mono0 hm); rw [hW] at h9; exact h9)) ?_
  iterate 5 refine RunL.val (Val.pure rfl) rfl rfl rfl ?_
  refine RunL.nil ?_
  refine RunE.next ?_
  refine RunC.seq ?_
  refine RunC.seq ?_
  refine RunC.region ?_
  iterate 3 refine RunL.val (Val.pure rfl) rfl rfl rfl ?_
  refine RunL.orPart (dj := 47) (dp := 51) 4 rfl (fun g47 => by
    have g47' := g47
    try simp only [decide_eq_true_eq, decide_eq_false_iff_not, Bool.not_eq_true', Bool.not_eq_false', Bool.and_eq_true, Bool.or_eq_true, Bool.and_eq_false_iff, Bool.or_eq_false_iff, Int.not_le, Int.not_lt] at g47'
    refine RunL.val (Val.load_agg rfl (.head _) ty_25 rfl) rfl rfl rfl ?_
    refine RunL.callP (isCall_func rfl ent_33) rfl rfl rfl (fun w hm => rMixed_calls m hsm w (hM.mono0 hm)) ?_
    refine RunL.val (Val.pure rfl) rfl rfl rfl ?_
    refine RunL.val (Val.pure rfl) rfl rfl rfl ?_
    exact RunL.segEnd (Sub.cons rfl (Sub.skip rfl (Sub.skip rfl (Sub.skip rfl (Sub.skip rfl (Sub.same rfl (by rw [g47]) (Sub.refl _))))))) (List.Sublist.refl _)
  ) (fun g47 => by
    have g47' := g47
    try simp only [decide_eq_true_eq, decide_eq_false_iff_not, Bool.not_eq_true', Bool.not_eq_false', Bool.and_eq_true, Bool.or_eq_true, Bool.and_eq_false_iff, Bool.or_eq_false_iff, Int.not_le, Int.not_lt] at g47'
    iterate 3 refine RunL.no rfl rfl rfl ?_
    refine RunL.val (Val.pure rfl) rfl rfl rfl ?_
    exact RunL.segEnd (Sub.cons rfl (Sub.skip rfl (Sub.skip rfl (Sub.skip rfl (Sub.skip rfl (Sub.same rfl (by rw [g47]) (Sub.refl _))))))) (List.Sublist.refl _)
  ) ?_
  refine RunL.nil ?_
  refine RunE.next ?_
  refine RunC.cond rfl (fun h => absurd h (by simp [hX])) ?_
  intro c1
  clear c1
  refine RunC.skip ?_
  refine RunE.next ?_
  refine RunC.seq ?_
  refine RunC.seq ?_
  refine RunC.region ?_
  iterate 3 refine RunL.val (Val.pure rfl) rfl rfl rfl ?_
  refine RunL.orPart (dj := 87) (dp := 93) 6 rfl (fun g87 => by
    have g87' := g87
    try simp only [decide_eq_true_eq, decide_eq_false_iff_not, Bool.not_eq_true', Bool.not_eq_false', Bool.and_eq_true, Bool.or_eq_true, Bool.and_eq_false_iff, Bool.or_eq_false_iff, Int.not_le, Int.not_lt] at g87'
    iterate 4 refine RunL.val (Val.pure rfl) rfl rfl rfl ?_
    refine RunL.val (Val.neq_bool rfl rfl boolB_4) rfl rfl rfl ?_
    refine RunL.val (Val.pure rfl) rfl rfl rfl ?_
    exact RunL.segEnd (Sub.cons rfl (Sub.skip rfl (Sub.skip rfl (Sub.skip rfl (Sub.skip rfl (Sub.skip rfl (Sub.skip rfl (Sub.same rfl (by rw [g87]) (Sub.refl _))))))))) (List.Sublist.refl _)
  ) (fun g87 => by
    have g87' := g87
    try simp only [decide_eq_true_eq, decide_eq_false_iff_not, Bool.not_eq_true', Bool.not_eq_false', Bool.and_eq_true, Bool.or_eq_true, Bool.and_eq_false_iff, Bool.or_eq_false_iff, Int.not_le, Int.not_lt] at g87'
    iterate 5 refine RunL.no rfl rfl rfl ?_
    refine RunL.val (Val.pure rfl) rfl rfl rfl ?_
    exact RunL.segEnd (Sub.cons rfl (Sub.skip rfl (Sub.skip rfl (Sub.skip rfl (Sub.skip rfl (Sub.skip rfl (Sub.skip rfl (Sub.same rfl (by rw [g87]) (Sub.refl _))))))))) (List.Sublist.refl _)
  ) ?_
  refine RunL.val (Val.pure rfl) rfl rfl rfl ?_
  refine RunL.orPart (dj := 94) (dp := 100) 6 rfl (fun g94 => by
    have g94' := g94
    try simp only [decide_eq_true_eq, decide_eq_false_iff_not, Bool.not_eq_true', Bool.not_eq_false', Bool.and_eq_true, Bool.or_eq_true, Bool.and_eq_false_iff, Bool.or_eq_false_iff, Int.not_le, Int.not_lt] at g94'
    iterate 4 refine RunL.val (Val.pure rfl) rfl rfl rfl ?_
    refine RunL.val (Val.neq_bool rfl rfl boolB_4) rfl rfl rfl ?_
    refine RunL.val (Val.pure rfl) rfl rfl rfl ?_
    exact RunL.segEnd (Sub.cons rfl (Sub.skip rfl (Sub.skip rfl (Sub.skip rfl (Sub.skip rfl (Sub.skip rfl (Sub.skip rfl (Sub.same rfl (by rw [g94]) (Sub.refl _))))))))) (List.Sublist.refl _)
  ) (fun g94 => by
    have g94' := g94
    try simp only [decide_eq_true_eq, decide_eq_false_iff_not, Bool.not_eq_true', Bool.not_eq_false', Bool.and_eq_true, Bool.or_eq_true, Bool.and_eq_false_iff, Bool.or_eq_false_iff, Int.not_le, Int.not_lt] at g94'
    iterate 5 refine RunL.no rfl rfl rfl ?_
    refine RunL.val (Val.pure rfl) rfl rfl rfl ?_
    exact RunL.segEnd (Sub.cons rfl (Sub.skip rfl (Sub.skip rfl (Sub.skip rfl (Sub.skip rfl (Sub.skip rfl (Sub.skip rfl (Sub.same rfl (by rw [g94]) (Sub.refl _))))))))) (List.Sublist.refl _)
  ) ?_
  refine RunL.val (Val.pure rfl) rfl rfl rfl ?_
  refine RunL.orPart (dj := 101) (dp := 113) 12 rfl (fun g101 => by
    have g101' := g101
    try simp only [decide_eq_true_eq, decide_eq_false_iff_not, Bool.not_eq_true', Bool.not_eq_false', Bool.and_eq_true, Bool.or_eq_true, Bool.and_eq_false_iff, Bool.or_eq_false_iff, Int.not_le, Int.not_lt] at g101'
    iterate 3 refine RunL.val (Val.pure rfl) rfl rfl rfl ?_
    refine RunL.andPart (dj := 104) (dp := 112) 8 rfl (fun g104 => by
      have g104' := g104
      try simp only [decide_eq_true_eq, decide_eq_false_iff_not, Bool.not_eq_true', Bool.not_eq_false', Bool.and_eq_true, Bool.or_eq_true, Bool.and_eq_false_iff, Bool.or_eq_false_iff, Int.not_le, Int.not_lt] at g104'
      iterate 3 refine RunL.val (Val.pure rfl) rfl rfl rfl ?_
      refine RunL.orPart (dj := 107) (dp := 111) 4 rfl (fun g107 => by
        have g107' := g107
        try simp only [decide_eq_true_eq, decide_eq_false_iff_not, Bool.not_eq_true', Bool.not_eq_false', Bool.and_eq_true, Bool.or_eq_true, Bool.and_eq_false_iff, Bool.or_eq_false_iff, Int.not_le, Int.not_lt] at g107'
        refine RunL.val (Val.pure rfl) rfl rfl rfl ?_
        refine RunL.val (Val.len_sl rfl sl_34) rfl rfl rfl ?_
        refine RunL.val (Val.pure rfl) rfl rfl rfl ?_
        refine RunL.val (Val.pure rfl) rfl rfl rfl ?_
        exact RunL.segEnd (Sub.cons rfl (Sub.skip rfl (Sub.skip rfl (Sub.skip rfl (Sub.skip rfl (Sub.same rfl (by rw [g107]) (Sub.refl _))))))) (List.Sublist.refl _)
      ) (fun g107 => by
        have g107' := g107
        try simp only [decide_eq_true_eq, decide_eq_false_iff_not, Bool.not_eq_true', Bool.not_eq_false', Bool.and_eq_true, Bool.or_eq_true, Bool.and_eq_false_iff, Bool.or_eq_false_iff, Int.not_le, Int.not_lt] at g107'
        iterate 3 refine RunL.no rfl rfl rfl ?_
        refine RunL.val (Val.pure rfl) rfl rfl rfl ?_
        exact RunL.segEnd (Sub.cons rfl (Sub.skip rfl (Sub.skip rfl (Sub.skip rfl (Sub.skip rfl (Sub.same rfl (by rw [g107]) (Sub.refl _))))))) (List.Sublist.refl _)
      ) ?_
      refine RunL.val (Val.pure rfl) rfl rfl rfl ?_
      exact RunL.segEnd (Sub.cons rfl (Sub.skip rfl (Sub.skip rfl (Sub.skip rfl (Sub.skip rfl (Sub.skip rfl (Sub.same rfl (by rw [g104]) (Sub.refl _)))))))) (List.Sublist.refl _)
    ) (fun g104 => by
      have g104' := g104
      try simp only [decide_eq_true_eq, decide_eq_false_iff_not, Bool.not_eq_true', Bool.not_eq_false', Bool.and_eq_true, Bool.or_eq_true, Bool.and_eq_false_iff, Bool.or_eq_false_iff, Int.not_le, Int.not_lt] at g104'
      iterate 7 refine RunL.no rfl rfl rfl ?_
      refine RunL.val (Val.pure rfl) rfl rfl rfl ?_
      exact RunL.segEnd (Sub.cons rfl (Sub.skip rfl (Sub.skip rfl (Sub.skip rfl (Sub.skip rfl (Sub.skip rfl (Sub.skip rfl (Sub.skip rfl (Sub.skip rfl (Sub.same rfl (by rw [g104]) (Sub.refl _))))))))))) (List.Sublist.refl _)
    ) ?_
    refine RunL.val (Val.pure rfl) rfl rfl rfl ?_
    exact RunL.segEnd (Sub.cons rfl (Sub.skip rfl (Sub.skip rfl (Sub.skip rfl (Sub.skip rfl (Sub.skip rfl (Sub.same rfl (by rw [g101]) (Sub.refl _)))))))) (List.Sublist.refl _)
  ) (fun g101 => by
    have g101' := g101
    try simp only [decide_eq_true_eq, decide_eq_false_iff_not, Bool.not_eq_true', Bool.not_eq_false', Bool.and_eq_true, Bool.or_eq_true, Bool.and_eq_false_iff, Bool.or_eq_false_iff, Int.not_le, Int.not_lt] at g101'
    iterate 11 refine RunL.no rfl rfl rfl ?_
    refine RunL.val (Val.pure rfl) rfl rfl rfl ?_
    exact RunL.segEnd (Sub.cons rfl (Sub.skip rfl (Sub.skip rfl (Sub.skip rfl (Sub.skip rfl (Sub.skip rfl (Sub.skip rfl (Sub.skip rfl (Sub.skip rfl (Sub.skip rfl (Sub.skip rfl (Sub.skip rfl (Sub.skip rfl (Sub.same rfl (by rw [g101]) (Sub.refl _))))))))))))))) (List.Sublist.refl _)
  ) ?_
  refine RunL.val (Val.pure rfl) rfl rfl rfl ?_
  refine RunL.orPart (dj := 114) (dp := 125) 11 rfl (fun g114 => by
    have g114' := g114
    try simp only [decide_eq_true_eq, decide_eq_false_iff_not, Bool.not_eq_true', Bool.not_eq_false', Bool.and_eq_true, Bool.or_eq_true, Bool.and_eq_false_iff, Bool.or_eq_false_iff, Int.not_le, Int.not_lt] at g114'
    iterate 3 refine RunL.val (Val.pure rfl) rfl rfl rfl ?_
    refine RunL.andPart (dj := 117) (dp := 124) 7 rfl (fun g117 => by
      have g117' := g117
      try simp only [decide_eq_true_eq, decide_eq_false_iff_not, Bool.not_eq_true', Bool.not_eq_false', Bool.and_eq_true, Bool.or_eq_true, Bool.and_eq_false_iff, Bool.or_eq_false_iff, Int.not_le, Int.not_lt] at g117'
      refine RunL.val (Val.pure rfl) rfl rfl rfl ?_
      refine RunL.val (Val.len_sl rfl sl_34) rfl rfl rfl ?_
      refine RunL.val (Val.fieldAddr rfl fld_25_1) rfl rfl rfl ?_
      refine RunL.val (Val.load_one rfl (.head _) ty_23 rfl) rfl rfl rfl ?_
      refine RunL.val (Val.len_sl rfl sl_23) rfl rfl rfl ?_
      refine RunL.val (Val.pure rfl) rfl rfl rfl ?_
      refine RunL.val (Val.pure rfl) rfl rfl rfl ?_
      exact RunL.segEnd (Sub.cons rfl (Sub.skip rfl (Sub.skip rfl (Sub.skip rfl (Sub.skip rfl (Sub.skip rfl (Sub.skip rfl (Sub.skip rfl (Sub.same rfl (by rw [g117]) (Sub.refl _)))))))))) (List.Sublist.refl _)
    ) (fun g117 => by
      have g117' := g117
      try simp only [decide_eq_true_eq, decide_eq_false_iff_not, Bool.not_eq_true', Bool.not_eq_false', Bool.and_eq_true, Bool.or_eq_true, Bool.and_eq_false_iff, Bool.or_eq_false_iff, Int.not_le, Int.not_lt] at g117'
      iterate 6 refine RunL.no rfl rfl rfl ?_
      refine RunL.val (Val.pure rfl) rfl rfl rfl ?_
      exact RunL.segEnd (Sub.cons rfl (Sub.skip rfl (Sub.skip rfl (Sub.skip rfl (Sub.skip rfl (Sub.skip rfl (Sub.skip rfl (Sub.skip rfl (Sub.same rfl (by rw [g117]) (Sub.refl _)))))))))) (List.Sublist.refl _)
    ) ?_
    refine RunL.val (Val.pure rfl) rfl rfl rfl ?_
    exact RunL.segEnd (Sub.cons rfl (Sub.skip rfl (Sub.skip rfl (Sub.skip rfl (Sub.skip rfl (Sub.skip rfl (Sub.same rfl (by rw [g114]) (Sub.refl _)))))))) (List.Sublist.refl _)
  ) (fun g114 => by
    have g114' := g114
    try simp only [decide_eq_true_eq, decide_eq_false_iff_not, Bool.not_eq_true', Bool.not_eq_false', Bool.and_eq_true, Bool.or_eq_true, Bool.and_eq_false_iff, Bool.or_eq_false_iff, Int.not_le, Int.not_lt] at g114'
    iterate 10 refine RunL.no rfl rfl rfl ?_
    refine RunL.val (Val.pure rfl) rfl rfl rfl ?_
    exact RunL.segEnd (Sub.cons rfl (Sub.skip rfl (Sub.skip rfl (Sub.skip rfl (Sub.skip rfl (Sub.skip rfl (Sub.skip rfl (Sub.skip rfl (Sub.skip rfl (Sub.skip rfl (Sub.skip rfl (Sub.skip rfl (Sub.same rfl (by rw [g114]) (Sub.refl _)))))))))))))) (List.Sublist.refl _)
  ) ?_
  refine RunL.nil ?_
  refine RunE.next ?_
  refine RunC.cond rfl (fun h => absurd h (by simp)) ?_
  intro c2
  clear c2
  refine RunC.skip ?_
  refine RunE.next ?_
  refine RunC.seq ?_
  refine RunC.region ?_
  refine RunL.val (Val.load_agg rfl (.head _) ty_25 rfl) rfl rfl rfl ?_
  refine RunL.callNT (isCall_func rfl ent_34) rfl rfl rfl (fun w hm => rEntries_calls m hsm hX w (hM.mono0 hm)) (fun z127 => ?_)
  obtain ⟨x127, hx127⟩ := z127
  dsimp only
  refine RunL.val (Val.len_sl rfl sl_53) rfl rfl rfl ?_
  refine RunL.val (Val.pure rfl) rfl rfl rfl ?_
  refine RunL.nil ?_
  refine RunE.next ?_
  refine RunC.seq ?_
  refine RunC.region ?_
  refine RunL.new (New.buildSlice0 sl_34) rfl rfl rfl (fun b129 => ?_)
  iterate 3 refine RunL.val (Val.pure rfl) rfl rfl rfl ?_
  refine RunL.nil ?_
  refine RunE.next ?_
  refine RunC.seq ?_
  refine RunC.seq ?_
  refine RunC.region ?_
  refine RunL.val (Val.fieldAddr rfl fld_25_1) rfl rfl rfl ?_
  refine RunL.val (Val.load_one rfl (.tail _ (.head _)) ty_23 rfl) rfl rfl rfl ?_
  refine RunL.val (Val.len_sl rfl sl_23) rfl rfl rfl ?_
  refine RunL.val (Val.pure rfl) rfl rfl rfl ?_
  refine RunL.nil ?_
  refine RunE.next ?_
  refine RunC.block ?_
  refine RunC.loopX (X := Eng.Own × List Nat × Nat) (n0 := [(b2, _)]) (m.cards.length) (fun k x q => (133, .int .i64 (k : Int)) :: (13, .int .i64 ((x.2.2 : Nat) : Int)) :: (14, ownV x.1 x.2.1.length) :: q) (fun _ _ => _) (fun k x => []) (fun k x => ownB 3 x.1 (intsW (natI x.2.1)).flatten ++ (ownB 56 x127 ((esX m).map En.cells).flatten ++ [])) (fun k x => OwnOk 1 x.1 x.2.1.length (intsW (natI x.2.1)).flatten ∧ PW (esX m).length (fsX m.pl) x.2.1 x.2.2 ∧ x.2.1.length ≤ k) (some (b129, 0, []), [], 0) ⟨OwnOk.empty, PW.nil _ _, Nat.le_refl _⟩ rfl (Sub.consE (t := 133) rfl rfl (Sub.consE (t := 13) rfl rfl (Sub.consE (t := 14) rfl rfl (Sub.cons (t := 1) rfl (Sub.cons (t := 2) rfl (Sub.cons (t := 5) rfl (Sub.cons (t := 6) rfl (Sub.cons (t := 11) rfl (Sub.cons (t := 12) rfl (Sub.cons (t := 132) rfl (Sub.nil _))))))))))) (.cons (.there .here) rfl (Pick.same (by rfl))) ?_
  intro k x kN kI
  obtain ⟨X1, own, ot⟩ := x
  obtain ⟨hx1, hpw, hle⟩ := kI
  dsimp only at hx1 hpw hle ⊢
  refine RunC.seq ?_
  refine RunC.region ?_
  refine RunL.val (Val.pure rfl) rfl rfl rfl ?_
  refine RunL.nil ?_
  refine RunE.next ?_
  refine RunC.seq ?_
  refine RunC.cond rfl ?_ ?_
  · intro c3
    have c3' := c3; clear c3
    try simp only [decide_eq_true_eq, decide_eq_false_iff_not, Bool.not_eq_true', Bool.not_eq_false', Bool.and_eq_true, Bool.or_eq_true, Bool.and_eq_false_iff, Bool.or_eq_false_iff, Int.not_le, Int.not_lt] at c3'
    have hk : k < m.cards.length := by omega
    have hk2 : k < (fsX m.pl).length := by omega
    obtain ⟨f, hf2⟩ : ∃ f, (fsX m.pl)[k] = f := ⟨_, rfl⟩
    have hf12 := hall f (hf2 ▸ List.getElem_mem hk2)
    obtain ⟨i, hi, hil⟩ := mod_at (k := k) hy
    obtain ⟨B, hB⟩ : ∃ B, ys[i] = B := ⟨_, rfl⟩
    have hB8 : B.toNat < 256 := UInt8.toNat_lt B
    refine RunC.skip ?_
    refine RunE.next ?_
    refine RunC.seq ?_
    refine RunC.block ?_
    refine RunC.seq ?_
    refine RunC.region ?_
    refine RunL.val (Val.pure rfl) rfl rfl rfl ?_
    refine RunL.val (Val.pure rfl) rfl rfl rfl ?_
    refine RunL.nil ?_
    refine RunE.next ?_
    refine RunC.seq ?_
    refine RunC.region ?_
    refine RunL.val (Val.load_agg rfl (.head _) ty_25 rfl) rfl rfl rfl ?_
    refine RunL.val (Val.pure rfl) rfl rfl rfl ?_
    refine RunL.callP (isCall_func rfl ent_14) rfl rfl rfl (fun w hm => (by have h9 := fits_calls m hsm (k : Int) w (hM.mono0 hm); rw [fits_at hX hk2 hf2] at h9; exact h9)) ?_
    iterate 5 refine RunL.val (Val.pure rfl) rfl rfl rfl ?_
    refine RunL.nil ?_
    refine RunE.next ?_
    refine RunC.seq ?_
    refine RunC.seq ?_
    refine RunC.region ?_
    refine RunL.val (Val.pure rfl) rfl rfl rfl ?_
    refine RunL.val (Val.pure rfl) rfl rfl rfl ?_
    refine RunL.nil ?_
    refine RunE.next ?_
    refine RunC.cond rfl (fun h => absurd h (by simp)) ?_
    intro c4
    clear c4
    refine RunC.skip ?_
    refine RunE.next ?_
    refine RunC.seq ?_
    refine RunC.seq ?_
    refine RunC.region ?_
    refine RunL.val (Val.pure rfl) rfl rfl rfl ?_
    refine RunL.val (Val.pure rfl) rfl rfl rfl ?_
    refine RunL.nil ?_
    refine RunE.next ?_
    refine RunC.cond rfl (fun h => absurd h (by simp)) ?_
    intro c5
    clear c5
    refine RunC.skip ?_
    refine RunE.next ?_
    refine RunC.seq ?_
    refine RunC.region ?_
    refine RunL.val (Val.pure rfl) rfl rfl rfl ?_
    refine RunL.val (Val.pure rfl) rfl rfl rfl ?_
    refine RunL.nil ?_
    refine RunE.next ?_
    refine RunC.block ?_
    refine RunC.loopX (X := Eng.Own × List Nat × Nat) (n0 := [(b2, _)]) ((esX m).length) (fun j y q => (179, .int .i64 (j : Int)) :: (13, .int .i64 ((y.2.2 : Nat) : Int)) :: (14, ownV y.1 y.2.1.length) :: q) (fun _ _ => _) (fun j y => []) (fun j y => ownB 3 y.1 (intsW (natI y.2.1)).flatten ++ (ownB 56 x127 ((esX m).map En.cells).flatten ++ [])) (fun j y => OwnOk 1 y.1 y.2.1.length (intsW (natI y.2.1)).flatten ∧ PW (esX m).length (fsX m.pl) y.2.1 y.2.2 ∧ y.2.1.length ≤ k + 1) (X1, own, ot) ⟨hx1, hpw, Nat.le_succ_of_le hle⟩ rfl (Sub.consE (t := 179) rfl rfl (Sub.consE (t := 13) rfl rfl (Sub.consE (t := 14) rfl rfl (Sub.cons (t := 1) rfl (Sub.cons (t := 2) rfl (Sub.cons (t := 5) rfl (Sub.cons (t := 6) rfl (Sub.cons (t := 11) rfl (Sub.cons (t := 12) rfl (Sub.cons (t := 132) rfl (Sub.cons (t := 133) rfl (Sub.cons (t := 15) rfl (Sub.cons (t := 16) rfl (Sub.cons (t := 178) rfl (Sub.nil _))))))))))))))) (.cons .here rfl (Pick.same rfl)) ?_
    intro j y jN jI
    obtain ⟨Y1, own2, ot2⟩ := y
    obtain ⟨hy1, hpw2, hle2⟩ := jI
    dsimp only at hy1 hpw2 hle2 ⊢
    refine RunC.seq ?_
    refine RunC.region ?_
    refine RunL.val (Val.pure rfl) rfl rfl rfl ?_
    refine RunL.nil ?_
    refine RunE.next ?_
    refine RunC.seq ?_
    refine RunC.cond rfl ?_ ?_
    · intro c7
      have c7' := c7; clear c7
      try simp only [decide_eq_true_eq, decide_eq_false_iff_not, Bool.not_eq_true', Bool.not_eq_false', Bool.and_eq_true, Bool.or_eq_true, Bool.and_eq_false_iff, Bool.or_eq_false_iff, Int.not_le, Int.not_lt] at c7'
      have hj : j < (esX m).length := by omega
      obtain ⟨J, hJ, hJl⟩ := mod_at (k := B.toNat + j) (show 0 < (esX m).length by omega)
      have hsk := Nat.shiftRight_le f J
      have hand := Nat.and_le_right (n := f >>> J) (m := 1)
      have hsk2 := Nat.shiftRight_le ot2 J
      have hand2 := Nat.and_le_right (n := ot2 >>> J) (m := 1)
      have hot2 := hpw2.lt
      have h2J : 2 ^ J < 2 ^ 12 := Nat.pow_lt_pow_right (by decide) (by omega)
      have hor := Nat.or_lt_two_pow hot2 h2J
      refine RunC.skip ?_
      refine RunE.next ?_
      refine RunC.seq ?_
      refine RunC.block ?_
      refine RunC.seq ?_
      refine RunC.region ?_
      refine RunL.val (Val.pure rfl) rfl rfl rfl ?_
      refine RunL.val (Val.pure rfl) rfl rfl rfl ?_
      refine RunL.nil ?_
      refine RunE.next ?_
      refine RunC.seq ?_
      refine RunC.region ?_
      iterate 3 refine RunL.val (Val.pure rfl) rfl rfl rfl ?_
      refine RunL.val (Val.len_sl rfl sl_47) rfl rfl rfl ?_
      refine RunL.val (Val.remN (a := k) (b := ys.length) rfl rfl hy) rfl rfl rfl ?_
      rw [hi]
      refine RunL.val (Val.indexAddr_slp rfl rfl sl_47 (by omega) (by omega) (hS.ptrM hil)) rfl rfl rfl ?_
      refine RunL.val (Val.load_gen rfl (fun w hm => hS.loadM1 (by decide) hm (by simp) ty_5 hil (v := byteV B) (by simp [hB]))) rfl rfl rfl ?_
      refine RunL.val (Val.convInt rfl und_5 und_3 (IntWalk.i64_in _ ⟨by omega, by omega⟩)) rfl rfl rfl ?_
      refine RunL.val (Val.pure rfl) rfl rfl rfl ?_
      refine RunL.val (Val.addN (a := B.toNat) (b := j) (B.toNat + j) rfl rfl rfl (i64_inN (by omega))) rfl rfl rfl ?_
      refine RunL.val (Val.pure rfl) rfl rfl rfl ?_
      refine RunL.val (Val.remN (a := B.toNat + j) (b := (esX m).length) rfl rfl (by omega)) rfl rfl rfl ?_
      refine RunL.val (Val.pure rfl) rfl rfl rfl ?_
      refine RunL.nil ?_
      refine RunE.next ?_
      refine RunC.seq ?_
      refine RunC.region ?_
      rw [hJ]
      refine RunL.val (Val.pure rfl) rfl rfl rfl ?_
      refine RunL.val (Val.len_own rfl sl_34 hy1) rfl rfl rfl ?_
      iterate 3 refine RunL.val (Val.pure rfl) rfl rfl rfl ?_
      refine RunL.andPart (dj := 198) (dp := 204) 6 rfl (fun g198 => by
        have g198' := g198
        try simp only [decide_eq_true_eq, decide_eq_false_iff_not, Bool.not_eq_true', Bool.not_eq_false', Bool.and_eq_true, Bool.or_eq_true, Bool.and_eq_false_iff, Bool.or_eq_false_iff, Int.not_le, Int.not_lt] at g198'
        refine RunL.val (Val.pure rfl) rfl rfl rfl ?_
        refine RunL.val (Val.pure rfl) rfl rfl rfl ?_
        refine RunL.val (Val.shrN (a := f) (b := J) rfl rfl (by show J ≤ 64; omega)) rfl rfl rfl ?_
        refine RunL.val (Val.and (a := f >>> J) (b := 1) rfl rfl (by show _ < 18446744073709551616; omega) (by decide) (i64_inN (by omega))) rfl rfl rfl ?_
        refine RunL.val (Val.pure rfl) rfl rfl rfl ?_
        refine RunL.val (Val.pure rfl) rfl rfl rfl ?_
        exact RunL.segEnd (Sub.cons rfl (Sub.skip rfl (Sub.skip rfl (Sub.skip rfl (Sub.skip rfl (Sub.skip rfl (Sub.skip rfl (Sub.same rfl (by rw [g198]) (Sub.refl _))))))))) (List.Sublist.refl _)
      ) (fun g198 => by
        have g198' := g198
        try simp only [decide_eq_true_eq, decide_eq_false_iff_not, Bool.not_eq_true', Bool.not_eq_false', Bool.and_eq_true, Bool.or_eq_true, Bool.and_eq_false_iff, Bool.or_eq_false_iff, Int.not_le, Int.not_lt] at g198'
        iterate 5 refine RunL.no rfl rfl rfl ?_
        refine RunL.val (Val.pure rfl) rfl rfl rfl ?_
        exact RunL.segEnd (Sub.cons rfl (Sub.skip rfl (Sub.skip rfl (Sub.skip rfl (Sub.skip rfl (Sub.skip rfl (Sub.skip rfl (Sub.same rfl (by rw [g198]) (Sub.refl _))))))))) (List.Sublist.refl _)
      ) ?_
      refine RunL.val (Val.pure rfl) rfl rfl rfl ?_
      refine RunL.andPart (dj := 205) (dp := 211) 6 rfl (fun g205 => by
        have g205' := g205
        try simp only [decide_eq_true_eq, decide_eq_false_iff_not, Bool.not_eq_true', Bool.not_eq_false', Bool.and_eq_true, Bool.or_eq_true, Bool.and_eq_false_iff, Bool.or_eq_false_iff, Int.not_le, Int.not_lt] at g205'
        refine RunL.val (Val.pure rfl) rfl rfl rfl ?_
        refine RunL.val (Val.pure rfl) rfl rfl rfl ?_
        refine RunL.val (Val.shrN (a := ot2) (b := J) rfl rfl (by show J ≤ 64; omega)) rfl rfl rfl ?_
        refine RunL.val (Val.and (a := ot2 >>> J) (b := 1) rfl rfl (by show _ < 18446744073709551616; omega) (by decide) (i64_inN (by omega))) rfl rfl rfl ?_
        refine RunL.val (Val.pure rfl) rfl rfl rfl ?_
        refine RunL.val (Val.pure rfl) rfl rfl rfl ?_
        exact RunL.segEnd (Sub.cons rfl (Sub.skip rfl (Sub.skip rfl (Sub.skip rfl (Sub.skip rfl (Sub.skip rfl (Sub.skip rfl (Sub.same rfl (by rw [g205]) (Sub.refl _))))))))) (List.Sublist.refl _)
      ) (fun g205 => by
        have g205' := g205
        try simp only [decide_eq_true_eq, decide_eq_false_iff_not, Bool.not_eq_true', Bool.not_eq_false', Bool.and_eq_true, Bool.or_eq_true, Bool.and_eq_false_iff, Bool.or_eq_false_iff, Int.not_le, Int.not_lt] at g205'
        iterate 5 refine RunL.no rfl rfl rfl ?_
        refine RunL.val (Val.pure rfl) rfl rfl rfl ?_
        exact RunL.segEnd (Sub.cons rfl (Sub.skip rfl (Sub.skip rfl (Sub.skip rfl (Sub.skip rfl (Sub.skip rfl (Sub.skip rfl (Sub.same rfl (by rw [g205]) (Sub.refl _))))))))) (List.Sublist.refl _)
      ) ?_
      refine RunL.nil ?_
      refine RunE.next ?_
      refine RunC.cond rfl ?_ ?_
      · intro c8
        have c8' := c8; clear c8
        try simp only [decide_eq_true_eq, decide_eq_false_iff_not, Bool.not_eq_true', Bool.not_eq_false', Bool.and_eq_true, Bool.or_eq_true, Bool.and_eq_false_iff, Bool.or_eq_false_iff, Int.not_le, Int.not_lt] at c8'
        obtain ⟨⟨g1, g2⟩, g3⟩ := c8'
        have g1 : own2.length = k := by omega
        subst g1
        have hpw3 := hpw2.snoc hk2 hf2 hJl h12 (bit_yes g2) (bit_no0 g3)
        refine RunC.drawX (X := Eng.Own) 9 (n0 := [(b2, _)]) (fun z q => (14, ownV z (own2.length + 1)) :: (13, .int .i64 ((ot2 ||| 2 ^ J : Nat) : Int)) :: q) (fun z => []) (fun z => []) (fun z => ownB 3 z (intsW (natI (own2 ++ [J]))).flatten ++ (ownB 56 x127 ((esX m).map En.cells).flatten ++ [])) (fun z => OwnOk 1 z (own2.length + 1) (intsW (natI (own2 ++ [J]))).flatten) fol_ (.cons .here rfl .nil) (Sub.cons (t := 1) rfl (Sub.cons (t := 2) rfl (Sub.cons (t := 5) rfl (Sub.cons (t := 6) rfl (Sub.cons (t := 11) rfl (Sub.cons (t := 12) rfl (Sub.cons (t := 132) rfl (Sub.cons (t := 133) rfl (Sub.cons (t := 15) rfl (Sub.cons (t := 16) rfl (Sub.cons (t := 178) rfl (Sub.cons (t := 179) rfl (Sub.nil _))))))))))))) (.cons .here rfl .nil) ?_ ?_
        · refine RunA.val (i := 0) rfl (by kernel_rfl) (by kernel_rfl) (Val.pure rfl) rfl rfl rfl (fun _ _ _ h => h) (.cons .here rfl .nil) rfl ?_
          refine RunA.val (i := 1) rfl (by kernel_rfl) (by kernel_rfl) (Val.pure rfl) rfl rfl rfl (fun _ _ _ h => h) (.cons .here rfl .nil) rfl ?_
          refine RunA.val (i := 4) rfl (by kernel_rfl) (by kernel_rfl) (Val.pure rfl) rfl rfl rfl (fun _ _ _ h => h) (.cons .here rfl .nil) rfl ?_
          refine RunA.val (i := 5) rfl (by kernel_rfl) (by kernel_rfl) (Val.pure rfl) rfl rfl rfl (fun _ _ _ h => h) (.cons .here rfl .nil) rfl ?_
          refine RunA.val (i := 6) rfl (by kernel_rfl) (by kernel_rfl) (Val.shl1 (b := J) rfl rfl (by show J ≤ 64; omega) (i64_inN (by omega))) rfl rfl rfl (fun _ _ _ h => h) (.cons .here rfl .nil) rfl ?_
          refine RunA.val (i := 7) rfl (by kernel_rfl) (by kernel_rfl) (Val.or (a := ot2) (b := 2 ^ J) rfl rfl (by show _ < 18446744073709551616; omega) (by show _ < 18446744073709551616; omega) (i64_inN (by omega))) rfl rfl rfl (fun _ _ _ h => h) (.cons .here rfl .nil) rfl ?_
          refine RunA.one (i := 2) (by kernel_rfl) (by kernel_rfl) ?_
          refine RunI.new rfl (New.buildSlice (parts := [(0, .tmp 213)]) rfl sl_34 zero_3 rfl rfl rfl rfl) rfl rfl rfl (fun b214 => (RunK.toA (.cons .here rfl (.cons .here rfl .nil)) (.cons (.there .here) rfl .nil) rfl ?_))
          refine RunA.one (i := 3) (by kernel_rfl) (by kernel_rfl) ?_
          refine RunI.append (A := [(b214, _), (b2, _)]) (B := _) (x := Y1) (ys := [.int .i64 (J : Int)]) rfl ap_34 rfl rfl rfl hy1 rfl (fun h => by cases h) (fun w hm => src_blk (hm.at (.head _))) (one_of rfl) (by simp only [maxLen]; omega) (by omega) rfl (fun z215 hz215 => (RunK.toA (.cons .here rfl (.cons .here rfl .nil)) (.cons .here rfl (.cons .here rfl .nil)) rfl ?_))
          refine RunA.val (i := 8) rfl (by kernel_rfl) (by kernel_rfl) (Val.pure rfl) rfl rfl rfl (fun _ _ _ h => h) (.cons .here rfl (.cons .here rfl .nil)) rfl ?_
          refine RunA.toB (by kernel_rfl) ?_
          refine RunB.one (i := 9) (by kernel_rfl) ?_
          refine RunI.val rfl (Val.pure rfl) rfl rfl rfl (RunK.toB ?_)
          refine RunB.done (by kernel_rfl) ?_
          exact RunE.joinX z215 (by rw [nat_snoc]; exact hz215) rfl (Sub.consE (t := 14) rfl rfl (Sub.consE (t := 13) rfl rfl (Sub.cons (t := 1) rfl (Sub.cons (t := 2) rfl (Sub.cons (t := 5) rfl (Sub.cons (t := 6) rfl (Sub.cons (t := 11) rfl (Sub.cons (t := 12) rfl (Sub.cons (t := 132) rfl (Sub.cons (t := 133) rfl (Sub.cons (t := 15) rfl (Sub.cons (t := 16) rfl (Sub.cons (t := 178) rfl (Sub.cons (t := 179) rfl (Sub.nil _))))))))))))))) (.cons (.there .here) rfl (Pick.skip (Pick.same (by rw [nat_snoc]))))
        · intro z zI
          have hx1 := zI
          refine RunE.block_normal ?_
          refine RunE.next ?_
          refine RunC.region ?_
          refine RunL.val (Val.add rfl rfl (IntWalk.i64_in _ ⟨by omega, by omega⟩)) rfl rfl rfl ?_
          refine RunL.val (Val.pure rfl) rfl rfl rfl ?_
          refine RunL.nil ?_
          exact RunE.roundX (z, own2 ++ [J], ot2 ||| 2 ^ J) (by omega) ⟨(by rw [List.length_append]; exact hx1), hpw3, (by simp)⟩ rfl (Sub.consE (t := 179) rfl rfl (Sub.consE (t := 13) rfl rfl (Sub.consE (t := 14) rfl (by first | rfl | simp) (Sub.cons (t := 1) rfl (Sub.cons (t := 2) rfl (Sub.cons (t := 5) rfl (Sub.cons (t := 6) rfl (Sub.cons (t := 11) rfl (Sub.cons (t := 12) rfl (Sub.cons (t := 132) rfl (Sub.cons (t := 133) rfl (Sub.cons (t := 15) rfl (Sub.cons (t := 16) rfl (Sub.cons (t := 178) rfl (Sub.nil _))))))))))))))) (.cons .here rfl (Pick.refl _))
      · intro c8
        have c8' := c8; clear c8
        try simp only [decide_eq_true_eq, decide_eq_false_iff_not, Bool.not_eq_true', Bool.not_eq_false', Bool.and_eq_true, Bool.or_eq_true, Bool.and_eq_false_iff, Bool.or_eq_false_iff, Int.not_le, Int.not_lt] at c8'
        refine RunC.skip ?_
        refine RunE.block_normal ?_
        refine RunE.next ?_
        refine RunC.region ?_
        refine RunL.val (Val.add rfl rfl (IntWalk.i64_in _ ⟨by omega, by omega⟩)) rfl rfl rfl ?_
        refine RunL.val (Val.pure rfl) rfl rfl rfl ?_
        refine RunL.nil ?_
        exact RunE.roundX (Y1, own2, ot2) (by omega) ⟨hy1, hpw2, hle2⟩ rfl (Sub.consE (t := 179) rfl rfl (Sub.consE (t := 13) rfl rfl (Sub.consE (t := 14) rfl (by first | rfl | simp) (Sub.cons (t := 1) rfl (Sub.cons (t := 2) rfl (Sub.cons (t := 5) rfl (Sub.cons (t := 6) rfl (Sub.cons (t := 11) rfl (Sub.cons (t := 12) rfl (Sub.cons (t := 132) rfl (Sub.cons (t := 133) rfl (Sub.cons (t := 15) rfl (Sub.cons (t := 16) rfl (Sub.cons (t := 178) rfl (Sub.nil _))))))))))))))) (.cons .here rfl (Pick.refl _))
    · intro c7
      have c7' := c7; clear c7
      try simp only [decide_eq_true_eq, decide_eq_false_iff_not, Bool.not_eq_true', Bool.not_eq_false', Bool.and_eq_true, Bool.or_eq_true, Bool.and_eq_false_iff, Bool.or_eq_false_iff, Int.not_le, Int.not_lt] at c7'
      refine RunC.exit ?_
      refine RunE.pass_exit ?_
      refine RunE.pass_exit ?_
      refine RunE.block_here ?_
      refine RunE.block_normal ?_
      refine RunE.next ?_
      refine RunC.region ?_
      refine RunL.val (Val.add rfl rfl (IntWalk.i64_in _ ⟨by omega, by omega⟩)) rfl rfl rfl ?_
      refine RunL.val (Val.pure rfl) rfl rfl rfl ?_
      refine RunL.nil ?_
      exact RunE.roundX (Y1, own2, ot2) (by omega) ⟨hy1, hpw2, hle2⟩ rfl (Sub.consE (t := 133) rfl rfl (Sub.consE (t := 13) rfl rfl (Sub.consE (t := 14) rfl rfl (Sub.cons (t := 1) rfl (Sub.cons (t := 2) rfl (Sub.cons (t := 5) rfl (Sub.cons (t := 6) rfl (Sub.cons (t := 11) rfl (Sub.cons (t := 12) rfl (Sub.cons (t := 132) rfl (Sub.nil _))))))))))) (.cons .here rfl (Pick.refl _))
  · intro c3
    have c3' := c3; clear c3
    try simp only [decide_eq_true_eq, decide_eq_false_iff_not, Bool.not_eq_true', Bool.not_eq_false', Bool.and_eq_true, Bool.or_eq_true, Bool.and_eq_false_iff, Bool.or_eq_false_iff, Int.not_le, Int.not_lt] at c3'
    have hkn : k = m.cards.length := by omega
    refine RunC.exit ?_
    refine RunE.pass_exit ?_
    refine RunE.pass_exit ?_
    refine RunE.block_here ?_
    refine RunE.next ?_
    refine RunC.seq ?_
    refine RunC.seq ?_
    refine RunC.region ?_
    refine RunL.val (Val.pure rfl) rfl rfl rfl ?_
    refine RunL.val (Val.len_own rfl sl_34 hx1) rfl rfl rfl ?_
    refine RunL.val (Val.fieldAddr rfl fld_25_1) rfl rfl rfl ?_
    refine RunL.val (Val.load_one rfl (.head _) ty_23 rfl) rfl rfl rfl ?_
    refine RunL.val (Val.len_sl rfl sl_23) rfl rfl rfl ?_
    refine RunL.val (Val.pure rfl) rfl rfl rfl ?_
    refine RunL.nil ?_
    refine RunE.next ?_
    refine RunC.cond rfl ?_ (fun h => absurd h (by have h9 := hno _ _ hpw; simp; omega))
    intro c9
    clear c9
    refine RunC.seq ?_
    refine RunC.region ?_
    refine RunL.callP (isCall_func rfl ent_13) rfl rfl rfl (fun w hm => hawake_calls w) ?_
    refine RunL.val (Val.pure rfl) rfl rfl rfl ?_
    refine RunL.nil ?_
    refine RunE.next ?_
    refine RunC.ret ?_
    refine RunE.pass_ret ?_
    exact RunE.retP (.r1 rfl (.tmp rfl)) (by first | rfl | simp)
end Go.Proofs.YtlhdalcipflblaaDoor
/- The facts on the tables of types and on the entries of functions that the walks use. Written by program. -/
set_option linter.unusedSimpArgs false
set_option linter.unusedVariables false
namespace Go.Proofs.YtlhdalcipflblaaDoor
open Go Go.Eng

end Go.Proofs.YtlhdalcipflblaaDoor
/- The facts on the tables of types and on the entries of functions that the walks use. Written by program. -/
set_option linter.unusedSimpArgs false
set_option linter.unusedVariables false
namespace Go.Proofs.YtlhdalcipflblaaDoor
open Go Go.Eng

end Go.Proofs.YtlhdalcipflblaaDoor
/- Walks of the laws of layer 10: HeapTurned. -/
set_option linter.unusedSimpArgs false
set_option linter.unusedVariables false
namespace Go.Hp
open Go Go.Eng Go.Pw1
theorem rev_snoc {l : List Tn} {k : Nat} (hk : k < l.length) {t : Tn} (ht : l[l.length - 1 - k] = t) : ((l.reverse.take (k + 1)).map Tn.cells).flatten = ((l.reverse.take k).map Tn.cells).flatten ++ t.cells := by
  have hk2 : k < l.reverse.length := by simpa using hk
  rw [List.take_succ_eq_append_getElem hk2, List.map_append, List.flatten_append, List.getElem_reverse, ht]
  simp
def turnA (m : MxA) (x : Eng.Own) : MxA := { m with cards := m.cards.reverse, q2 := ownQ x, b2 := ownK x, o2 := 0, cap2 := ownC x }
theorem turn_pl (m : MxA) (x : Eng.Own) : (turnA m x).pl = m.pl.rev := rfl
theorem turn_sm {m : MxA} (x : Eng.Own) (h : MSm m) : MSm (turnA m x) := ⟨h.bx, by show m.cards.reverse.length ≤ 1000; rw [List.length_reverse]; exact h.cd, h.ti, fun t ht => h.tx t (List.mem_reverse.1 ht)⟩
theorem turn_ok {m : MxA} {x : Eng.Own} {W w : World} {news : Blks} (hM : MOk W m) (hm : Mem W [] news w) (hx : OwnOk 3 x m.cards.length (m.cards.reverse.map Tn.cells).flatten) (h : ∀ b o, (b, o) ∈ ownB 50 x (m.cards.reverse.map Tn.cells).flatten → w.heap[b]? = some o) : MOk w (turnA m x) :=
  ⟨(hM.mono0 hm).bx, (hM.mono0 hm).ti, own_sl (f := Tn.cells) (fun _ => rfl) (by decide) hx h⟩
end Go.Hp
namespace Go.Proofs.YtlhdalcipflblaaDoor
open Go Go.Eng Go.Hp Go.Pw1

theorem sure_any (m : MxA) (hsm : MSm m) (W : World) (hM : MOk W m) : Calls Tryd.prog 25 #[m.v] W
    (News (fun z : IO (SureX m.pl).1 => .tuple #[.slice (ownQ z.1) (SureX m.pl).1.length (ownC z.1), .int .i64 (SureX m.pl).2]) (fun z => ownB 3 z.1 (intsW (SureX m.pl).1).flatten ++ []) W) := by
  by_cases hw : waysE m.pl = 0
  · have h1 := sure_calls m hsm W hM hw
    refine calls_mono h1 ?_
    rintro ed w' ⟨z, rfl, hm⟩
    have e2 : (SureX m.pl).2 = 0 := by unfold SureX; rw [if_pos hw]
    exact ⟨z, by show Ending.returned (.tuple #[ownV z.1 _, .int .i64 0]) = _; rw [ownV_slice z.2, e2], hm⟩
  · have h1 := sure_err m hsm W hM hw
    have e1 : SureX m.pl = ([], waysE m.pl) := by unfold SureX; rw [if_neg hw]
    rw [e1]
    refine calls_mono h1 ?_
    rintro ed w' ⟨rfl, hm⟩
    exact ⟨⟨none, OwnOk.start⟩, rfl, hm⟩
theorem hturn_far (m : MxA) (c e : Int) (W : World) (hM : MOk W m) (hf : farX m.pl = true) : Calls Tryd.prog 11 #[m.v, .int .i64 c, .int .i64 e] W (Pure (.bool true) W) := by
  refine calls_start Tryd.func11 rfl rfl ?_
  refine RunC.seq ?_
  refine RunC.region ?_
  refine RunL.new (New.box rfl) rfl rfl rfl (fun b3 => ?_)
  refine RunL.val (Val.pure rfl) rfl rfl rfl ?_
  refine RunL.nil ?_
  refine RunE.next ?_
  refine RunC.seq ?_
  refine RunC.seq ?_
  refine RunC.region ?_
  refine RunL.val (Val.load_agg rfl (.head _) ty_25 rfl) rfl rfl rfl ?_
  refine RunL.callP (isCall_func rfl ent_12) rfl rfl rfl (fun w hm => far_calls m w (hM.mono0 hm)) ?_
  refine RunL.val (Val.pure rfl) rfl rfl rfl ?_
  refine RunL.sure (dj := 39) true rfl (by simp [hf]) ?_
  iterate 3 refine RunL.no rfl rfl rfl ?_
  refine RunL.val (Val.pure rfl) rfl rfl rfl ?_
  refine RunL.nil ?_
  refine RunE.next ?_
  refine RunC.cond rfl ?_ (fun h => absurd h (by simp))
  intro c0
  clear c0
  refine RunC.seq ?_
  refine RunC.region ?_
  refine RunL.callP (isCall_func rfl ent_13) rfl rfl rfl (fun w hm => hawake_calls w) ?_
  refine RunL.val (Val.pure rfl) rfl rfl rfl ?_
  refine RunL.nil ?_
  refine RunE.next ?_
  refine RunC.ret ?_
  refine RunE.pass_ret ?_
  exact RunE.retP (.r1 rfl (.tmp rfl)) (by first | rfl | simp)
theorem hturn_bad (m : MxA) (c e : Int) (W : World) (hM : MOk W m) (hf : farX m.pl = false) (hX : mixedX m.pl = false) : Calls Tryd.prog 11 #[m.v, .int .i64 c, .int .i64 e] W (Pure (.bool true) W) := by
  have hsm := far_sm hf
  refine calls_start Tryd.func11 rfl rfl ?_
  refine RunC.seq ?_
  refine RunC.region ?_
  refine RunL.new (New.box rfl) rfl rfl rfl (fun b3 => ?_)
  refine RunL.val (Val.pure rfl) rfl rfl rfl ?_
  refine RunL.nil ?_
  refine RunE.next ?_
  refine RunC.seq ?_
  refine RunC.seq ?_
  refine RunC.region ?_
  refine RunL.val (Val.load_agg rfl (.head _) ty_25 rfl) rfl rfl rfl ?_
  refine RunL.callP (isCall_func rfl ent_12) rfl rfl rfl (fun w hm => far_calls m w (hM.mono0 hm)) ?_
  refine RunL.val (Val.pure rfl) rfl rfl rfl ?_
  refine RunL.sure (dj := 39) false rfl (by simp [hf]) ?_
  refine RunL.val (Val.load_agg rfl (.head _) ty_25 rfl) rfl rfl rfl ?_
  refine RunL.callP (isCall_func rfl ent_33) rfl rfl rfl (fun w hm => rMixed_calls m hsm w (hM.mono0 hm)) ?_
  refine RunL.val (Val.pure rfl) rfl rfl rfl ?_
  refine RunL.val (Val.pure rfl) rfl rfl rfl ?_
  refine RunL.nil ?_
  refine RunE.next ?_
  refine RunC.cond rfl ?_ (fun h => absurd h (by simp [hX]))
  intro c0
  clear c0
  refine RunC.seq ?_
  refine RunC.region ?_
  refine RunL.callP (isCall_func rfl ent_13) rfl rfl rfl (fun w hm => hawake_calls w) ?_
  refine RunL.val (Val.pure rfl) rfl rfl rfl ?_
  refine RunL.nil ?_
  refine RunE.next ?_
  refine RunC.ret ?_
  refine RunE.pass_ret ?_
  exact RunE.retP (.r1 rfl (.tmp rfl)) (by first | rfl | simp)
set_option maxHeartbeats 1000000 in
theorem hturn_ok (m : MxA) (c e : Int) (hc : -9223372036854775808 ≤ c ∧ c ≤ 9223372036854775807) (W : World) (hM : MOk W m) (hf : farX m.pl = false) (hX : mixedX m.pl = true) : Calls Tryd.prog 11 #[m.v, .int .i64 c, .int .i64 e] W (Pure (.bool true) W) := by
  have hsm := far_sm hf
  obtain ⟨h4, h8, h12⟩ := mixed_ok hX
  have hfl := fs_len m
  obtain ⟨s, e0, hI, hW⟩ := why_is hX
  obtain ⟨s2, e2, hI2, hW2⟩ := why_is (m := turnA m none) (by rw [turn_pl, mixed_rev]; exact hX)
  have hsl := hI.lt
  have hsl2 := hI2.lt
  rw [turn_pl, fs_rev, List.length_reverse, hfl] at hsl2
  rw [hfl] at hsl
  have hp8 : 2 ^ m.cards.length ≤ 2 ^ 8 := Nat.pow_le_pow_right (by decide) h8
  rw [turn_pl] at hW2
  rw [turn_pl, fs_rev] at hI2
  obtain ⟨he, hpc⟩ := why_rev h12 (fs_lt m) (by omega) hI hI2
  subst he
  obtain ⟨hc1, hc2⟩ := card_rev m.pl hX c hc
  have hc3 := hc2 e
  have hc1 : FitsX m.pl.rev (IntKind.i64.wrap ((m.cards.length : Int) - 1 - c)) = FitsX m.pl c := hc1
  have hc3 : ShareX m.pl.rev (IntKind.i64.wrap ((m.cards.length : Int) - 1 - c)) e = ShareX m.pl c e := hc3
  obtain ⟨hs1, hs2⟩ := Sure_rev m.pl
  have hsl8 : (SureX m.pl).1.length ≤ 8 := by unfold SureX; split; (simp [MxA.pl]; exact h8); simp
  refine calls_start Tryd.func11 rfl rfl ?_
  refine RunC.seq ?_
  refine RunC.region ?_
  refine RunL.new (New.box rfl) rfl rfl rfl (fun b3 => ?_)
  refine RunL.val (Val.pure rfl) rfl rfl rfl ?_
  refine RunL.nil ?_
  refine RunE.next ?_
  refine RunC.seq ?_
  refine RunC.seq ?_
  refine RunC.region ?_
  refine RunL.val (Val.load_agg rfl (.head _) ty_25 rfl) rfl rfl rfl ?_
  refine RunL.callP (isCall_func rfl ent_12) rfl rfl rfl (fun w hm => far_calls m w (hM.mono0 hm)) ?_
  refine RunL.val (Val.pure rfl) rfl rfl rfl ?_
  refine RunL.sure (dj := 39) false rfl (by simp [hf]) ?_
  refine RunL.val (Val.load_agg rfl (.head _) ty_25 rfl) rfl rfl rfl ?_
  refine RunL.callP (isCall_func rfl ent_33) rfl rfl rfl (fun w hm => rMixed_calls m hsm w (hM.mono0 hm)) ?_
  refine RunL.val (Val.pure rfl) rfl rfl rfl ?_
  refine RunL.val (Val.pure rfl) rfl rfl rfl ?_
  refine RunL.nil ?_
  refine RunE.next ?_
  refine RunC.cond rfl (fun h => absurd h (by simp [hX])) ?_
  intro c0
  clear c0
  refine RunC.skip ?_
  refine RunE.next ?_
  refine RunC.seq ?_
  refine RunC.region ?_
  refine RunL.val (Val.fieldAddr rfl fld_25_1) rfl rfl rfl ?_
  refine RunL.val (Val.load_one rfl (.head _) ty_23 rfl) rfl rfl rfl ?_
  refine RunL.val (Val.len_sl rfl sl_23) rfl rfl rfl ?_
  refine RunL.val (Val.pure rfl) rfl rfl rfl ?_
  refine RunL.nil ?_
  refine RunE.next ?_
  refine RunC.seq ?_
  refine RunC.region ?_
  refine RunL.val (Val.load_agg rfl (.head _) ty_25 rfl) rfl rfl rfl ?_
  refine RunL.new (New.alloc zero_25) rfl rfl rfl (fun b8 => ?_)
  refine RunL.sto (Sto.store rfl rfl .here ty_25 rfl rfl) rfl rfl ?_
  refine RunL.nil ?_
  refine RunE.next ?_
  refine RunC.seq ?_
  refine RunC.region ?_
  refine RunL.val (Val.fieldAddr rfl fld_25_1) rfl rfl rfl ?_
  refine RunL.sto (Sto.store rfl rfl .here ty_23 rfl rfl) rfl rfl ?_
  refine RunL.nil ?_
  refine RunE.next ?_
  refine RunC.seq ?_
  refine RunC.seq ?_
  refine RunC.region ?_
  refine RunL.val (Val.fieldAddr rfl fld_25_1) rfl rfl rfl ?_
  refine RunL.val (Val.load_one rfl (.tail _ (.head _)) ty_23 rfl) rfl rfl rfl ?_
  refine RunL.val (Val.len_sl rfl sl_23) rfl rfl rfl ?_
  refine RunL.val (Val.pure rfl) rfl rfl rfl ?_
  refine RunL.nil ?_
  refine RunE.next ?_
  refine RunC.block ?_
  refine RunC.loopX (X := Eng.Own) (n0 := [(b3, _)]) (m.cards.length) (fun k x q => (53, .int .i64 (k : Int)) :: q) (fun _ _ => _) (fun k x => [(b8, .cells [.slice m.q m.bxs.length m.cap, ownV x k].toArray 25 (0, 0))]) (fun k x => ownB 50 x ((m.cards.reverse.take k).map Tn.cells).flatten ++ []) (fun k x => OwnOk 3 x k ((m.cards.reverse.take k).map Tn.cells).flatten) none OwnOk.start rfl (Sub.consE (t := 53) rfl rfl (Sub.cons (t := 1) rfl (Sub.cons (t := 2) rfl (Sub.cons (t := 3) rfl (Sub.cons (t := 7) rfl (Sub.cons (t := 8) rfl (Sub.cons (t := 52) rfl (Sub.nil _)))))))) (.cons .here rfl (.cons .here rfl (Pick.same rfl))) ?_
  intro k x kN kI
  have hx1 := kI
  refine RunC.seq ?_
  refine RunC.region ?_
  refine RunL.val (Val.pure rfl) rfl rfl rfl ?_
  refine RunL.nil ?_
  refine RunE.next ?_
  refine RunC.seq ?_
  refine RunC.cond rfl ?_ ?_
  · intro c1
    have c1' := c1; clear c1
    try simp only [decide_eq_true_eq, decide_eq_false_iff_not, Bool.not_eq_true', Bool.not_eq_false', Bool.and_eq_true, Bool.or_eq_true, Bool.and_eq_false_iff, Bool.or_eq_false_iff, Int.not_le, Int.not_lt] at c1'
    have hk : k < m.cards.length := by omega
    have hk2 : m.cards.length - 1 - k < m.cards.length := by omega
    obtain ⟨t, ht⟩ : ∃ t, m.cards[m.cards.length - 1 - k] = t := ⟨_, rfl⟩
    have hrv := rev_snoc hk ht
    refine RunC.skip ?_
    refine RunE.next ?_
    refine RunC.seq ?_
    refine RunC.block ?_
    refine RunC.seq ?_
    refine RunC.region ?_
    refine RunL.val (Val.pure rfl) rfl rfl rfl ?_
    refine RunL.val (Val.pure rfl) rfl rfl rfl ?_
    refine RunL.nil ?_
    refine RunE.next ?_
    refine RunC.drawX (X := Eng.Own) 11 (n0 := [(b3, _)]) (fun z q => q) (fun z => []) (fun z => [(b8, .cells [.slice m.q m.bxs.length m.cap, ownV z (k + 1)].toArray 25 (0, 0))]) (fun z => ownB 50 z ((m.cards.reverse.take (k + 1)).map Tn.cells).flatten ++ []) (fun z => OwnOk 3 z (k + 1) ((m.cards.reverse.take (k + 1)).map Tn.cells).flatten) fol_ (.cons .here rfl (.cons .here rfl .nil)) (Sub.cons (t := 1) rfl (Sub.cons (t := 2) rfl (Sub.cons (t := 3) rfl (Sub.cons (t := 7) rfl (Sub.cons (t := 8) rfl (Sub.cons (t := 52) rfl (Sub.cons (t := 53) rfl (Sub.nil _)))))))) (.cons (.there .here) rfl .nil) ?_ ?_
    · refine RunA.val (i := 0) rfl (by kernel_rfl) (by kernel_rfl) (Val.fieldAddr rfl fld_25_1) rfl rfl rfl (fun _ _ _ h => h) (.cons .here rfl (.cons .here rfl .nil)) rfl ?_
      refine RunA.val (i := 1) rfl (by kernel_rfl) (by kernel_rfl) (Val.load_one rfl (.head _) ty_23 rfl) rfl rfl rfl (fun _ _ _ h => h) (.cons .here rfl (.cons .here rfl .nil)) rfl ?_
      refine RunA.val (i := 2) rfl (by kernel_rfl) (by kernel_rfl) (Val.fieldAddr rfl fld_25_1) rfl rfl rfl (fun _ _ _ h => h) (.cons .here rfl (.cons .here rfl .nil)) rfl ?_
      refine RunA.val (i := 3) rfl (by kernel_rfl) (by kernel_rfl) (Val.load_one rfl (.tail _ (.head _)) ty_23 rfl) rfl rfl rfl (fun _ _ _ h => h) (.cons .here rfl (.cons .here rfl .nil)) rfl ?_
      refine RunA.val (i := 4) rfl (by kernel_rfl) (by kernel_rfl) (Val.pure rfl) rfl rfl rfl (fun _ _ _ h => h) (.cons .here rfl (.cons .here rfl .nil)) rfl ?_
      refine RunA.val (i := 5) rfl (by kernel_rfl) (by kernel_rfl) (Val.subN (a := m.cards.length) (b := 1) (m.cards.length - 1) rfl rfl (by omega) (i64_inN (by omega))) rfl rfl rfl (fun _ _ _ h => h) (.cons .here rfl (.cons .here rfl .nil)) rfl ?_
      refine RunA.val (i := 6) rfl (by kernel_rfl) (by kernel_rfl) (Val.pure rfl) rfl rfl rfl (fun _ _ _ h => h) (.cons .here rfl (.cons .here rfl .nil)) rfl ?_
      refine RunA.val (i := 7) rfl (by kernel_rfl) (by kernel_rfl) (Val.subN (a := m.cards.length - 1) (b := k) (m.cards.length - 1 - k) rfl rfl (by omega) (i64_inN (by omega))) rfl rfl rfl (fun _ _ _ h => h) (.cons .here rfl (.cons .here rfl .nil)) rfl ?_
      refine RunA.val (i := 8) rfl (by kernel_rfl) (by kernel_rfl) (Val.indexAddr_slp rfl rfl sl_23 (by omega) (by omega) (hM.cd.ptrM hk2)) rfl rfl rfl (fun _ _ _ h => h) (.cons .here rfl (.cons .here rfl .nil)) rfl ?_
      refine RunA.val (i := 9) rfl (by kernel_rfl) (by kernel_rfl) (Val.load_gen rfl (fun w hm => hM.cd.loadX (by decide) hm (by simp) ty_50 hk2 ht)) rfl rfl rfl (fun _ _ _ h => h) (.cons .here rfl (.cons .here rfl .nil)) rfl ?_
      refine RunA.one (i := 10) (by kernel_rfl) (by kernel_rfl) ?_
      refine RunI.new rfl (New.buildSlice (parts := [(0, .tmp 65)]) rfl sl_23 zero_50 rfl rfl rfl rfl) rfl rfl rfl (fun b66 => (RunK.toA (.cons .here rfl (.cons .here rfl (.cons .here rfl .nil))) (.cons (.there .here) rfl (.cons (.there .here) rfl .nil)) rfl ?_))
      refine RunA.toB (by kernel_rfl) ?_
      refine RunB.one (i := 11) (by kernel_rfl) ?_
      refine RunI.append (A := [(b66, _), (b8, _), (b3, _)]) (B := _) (x := x) (ys := t.cells) rfl ap_23 rfl rfl rfl hx1 rfl (fun h => by cases h) (fun w hm => src_blk (hm.at (.head _))) (one_of rfl) (by simp only [maxLen]; omega) (by omega) rfl (fun z67 hz67 => (RunK.toB ?_))
      refine RunB.one (i := 12) (by kernel_rfl) ?_
      refine RunI.val rfl (Val.fieldAddr rfl fld_25_1) rfl rfl rfl (RunK.toB ?_)
      refine RunB.one (i := 13) (by kernel_rfl) ?_
      obtain ⟨bz67, cz67, rz67, rfl, lz671, lz672, lz673⟩ := hz67.has (by omega)
      refine RunI.sto rfl (Sto.store rfl rfl (.there .here) ty_23 rfl rfl) rfl rfl (RunK.toB ?_)
      refine RunB.done (by kernel_rfl) ?_
      exact RunE.joinX (some (bz67, cz67, rz67)) (by rw [hrv]; exact hz67) rfl (Sub.cons (t := 1) rfl (Sub.cons (t := 2) rfl (Sub.cons (t := 3) rfl (Sub.cons (t := 7) rfl (Sub.cons (t := 8) rfl (Sub.cons (t := 52) rfl (Sub.cons (t := 53) rfl (Sub.nil _)))))))) (.cons (.there .here) rfl (.cons (.there .here) rfl (.cons (.there .here) (by rw [hrv]) .nil)))
    · intro z zI
      have hx1 := zI
      refine RunE.block_normal ?_
      refine RunE.next ?_
      refine RunC.region ?_
      refine RunL.val (Val.add rfl rfl (IntWalk.i64_in _ ⟨by omega, by omega⟩)) rfl rfl rfl ?_
      refine RunL.val (Val.pure rfl) rfl rfl rfl ?_
      refine RunL.nil ?_
      exact RunE.roundX z (by omega) hx1 rfl (Sub.consE (t := 53) rfl rfl (Sub.cons (t := 1) rfl (Sub.cons (t := 2) rfl (Sub.cons (t := 3) rfl (Sub.cons (t := 7) rfl (Sub.cons (t := 8) rfl (Sub.cons (t := 52) rfl (Sub.nil _)))))))) (.cons .here rfl (.cons .here rfl (Pick.refl _)))
  · intro c1
    have c1' := c1; clear c1
    try simp only [decide_eq_true_eq, decide_eq_false_iff_not, Bool.not_eq_true', Bool.not_eq_false', Bool.and_eq_true, Bool.or_eq_true, Bool.and_eq_false_iff, Bool.or_eq_false_iff, Int.not_le, Int.not_lt] at c1'
    obtain rfl : k = m.cards.length := by omega
    rw [show m.cards.reverse.take m.cards.length = m.cards.reverse from List.take_of_length_le (by simp)] at hx1
    have hsmx := turn_sm x hsm
    have y1 : ownV x m.cards.length = .slice (ownQ x) (turnA m x).cards.length (ownC x) := by rw [ownV_slice hx1]; simp [turnA]
    simp only [y1, show m.cards.reverse.take m.cards.length = m.cards.reverse from List.take_of_length_le (by simp)]
    refine RunC.exit ?_
    refine RunE.pass_exit ?_
    refine RunE.pass_exit ?_
    refine RunE.block_here ?_
    refine RunE.next ?_
    refine RunC.seq ?_
    refine RunC.region ?_
    refine RunL.val (Val.load_agg rfl (.tail _ (.head _)) ty_25 rfl) rfl rfl rfl ?_
    refine RunL.callP (isCall_func rfl ent_19) rfl rfl rfl (fun w hm => counth_calls m hsm w (hM.mono0 hm)) ?_
    iterate 5 refine RunL.val (Val.pure rfl) rfl rfl rfl ?_
    refine RunL.nil ?_
    refine RunE.next ?_
    refine RunC.seq ?_
    refine RunC.region ?_
    refine RunL.val (Val.load_agg rfl (.head _) ty_25 rfl) rfl rfl rfl ?_
    refine RunL.callP (isCall_func rfl ent_19) rfl rfl rfl (fun w hm => (by have h9 := counth_calls (turnA m x) hsmx w (turn_ok hM hm hx1 (fun b o h => hm.at (.tail _ (.tail _ ((by first | exact List.mem_append_left _ h | exact List.mem_append_right _ (List.mem_append_left _ h))))))); rw [turn_pl, Count_rev] at h9; exact h9)) ?_
    iterate 5 refine RunL.val (Val.pure rfl) rfl rfl rfl ?_
    refine RunL.nil ?_
    refine RunE.next ?_
    refine RunC.seq ?_
    refine RunC.region ?_
    refine RunL.val (Val.load_agg rfl (.tail _ (.head _)) ty_25 rfl) rfl rfl rfl ?_
    refine RunL.callNA [(b8, _), (b3, _)] _ rfl (isCall_func rfl ent_25) rfl rfl rfl (fun w hm => sure_any m hsm w (hM.mono0 hm)) (fun z82 => ?_)
    obtain ⟨x82, hx82⟩ := z82
    dsimp only
    iterate 5 refine RunL.val (Val.pure rfl) rfl rfl rfl ?_
    refine RunL.nil ?_
    refine RunE.next ?_
    refine RunC.seq ?_
    refine RunC.region ?_
    refine RunL.val (Val.load_agg rfl (.head _) ty_25 rfl) rfl rfl rfl ?_
    refine RunL.callNA [(b8, _), (b3, _)] _ rfl (isCall_func rfl ent_25) rfl rfl rfl (fun w hm => sure_any (turnA m x) hsmx w (turn_ok hM hm hx1 (fun b o h => hm.at (.tail _ (.tail _ ((by first | exact List.mem_append_right _ (List.mem_append_left _ h) | exact List.mem_append_right _ (List.mem_append_right _ (List.mem_append_left _ h))))))))) (fun z87 => ?_)
    obtain ⟨x87, hx87⟩ := z87
    dsimp only
    iterate 5 refine RunL.val (Val.pure rfl) rfl rfl rfl ?_
    refine RunL.nil ?_
    refine RunE.next ?_
    refine RunC.seq ?_
    refine RunC.region ?_
    refine RunL.val (Val.load_agg rfl (.tail _ (.head _)) ty_25 rfl) rfl rfl rfl ?_
    refine RunL.callP (isCall_func rfl ent_27) rfl rfl rfl (fun w hm => lost_calls m hsm w (hM.mono0 hm)) ?_
    iterate 7 refine RunL.val (Val.pure rfl) rfl rfl rfl ?_
    refine RunL.nil ?_
    refine RunE.next ?_
    refine RunC.seq ?_
    refine RunC.region ?_
    refine RunL.val (Val.load_agg rfl (.head _) ty_25 rfl) rfl rfl rfl ?_
    refine RunL.callP (isCall_func rfl ent_27) rfl rfl rfl (fun w hm => (by have h9 := lost_calls (turnA m x) hsmx w (turn_ok hM hm hx1 (fun b o h => hm.at (.tail _ (.tail _ ((by first | exact List.mem_append_right _ (List.mem_append_right _ (List.mem_append_left _ h)) | exact List.mem_append_right _ (List.mem_append_right _ (List.mem_append_right _ (List.mem_append_left _ h))))))))); rw [turn_pl, Lost_rev] at h9; exact h9)) ?_
    iterate 7 refine RunL.val (Val.pure rfl) rfl rfl rfl ?_
    refine RunL.nil ?_
    refine RunE.next ?_
    refine RunC.seq ?_
    refine RunC.region ?_
    refine RunL.val (Val.load_agg rfl (.tail _ (.head _)) ty_25 rfl) rfl rfl rfl ?_
    refine RunL.callP (isCall_func rfl ent_16) rfl rfl rfl (fun w hm => (by have h9 := why_calls m hsm w (hM.mono0 hm); rw [hW] at h9; exact h9)) ?_
    iterate 5 refine RunL.val (Val.pure rfl) rfl rfl rfl ?_
    refine RunL.nil ?_
    refine RunE.next ?_
    refine RunC.seq ?_
    refine RunC.region ?_
    refine RunL.val (Val.load_agg rfl (.head _) ty_25 rfl) rfl rfl rfl ?_
    refine RunL.callP (isCall_func rfl ent_16) rfl rfl rfl (fun w hm => (by have h9 := why_calls (turnA m x) hsmx w (turn_ok hM hm hx1 (fun b o h => hm.at (.tail _ (.tail _ ((by first | exact List.mem_append_right _ (List.mem_append_right _ (List.mem_append_left _ h)) | exact List.mem_append_right _ (List.mem_append_right _ (List.mem_append_right _ (List.mem_append_left _ h))))))))); rw [turn_pl, hW2] at h9; exact h9)) ?_
    iterate 5 refine RunL.val (Val.pure rfl) rfl rfl rfl ?_
    refine RunL.nil ?_
    refine RunE.next ?_
    refine RunC.seq ?_
    refine RunC.seq ?_
    refine RunC.region ?_
    iterate 4 refine RunL.val (Val.pure rfl) rfl rfl rfl ?_
    refine RunL.sure (dj := 115) false rfl (by simp) ?_
    iterate 5 refine RunL.val (Val.pure rfl) rfl rfl rfl ?_
    refine RunL.sure (dj := 120) false rfl (by simp) ?_
    iterate 5 refine RunL.val (Val.pure rfl) rfl rfl rfl ?_
    refine RunL.sure (dj := 125) false rfl (by simp [turn_pl, hs1]) ?_
    refine RunL.val (Val.pure rfl) rfl rfl rfl ?_
    refine RunL.val (Val.len_sl rfl sl_34) rfl rfl rfl ?_
    refine RunL.val (Val.pure rfl) rfl rfl rfl ?_
    refine RunL.val (Val.len_sl rfl sl_34) rfl rfl rfl ?_
    iterate 3 refine RunL.val (Val.pure rfl) rfl rfl rfl ?_
    refine RunL.sure (dj := 132) false rfl (by simp [turn_pl, hs2]) ?_
    iterate 5 refine RunL.val (Val.pure rfl) rfl rfl rfl ?_
    refine RunL.sure (dj := 137) false rfl (by simp) ?_
    iterate 5 refine RunL.val (Val.pure rfl) rfl rfl rfl ?_
    refine RunL.sure (dj := 142) false rfl (by simp) ?_
    iterate 5 refine RunL.val (Val.pure rfl) rfl rfl rfl ?_
    refine RunL.sure (dj := 147) false rfl (by simp) ?_
    iterate 5 refine RunL.val (Val.pure rfl) rfl rfl rfl ?_
    refine RunL.sure (dj := 152) false rfl (by simp) ?_
    refine RunL.val (Val.pure rfl) rfl rfl rfl ?_
    refine RunL.val (Val.max rfl rfl) rfl rfl rfl ?_
    refine RunL.callP (isCall_func rfl ent_36) rfl rfl rfl (fun w hm => (by have h9 := rSize_calls s (by omega) w; rw [show (max (0 : Int) ((s : Nat) : Int)) = ((s : Nat) : Int) by omega]; exact h9)) ?_
    refine RunL.val (Val.pure rfl) rfl rfl rfl ?_
    refine RunL.val (Val.max rfl rfl) rfl rfl rfl ?_
    refine RunL.callP (isCall_func rfl ent_36) rfl rfl rfl (fun w hm => (by have h9 := rSize_calls s2 (by omega) w; rw [show (max (0 : Int) ((s2 : Nat) : Int)) = ((s2 : Nat) : Int) by omega]; exact h9)) ?_
    refine RunL.val (Val.pure rfl) rfl rfl rfl ?_
    refine RunL.val (Val.pure rfl) rfl rfl rfl ?_
    refine RunL.nil ?_
    refine RunE.next ?_
    refine RunC.cond rfl (fun h => absurd h (by simp [hpc])) ?_
    intro c2
    clear c2
    refine RunC.skip ?_
    refine RunE.next ?_
    refine RunC.seq ?_
    refine RunC.seq ?_
    refine RunC.region ?_
    refine RunL.val (Val.pure rfl) rfl rfl rfl ?_
    refine RunL.val (Val.len_sl rfl sl_34) rfl rfl rfl ?_
    refine RunL.val (Val.pure rfl) rfl rfl rfl ?_
    refine RunL.nil ?_
    refine RunE.next ?_
    refine RunC.block ?_
    refine RunC.loopK ((SureX m.pl).1.length) (fun j q => (163, .int .i64 (j : Int)) :: q) (fun _ => _) (fun _ => []) (fun _ => True) trivial rfl (Sub.consE (t := 163) rfl rfl (Sub.cons (t := 1) rfl (Sub.cons (t := 2) rfl (Sub.cons (t := 3) rfl (Sub.cons (t := 7) rfl (Sub.cons (t := 8) rfl (Sub.cons (t := 14) rfl (Sub.cons (t := 16) rfl (Sub.cons (t := 162) rfl (Sub.nil _)))))))))) (.cons .here rfl (.cons .here rfl (Pick.refl _))) ?_
    intro j jN jI
    clear jI
    refine RunC.seq ?_
    refine RunC.region ?_
    refine RunL.val (Val.pure rfl) rfl rfl rfl ?_
    refine RunL.nil ?_
    refine RunE.next ?_
    refine RunC.seq ?_
    refine RunC.cond rfl ?_ ?_
    · intro c3
      have c3' := c3; clear c3
      try simp only [decide_eq_true_eq, decide_eq_false_iff_not, Bool.not_eq_true', Bool.not_eq_false', Bool.and_eq_true, Bool.or_eq_true, Bool.and_eq_false_iff, Bool.or_eq_false_iff, Int.not_le, Int.not_lt] at c3'
      have hj : j < (SureX m.pl).1.length := by omega
      have hj2 : (SureX m.pl).1.length - 1 - j < (SureX m.pl.rev).1.length := by omega
      obtain ⟨y, hy⟩ : ∃ y, (SureX m.pl).1[j] = y := ⟨_, rfl⟩
      obtain ⟨y2, hy2⟩ : ∃ y2, (SureX m.pl.rev).1[(SureX m.pl).1.length - 1 - j] = y2 := ⟨_, rfl⟩
      have hxy := Sure_at m.pl hj hj2 hy hy2
      refine RunC.skip ?_
      refine RunE.next ?_
      refine RunC.seq ?_
      refine RunC.block ?_
      refine RunC.seq ?_
      refine RunC.region ?_
      refine RunL.val (Val.pure rfl) rfl rfl rfl ?_
      refine RunL.val (Val.pure rfl) rfl rfl rfl ?_
      refine RunL.nil ?_
      refine RunE.next ?_
      refine RunC.seq ?_
      obtain ⟨bx87, cx87, rx87, rfl, lx871, lx872, lx873⟩ := hx87.has (by rw [turn_pl]; omega)
      obtain ⟨bx82, cx82, rx82, rfl, lx821, lx822, lx823⟩ := hx82.has (by omega)
      refine RunC.draw 12 fol_ (.cons .here rfl (.cons .here rfl (.cons .here rfl (.cons .here rfl .nil)))) ?_
      refine RunA.val (i := 0) rfl (by kernel_rfl) (by kernel_rfl) (Val.pure rfl) rfl rfl rfl (fun _ _ _ h => h) (.cons .here rfl (.cons .here rfl (.cons .here rfl (.cons .here rfl .nil)))) rfl ?_
      refine RunA.val (i := 1) rfl (by kernel_rfl) (by kernel_rfl) (Val.pure rfl) rfl rfl rfl (fun _ _ _ h => h) (.cons .here rfl (.cons .here rfl (.cons .here rfl (.cons .here rfl .nil)))) rfl ?_
      refine RunA.val (i := 2) rfl (by kernel_rfl) (by kernel_rfl) (Val.indexAddr_slp rfl rfl sl_34 (by omega) (by omega) rfl) rfl rfl rfl (fun _ _ _ h => h) (.cons .here rfl (.cons .here rfl (.cons .here rfl (.cons .here rfl .nil)))) rfl ?_
      refine RunA.val (i := 3) rfl (by kernel_rfl) (by kernel_rfl) (Val.load_gen rfl (fun w hm => (Sl.rowsR (xs := intsW (SureX m.pl).1) (t := rx82) (hm.at (.tail _ (.tail _ (.tail _ (.head _))))) (ints_row _)).loadM1 (by decide) (Mem.refl w) (by simp) ty_3 hj (v := .int .i64 y) (by simp [hy]))) rfl rfl rfl (fun _ _ _ h => h) (.cons .here rfl (.cons .here rfl (.cons .here rfl (.cons .here rfl .nil)))) rfl ?_
      refine RunA.val (i := 4) rfl (by kernel_rfl) (by kernel_rfl) (Val.pure rfl) rfl rfl rfl (fun _ _ _ h => h) (.cons .here rfl (.cons .here rfl (.cons .here rfl (.cons .here rfl .nil)))) rfl ?_
      refine RunA.val (i := 5) rfl (by kernel_rfl) (by kernel_rfl) (Val.pure rfl) rfl rfl rfl (fun _ _ _ h => h) (.cons .here rfl (.cons .here rfl (.cons .here rfl (.cons .here rfl .nil)))) rfl ?_
      refine RunA.val (i := 6) rfl (by kernel_rfl) (by kernel_rfl) (Val.len_sl rfl sl_34) rfl rfl rfl (fun _ _ _ h => h) (.cons .here rfl (.cons .here rfl (.cons .here rfl (.cons .here rfl .nil)))) rfl ?_
      refine RunA.val (i := 7) rfl (by kernel_rfl) (by kernel_rfl) (Val.subN (a := (SureX m.pl).1.length) (b := 1) ((SureX m.pl).1.length - 1) rfl rfl (by omega) (i64_inN (by omega))) rfl rfl rfl (fun _ _ _ h => h) (.cons .here rfl (.cons .here rfl (.cons .here rfl (.cons .here rfl .nil)))) rfl ?_
      refine RunA.val (i := 8) rfl (by kernel_rfl) (by kernel_rfl) (Val.pure rfl) rfl rfl rfl (fun _ _ _ h => h) (.cons .here rfl (.cons .here rfl (.cons .here rfl (.cons .here rfl .nil)))) rfl ?_
      refine RunA.val (i := 9) rfl (by kernel_rfl) (by kernel_rfl) (Val.subN (a := (SureX m.pl).1.length - 1) (b := j) ((SureX m.pl).1.length - 1 - j) rfl rfl (by omega) (i64_inN (by omega))) rfl rfl rfl (fun _ _ _ h => h) (.cons .here rfl (.cons .here rfl (.cons .here rfl (.cons .here rfl .nil)))) rfl ?_
      refine RunA.val (i := 10) rfl (by kernel_rfl) (by kernel_rfl) (Val.indexAddr_slp rfl rfl sl_34 (by omega) (by rw [turn_pl]; omega) rfl) rfl rfl rfl (fun _ _ _ h => h) (.cons .here rfl (.cons .here rfl (.cons .here rfl (.cons .here rfl .nil)))) rfl ?_
      refine RunA.val (i := 11) rfl (by kernel_rfl) (by kernel_rfl) (Val.load_gen rfl (fun w hm => (Sl.rowsR (xs := intsW (SureX (turnA m x).pl).1) (t := rx87) (hm.at (.tail _ (.tail _ (.head _)))) (ints_row _)).loadM1 (by decide) (Mem.refl w) (by simp) ty_3 (by rw [turn_pl]; exact hj2) (v := .int .i64 y2) (by simp [turn_pl, hy2]))) rfl rfl rfl (fun _ _ _ h => h) (.cons .here rfl (.cons .here rfl (.cons .here rfl (.cons .here rfl .nil)))) rfl ?_
      refine RunA.toB (by kernel_rfl) ?_
      refine RunB.one (i := 12) (by kernel_rfl) ?_
      refine RunI.val rfl (Val.pure rfl) rfl rfl rfl (RunK.toB ?_)
      refine RunB.done (by kernel_rfl) ?_
      refine RunE.next ?_
      refine RunC.cond rfl (fun h => absurd h (by simp [hxy])) ?_
      intro c4
      clear c4
      refine RunC.skip ?_
      refine RunE.block_normal ?_
      refine RunE.next ?_
      refine RunC.region ?_
      refine RunL.val (Val.add rfl rfl (IntWalk.i64_in _ ⟨by omega, by omega⟩)) rfl rfl rfl ?_
      refine RunL.val (Val.pure rfl) rfl rfl rfl ?_
      refine RunL.nil ?_
      exact RunE.round (by omega) trivial rfl (Sub.consE (t := 163) rfl rfl (Sub.cons (t := 1) rfl (Sub.cons (t := 2) rfl (Sub.cons (t := 3) rfl (Sub.cons (t := 7) rfl (Sub.cons (t := 8) rfl (Sub.cons (t := 14) rfl (Sub.cons (t := 16) rfl (Sub.cons (t := 162) rfl (Sub.nil _)))))))))) (.cons .here rfl (.cons .here rfl (.cons .here rfl (.cons .here rfl (Pick.refl _)))))
    · intro c3
      have c3' := c3; clear c3
      try simp only [decide_eq_true_eq, decide_eq_false_iff_not, Bool.not_eq_true', Bool.not_eq_false', Bool.and_eq_true, Bool.or_eq_true, Bool.and_eq_false_iff, Bool.or_eq_false_iff, Int.not_le, Int.not_lt] at c3'
      refine RunC.exit ?_
      refine RunE.pass_exit ?_
      refine RunE.pass_exit ?_
      refine RunE.block_here ?_
      refine RunE.next ?_
      refine RunC.seq ?_
      refine RunC.region ?_
      refine RunL.val (Val.load_agg rfl (.tail _ (.head _)) ty_25 rfl) rfl rfl rfl ?_
      refine RunL.val (Val.pure rfl) rfl rfl rfl ?_
      refine RunL.callP (isCall_func rfl ent_14) rfl rfl rfl (fun w hm => fits_calls m hsm c w (hM.mono0 hm)) ?_
      iterate 5 refine RunL.val (Val.pure rfl) rfl rfl rfl ?_
      refine RunL.nil ?_
      refine RunE.next ?_
      refine RunC.seq ?_
      refine RunC.region ?_
      refine RunL.val (Val.load_agg rfl (.head _) ty_25 rfl) rfl rfl rfl ?_
      refine RunL.val (Val.pure rfl) rfl rfl rfl ?_
      refine RunL.val (Val.sub' rfl rfl (IntWalk.i64_in _ ⟨by omega, by omega⟩)) rfl rfl rfl ?_
      refine RunL.val (Val.pure rfl) rfl rfl rfl ?_
      refine RunL.val (Val.sub_wrap rfl rfl) rfl rfl rfl ?_
      refine RunL.callP (isCall_func rfl ent_14) rfl rfl rfl (fun w hm => (by have h9 := fits_calls (turnA m x) hsmx (IntKind.i64.wrap ((m.cards.length : Int) - 1 - c)) w (turn_ok hM hm hx1 (fun b o h => hm.at (.tail _ (.tail _ ((by first | exact List.mem_append_right _ (List.mem_append_right _ (List.mem_append_left _ h)) | exact List.mem_append_right _ (List.mem_append_right _ (List.mem_append_right _ (List.mem_append_left _ h))))))))); rw [turn_pl, hc1] at h9; exact h9)) ?_
      iterate 5 refine RunL.val (Val.pure rfl) rfl rfl rfl ?_
      refine RunL.nil ?_
      refine RunE.next ?_
      refine RunC.seq ?_
      refine RunC.region ?_
      refine RunL.val (Val.load_agg rfl (.tail _ (.head _)) ty_25 rfl) rfl rfl rfl ?_
      refine RunL.val (Val.pure rfl) rfl rfl rfl ?_
      refine RunL.val (Val.pure rfl) rfl rfl rfl ?_
      refine RunL.callP (isCall_func rfl ent_21) rfl rfl rfl (fun w hm => shareh_calls m hsm c e w (hM.mono0 hm)) ?_
      iterate 5 refine RunL.val (Val.pure rfl) rfl rfl rfl ?_
      refine RunL.nil ?_
      refine RunE.next ?_
      refine RunC.seq ?_
      refine RunC.region ?_
      refine RunL.val (Val.load_agg rfl (.head _) ty_25 rfl) rfl rfl rfl ?_
      refine RunL.val (Val.pure rfl) rfl rfl rfl ?_
      refine RunL.val (Val.sub' rfl rfl (IntWalk.i64_in _ ⟨by omega, by omega⟩)) rfl rfl rfl ?_
      refine RunL.val (Val.pure rfl) rfl rfl rfl ?_
      refine RunL.val (Val.sub_wrap rfl rfl) rfl rfl rfl ?_
      refine RunL.val (Val.pure rfl) rfl rfl rfl ?_
      refine RunL.callP (isCall_func rfl ent_21) rfl rfl rfl (fun w hm => (by have h9 := shareh_calls (turnA m x) hsmx (IntKind.i64.wrap ((m.cards.length : Int) - 1 - c)) e w (turn_ok hM hm hx1 (fun b o h => hm.at (.tail _ (.tail _ ((by first | exact List.mem_append_right _ (List.mem_append_right _ (List.mem_append_left _ h)) | exact List.mem_append_right _ (List.mem_append_right _ (List.mem_append_right _ (List.mem_append_left _ h))))))))); rw [turn_pl, hc3] at h9; exact h9)) ?_
      iterate 5 refine RunL.val (Val.pure rfl) rfl rfl rfl ?_
      refine RunL.nil ?_
      refine RunE.next ?_
      refine RunC.seq ?_
      refine RunC.region ?_
      iterate 4 refine RunL.val (Val.pure rfl) rfl rfl rfl ?_
      refine RunL.sure (dj := 215) true rfl (by simp) ?_
      iterate 5 refine RunL.val (Val.pure rfl) rfl rfl rfl ?_
      refine RunL.sure (dj := 220) true rfl (by simp) ?_
      iterate 5 refine RunL.val (Val.pure rfl) rfl rfl rfl ?_
      refine RunL.sure (dj := 225) true rfl (by simp) ?_
      iterate 5 refine RunL.val (Val.pure rfl) rfl rfl rfl ?_
      refine RunL.sure (dj := 230) true rfl (by simp) ?_
      refine RunL.callP (isCall_func rfl ent_13) rfl rfl rfl (fun w hm => hawake_calls w) ?_
      refine RunL.val (Val.pure rfl) rfl rfl rfl ?_
      refine RunL.val (Val.pure rfl) rfl rfl rfl ?_
      refine RunL.nil ?_
      refine RunE.next ?_
      refine RunC.ret ?_
      exact RunE.retP (.r1 rfl (.tmp rfl)) (by first | rfl | simp)
theorem hturn_calls (m : MxA) (c e : Int) (hc : -9223372036854775808 ≤ c ∧ c ≤ 9223372036854775807) (W : World) (hM : MOk W m) : Calls Tryd.prog 11 #[m.v, .int .i64 c, .int .i64 e] W (Pure (.bool true) W) := by
  cases hf : farX m.pl with
  | true => exact hturn_far m c e W hM hf
  | false =>
    cases hX : mixedX m.pl with
    | false => exact hturn_bad m c e W hM hf hX
    | true => exact hturn_ok m c e hc W hM hf hX
end Go.Proofs.YtlhdalcipflblaaDoor
/- The facts on the tables of types and on the entries of functions that the walks use. Written by program. -/
set_option linter.unusedSimpArgs false
set_option linter.unusedVariables false
namespace Go.Proofs.YtlhdalcipflblaaDoor
open Go Go.Eng

end Go.Proofs.YtlhdalcipflblaaDoor
/- Walks of the laws of layer 10: HeapShares. -/
set_option linter.unusedSimpArgs false
set_option linter.unusedVariables false
namespace Go.Proofs.YtlhdalcipflblaaDoor
open Go Go.Eng Go.Hp Go.Pw1

theorem hshare_far (m : MxA) (W : World) (hM : MOk W m) (hf : farX m.pl = true) : Calls Tryd.prog 7 #[m.v] W (Pure (.bool true) W) := by
  refine calls_start Tryd.func7 rfl rfl ?_
  refine RunC.seq ?_
  refine RunC.region ?_
  refine RunL.new (New.box rfl) rfl rfl rfl (fun b1 => ?_)
  refine RunL.val (Val.pure rfl) rfl rfl rfl ?_
  refine RunL.nil ?_
  refine RunE.next ?_
  refine RunC.seq ?_
  refine RunC.seq ?_
  refine RunC.region ?_
  refine RunL.val (Val.load_agg rfl (.head _) ty_25 rfl) rfl rfl rfl ?_
  refine RunL.callP (isCall_func rfl ent_12) rfl rfl rfl (fun w hm => far_calls m w (hM.mono0 hm)) ?_
  refine RunL.nil ?_
  refine RunE.next ?_
  refine RunC.cond rfl ?_ (fun h => absurd h (by simp [hf]))
  intro c0
  clear c0
  refine RunC.seq ?_
  refine RunC.region ?_
  refine RunL.callP (isCall_func rfl ent_13) rfl rfl rfl (fun w hm => hawake_calls w) ?_
  refine RunL.val (Val.pure rfl) rfl rfl rfl ?_
  refine RunL.nil ?_
  refine RunE.next ?_
  refine RunC.ret ?_
  refine RunE.pass_ret ?_
  exact RunE.retP (.r1 rfl (.tmp rfl)) (by first | rfl | simp)
theorem hshare_bad (m : MxA) (W : World) (hM : MOk W m) (hf : farX m.pl = false) (hX : mixedX m.pl = false) : Calls Tryd.prog 7 #[m.v] W (Pure (.bool true) W) := by
  have hsm := far_sm hf
  have hw : waysE m.pl = 1 := by unfold waysE; rw [hX]; rfl
  have e1 : CountX m.pl = (0, 1) := by unfold CountX; rw [hX]; rfl
  have e2 : LostX m.pl = ((0, 0), 1) := by unfold LostX; rw [hw]; rfl
  refine calls_start Tryd.func7 rfl rfl ?_
  refine RunC.seq ?_
  refine RunC.region ?_
  refine RunL.new (New.box rfl) rfl rfl rfl (fun b1 => ?_)
  refine RunL.val (Val.pure rfl) rfl rfl rfl ?_
  refine RunL.nil ?_
  refine RunE.next ?_
  refine RunC.seq ?_
  refine RunC.seq ?_
  refine RunC.region ?_
  refine RunL.val (Val.load_agg rfl (.head _) ty_25 rfl) rfl rfl rfl ?_
  refine RunL.callP (isCall_func rfl ent_12) rfl rfl rfl (fun w hm => far_calls m w (hM.mono0 hm)) ?_
  refine RunL.nil ?_
  refine RunE.next ?_
  refine RunC.cond rfl (fun h => absurd h (by simp [hf])) ?_
  intro c0
  clear c0
  refine RunC.skip ?_
  refine RunE.next ?_
  refine RunC.seq ?_
  refine RunC.region ?_
  refine RunL.val (Val.load_agg rfl (.head _) ty_25 rfl) rfl rfl rfl ?_
  refine RunL.callP (isCall_func rfl ent_19) rfl rfl rfl (fun w hm => (by have h9 := counth_calls m hsm w (hM.mono0 hm); rw [e1] at h9; exact h9)) ?_
  iterate 5 refine RunL.val (Val.pure rfl) rfl rfl rfl ?_
  refine RunL.nil ?_
  refine RunE.next ?_
  refine RunC.seq ?_
  refine RunC.region ?_
  refine RunL.val (Val.load_agg rfl (.head _) ty_25 rfl) rfl rfl rfl ?_
  refine RunL.callP (isCall_func rfl ent_25) rfl rfl rfl (fun w hm => (by have h9 := sure_err m hsm w (hM.mono0 hm) (by rw [hw]; decide); rw [hw] at h9; exact h9)) ?_
  iterate 5 refine RunL.val (Val.pure rfl) rfl rfl rfl ?_
  refine RunL.nil ?_
  refine RunE.next ?_
  refine RunC.seq ?_
  refine RunC.region ?_
  refine RunL.val (Val.load_agg rfl (.head _) ty_25 rfl) rfl rfl rfl ?_
  refine RunL.callP (isCall_func rfl ent_27) rfl rfl rfl (fun w hm => (by have h9 := lost_calls m hsm w (hM.mono0 hm); rw [e2] at h9; exact h9)) ?_
  iterate 7 refine RunL.val (Val.pure rfl) rfl rfl rfl ?_
  refine RunL.nil ?_
  refine RunE.next ?_
  refine RunC.seq ?_
  refine RunC.seq ?_
  refine RunC.region ?_
  iterate 3 refine RunL.val (Val.pure rfl) rfl rfl rfl ?_
  refine RunL.sure (dj := 43) true rfl (by simp [hX]) ?_
  iterate 3 refine RunL.no rfl rfl rfl ?_
  refine RunL.val (Val.pure rfl) rfl rfl rfl ?_
  refine RunL.nil ?_
  refine RunE.next ?_
  refine RunC.cond rfl ?_ (fun h => absurd h (by simp))
  intro c1
  clear c1
  refine RunC.seq ?_
  refine RunC.region ?_
  iterate 3 refine RunL.val (Val.pure rfl) rfl rfl rfl ?_
  refine RunL.sure (dj := 50) true rfl (by simp [hX]) ?_
  refine RunL.val (Val.pure rfl) rfl rfl rfl ?_
  refine RunL.val (Val.len_sl rfl sl_34) rfl rfl rfl ?_
  iterate 3 refine RunL.val (Val.pure rfl) rfl rfl rfl ?_
  refine RunL.sure (dj := 55) true rfl (by simp [hX]) ?_
  iterate 4 refine RunL.val (Val.pure rfl) rfl rfl rfl ?_
  refine RunL.sure (dj := 59) true rfl (by simp [hX]) ?_
  iterate 4 refine RunL.val (Val.pure rfl) rfl rfl rfl ?_
  refine RunL.sure (dj := 63) true rfl (by simp [hX]) ?_
  iterate 4 refine RunL.val (Val.pure rfl) rfl rfl rfl ?_
  refine RunL.sure (dj := 67) true rfl (by simp [hX]) ?_
  iterate 5 refine RunL.val (Val.pure rfl) rfl rfl rfl ?_
  refine RunL.sure (dj := 72) true rfl (by simp [hX]) ?_
  iterate 5 refine RunL.val (Val.pure rfl) rfl rfl rfl ?_
  refine RunL.sure (dj := 77) true rfl (by simp [hX]) ?_
  refine RunL.val (Val.load_agg rfl (.head _) ty_25 rfl) rfl rfl rfl ?_
  refine RunL.callP (isCall_func rfl ent_33) rfl rfl rfl (fun w hm => rMixed_calls m hsm w (hM.mono0 hm)) ?_
  iterate 3 refine RunL.val (Val.pure rfl) rfl rfl rfl ?_
  refine RunL.sure (dj := 82) true rfl (by simp [hX]) ?_
  refine RunL.callP (isCall_func rfl ent_13) rfl rfl rfl (fun w hm => hawake_calls w) ?_
  refine RunL.val (Val.pure rfl) rfl rfl rfl ?_
  refine RunL.val (Val.pure rfl) rfl rfl rfl ?_
  refine RunL.nil ?_
  refine RunE.next ?_
  refine RunC.ret ?_
  refine RunE.pass_ret ?_
  exact RunE.retP (.r1 rfl (.tmp rfl)) (by first | rfl | simp)
set_option maxHeartbeats 1000000 in
theorem hshare_ok (m : MxA) (W : World) (hM : MOk W m) (hf : farX m.pl = false) (hX : mixedX m.pl = true) : Calls Tryd.prog 7 #[m.v] W (Pure (.bool true) W) := by
  have hsm := far_sm hf
  obtain ⟨h4, h8, h12⟩ := mixed_ok hX
  have hfl := fs_len m
  have hall := fs12 hX
  have e1 : CountX m.pl = ((cntX m.pl : Int), 0) := by unfold CountX; rw [if_pos hX]
  obtain ⟨E, S, lo, ca, hSL⟩ := sl_is hX
  have hcs := cnt_small m hX
  have hp12 : 2 ^ (esX m).length ≤ 2 ^ 12 := Nat.pow_le_pow_right (by decide) h12
  have hlo := hSL.lol
  have hca := hSL.cal
  obtain ⟨n, hn⟩ : ∃ n, cntX m.pl = n := ⟨_, rfl⟩
  have hcn : cntL (esX m).length (fsX m.pl) 0 = n := hn
  have hok := hSL.ok
  have hno := hSL.no
  rw [hn] at hok hno hcs e1
  have hE : (E = 0 ∧ 0 < n ∧ S.length = m.cards.length) ∨ (E = 4 ∧ n = 0 ∧ S.length = 0 ∧ lo = 0 ∧ ca = 0) := by
    by_cases h0 : E = 0
    · obtain ⟨h1, h2, _⟩ := hok h0
      exact .inl ⟨h0, h1, by rw [h2]; simp⟩
    · obtain ⟨h1, h2, h3, h5, h6⟩ := hno h0
      exact .inr ⟨h1, h2, by rw [h3]; rfl, h5, h6⟩
  have hsure : ∀ (w : World), MOk w m → Calls Tryd.prog 25 #[m.v] w (News (fun z : IO S => .tuple #[.slice (ownQ z.1) S.length (ownC z.1), .int .i64 E]) (fun z => ownB 3 z.1 (intsW S).flatten ++ []) w) := fun w hM => by
    have h9 := sure_any m hsm w hM
    rw [hSL.sure] at h9
    exact h9
  have hl9 : lo >>> (esX m).length = 0 := by rw [Nat.shiftRight_eq_div_pow]; exact Nat.div_eq_of_lt hlo
  have hc9 : ca >>> (esX m).length = 0 := by rw [Nat.shiftRight_eq_div_pow]; exact Nat.div_eq_of_lt hca
  refine calls_start Tryd.func7 rfl rfl ?_
  refine RunC.seq ?_
  refine RunC.region ?_
  refine RunL.new (New.box rfl) rfl rfl rfl (fun b1 => ?_)
  refine RunL.val (Val.pure rfl) rfl rfl rfl ?_
  refine RunL.nil ?_
  refine RunE.next ?_
  refine RunC.seq ?_
  refine RunC.seq ?_
  refine RunC.region ?_
  refine RunL.val (Val.load_agg rfl (.head _) ty_25 rfl) rfl rfl rfl ?_
  refine RunL.callP (isCall_func rfl ent_12) rfl rfl rfl (fun w hm => far_calls m w (hM.mono0 hm)) ?_
  refine RunL.nil ?_
  refine RunE.next ?_
  refine RunC.cond rfl (fun h => absurd h (by simp [hf])) ?_
  intro c0
  clear c0
  refine RunC.skip ?_
  refine RunE.next ?_
  refine RunC.seq ?_
  refine RunC.region ?_
  refine RunL.val (Val.load_agg rfl (.head _) ty_25 rfl) rfl rfl rfl ?_
  refine RunL.callP (isCall_func rfl ent_19) rfl rfl rfl (fun w hm => (by have h9 := counth_calls m hsm w (hM.mono0 hm); rw [e1] at h9; exact h9)) ?_
  iterate 5 refine RunL.val (Val.pure rfl) rfl rfl rfl ?_
  refine RunL.nil ?_
  refine RunE.next ?_
  refine RunC.seq ?_
  refine RunC.region ?_
  refine RunL.val (Val.load_agg rfl (.head _) ty_25 rfl) rfl rfl rfl ?_
  refine RunL.callNT (isCall_func rfl ent_25) rfl rfl rfl (fun w hm => hsure w (hM.mono0 hm)) (fun z32 => ?_)
  obtain ⟨x32, hx32⟩ := z32
  dsimp only
  iterate 5 refine RunL.val (Val.pure rfl) rfl rfl rfl ?_
  refine RunL.nil ?_
  refine RunE.next ?_
  refine RunC.seq ?_
  refine RunC.region ?_
  refine RunL.val (Val.load_agg rfl (.head _) ty_25 rfl) rfl rfl rfl ?_
  refine RunL.callP (isCall_func rfl ent_27) rfl rfl rfl (fun w hm => (by have h9 := lost_calls m hsm w (hM.mono0 hm); rw [hSL.lost] at h9; exact h9)) ?_
  iterate 7 refine RunL.val (Val.pure rfl) rfl rfl rfl ?_
  refine RunL.nil ?_
  refine RunE.next ?_
  refine RunC.seq ?_
  refine RunC.seq ?_
  refine RunC.region ?_
  iterate 3 refine RunL.val (Val.pure rfl) rfl rfl rfl ?_
  refine RunL.orPart (dj := 43) (dp := 47) 4 rfl (fun g43 => by
    have g43' := g43
    try simp only [decide_eq_true_eq, decide_eq_false_iff_not, Bool.not_eq_true', Bool.not_eq_false', Bool.and_eq_true, Bool.or_eq_true, Bool.and_eq_false_iff, Bool.or_eq_false_iff, Int.not_le, Int.not_lt] at g43'
    refine RunL.val (Val.load_agg rfl (.head _) ty_25 rfl) rfl rfl rfl ?_
    refine RunL.callP (isCall_func rfl ent_33) rfl rfl rfl (fun w hm => rMixed_calls m hsm w (hM.mono0 hm)) ?_
    refine RunL.val (Val.pure rfl) rfl rfl rfl ?_
    refine RunL.val (Val.pure rfl) rfl rfl rfl ?_
    exact RunL.segEnd (Sub.cons rfl (Sub.skip rfl (Sub.skip rfl (Sub.skip rfl (Sub.skip rfl (Sub.same rfl (by rw [g43]) (Sub.refl _))))))) (List.Sublist.refl _)
  ) (fun g43 => by
    have g43' := g43
    try simp only [decide_eq_true_eq, decide_eq_false_iff_not, Bool.not_eq_true', Bool.not_eq_false', Bool.and_eq_true, Bool.or_eq_true, Bool.and_eq_false_iff, Bool.or_eq_false_iff, Int.not_le, Int.not_lt] at g43'
    iterate 3 refine RunL.no rfl rfl rfl ?_
    refine RunL.val (Val.pure rfl) rfl rfl rfl ?_
    exact RunL.segEnd (Sub.cons rfl (Sub.skip rfl (Sub.skip rfl (Sub.skip rfl (Sub.skip rfl (Sub.same rfl (by rw [g43]) (Sub.refl _))))))) (List.Sublist.refl _)
  ) ?_
  refine RunL.nil ?_
  refine RunE.next ?_
  refine RunC.cond rfl (fun h => absurd h (by simp [hX])) ?_
  intro c1
  clear c1
  refine RunC.skip ?_
  refine RunE.next ?_
  refine RunC.seq ?_
  refine RunC.seq ?_
  refine RunC.region ?_
  iterate 3 refine RunL.val (Val.pure rfl) rfl rfl rfl ?_
  refine RunL.orPart (dj := 87) (dp := 93) 6 rfl (fun g87 => by
    have g87' := g87
    try simp only [decide_eq_true_eq, decide_eq_false_iff_not, Bool.not_eq_true', Bool.not_eq_false', Bool.and_eq_true, Bool.or_eq_true, Bool.and_eq_false_iff, Bool.or_eq_false_iff, Int.not_le, Int.not_lt] at g87'
    iterate 4 refine RunL.val (Val.pure rfl) rfl rfl rfl ?_
    refine RunL.val (Val.neq_bool rfl rfl boolB_4) rfl rfl rfl ?_
    refine RunL.val (Val.pure rfl) rfl rfl rfl ?_
    exact RunL.segEnd (Sub.cons rfl (Sub.skip rfl (Sub.skip rfl (Sub.skip rfl (Sub.skip rfl (Sub.skip rfl (Sub.skip rfl (Sub.same rfl (by rw [g87]) (Sub.refl _))))))))) (List.Sublist.refl _)
  ) (fun g87 => by
    have g87' := g87
    try simp only [decide_eq_true_eq, decide_eq_false_iff_not, Bool.not_eq_true', Bool.not_eq_false', Bool.and_eq_true, Bool.or_eq_true, Bool.and_eq_false_iff, Bool.or_eq_false_iff, Int.not_le, Int.not_lt] at g87'
    iterate 5 refine RunL.no rfl rfl rfl ?_
    refine RunL.val (Val.pure rfl) rfl rfl rfl ?_
    exact RunL.segEnd (Sub.cons rfl (Sub.skip rfl (Sub.skip rfl (Sub.skip rfl (Sub.skip rfl (Sub.skip rfl (Sub.skip rfl (Sub.same rfl (by rw [g87]) (Sub.refl _))))))))) (List.Sublist.refl _)
  ) ?_
  refine RunL.val (Val.pure rfl) rfl rfl rfl ?_
  refine RunL.orPart (dj := 94) (dp := 98) 4 rfl (fun g94 => by
    have g94' := g94
    try simp only [decide_eq_true_eq, decide_eq_false_iff_not, Bool.not_eq_true', Bool.not_eq_false', Bool.and_eq_true, Bool.or_eq_true, Bool.and_eq_false_iff, Bool.or_eq_false_iff, Int.not_le, Int.not_lt] at g94'
    iterate 4 refine RunL.val (Val.pure rfl) rfl rfl rfl ?_
    exact RunL.segEnd (Sub.cons rfl (Sub.skip rfl (Sub.skip rfl (Sub.skip rfl (Sub.skip rfl (Sub.same rfl (by rw [g94]) (Sub.refl _))))))) (List.Sublist.refl _)
  ) (fun g94 => by
    have g94' := g94
    try simp only [decide_eq_true_eq, decide_eq_false_iff_not, Bool.not_eq_true', Bool.not_eq_false', Bool.and_eq_true, Bool.or_eq_true, Bool.and_eq_false_iff, Bool.or_eq_false_iff, Int.not_le, Int.not_lt] at g94'
    iterate 3 refine RunL.no rfl rfl rfl ?_
    refine RunL.val (Val.pure rfl) rfl rfl rfl ?_
    exact RunL.segEnd (Sub.cons rfl (Sub.skip rfl (Sub.skip rfl (Sub.skip rfl (Sub.skip rfl (Sub.same rfl (by rw [g94]) (Sub.refl _))))))) (List.Sublist.refl _)
  ) ?_
  refine RunL.val (Val.pure rfl) rfl rfl rfl ?_
  refine RunL.orPart (dj := 99) (dp := 119) 20 rfl (fun g99 => by
    have g99' := g99
    try simp only [decide_eq_true_eq, decide_eq_false_iff_not, Bool.not_eq_true', Bool.not_eq_false', Bool.and_eq_true, Bool.or_eq_true, Bool.and_eq_false_iff, Bool.or_eq_false_iff, Int.not_le, Int.not_lt] at g99'
    iterate 3 refine RunL.val (Val.pure rfl) rfl rfl rfl ?_
    refine RunL.andPart (dj := 102) (dp := 118) 16 rfl (fun g102 => by
      have g102' := g102
      try simp only [decide_eq_true_eq, decide_eq_false_iff_not, Bool.not_eq_true', Bool.not_eq_false', Bool.and_eq_true, Bool.or_eq_true, Bool.and_eq_false_iff, Bool.or_eq_false_iff, Int.not_le, Int.not_lt] at g102'
      iterate 3 refine RunL.val (Val.pure rfl) rfl rfl rfl ?_
      refine RunL.orPart (dj := 105) (dp := 109) 4 rfl (fun g105 => by
        have g105' := g105
        try simp only [decide_eq_true_eq, decide_eq_false_iff_not, Bool.not_eq_true', Bool.not_eq_false', Bool.and_eq_true, Bool.or_eq_true, Bool.and_eq_false_iff, Bool.or_eq_false_iff, Int.not_le, Int.not_lt] at g105'
        refine RunL.val (Val.pure rfl) rfl rfl rfl ?_
        refine RunL.val (Val.len_sl rfl sl_34) rfl rfl rfl ?_
        refine RunL.val (Val.pure rfl) rfl rfl rfl ?_
        refine RunL.val (Val.pure rfl) rfl rfl rfl ?_
        exact RunL.segEnd (Sub.cons rfl (Sub.skip rfl (Sub.skip rfl (Sub.skip rfl (Sub.skip rfl (Sub.same rfl (by rw [g105]) (Sub.refl _))))))) (List.Sublist.refl _)
      ) (fun g105 => by
        have g105' := g105
        try simp only [decide_eq_true_eq, decide_eq_false_iff_not, Bool.not_eq_true', Bool.not_eq_false', Bool.and_eq_true, Bool.or_eq_true, Bool.and_eq_false_iff, Bool.or_eq_false_iff, Int.not_le, Int.not_lt] at g105'
        iterate 3 refine RunL.no rfl rfl rfl ?_
        refine RunL.val (Val.pure rfl) rfl rfl rfl ?_
        exact RunL.segEnd (Sub.cons rfl (Sub.skip rfl (Sub.skip rfl (Sub.skip rfl (Sub.skip rfl (Sub.same rfl (by rw [g105]) (Sub.refl _))))))) (List.Sublist.refl _)
      ) ?_
      refine RunL.val (Val.pure rfl) rfl rfl rfl ?_
      refine RunL.orPart (dj := 110) (dp := 113) 3 rfl (fun g110 => by
        have g110' := g110
        try simp only [decide_eq_true_eq, decide_eq_false_iff_not, Bool.not_eq_true', Bool.not_eq_false', Bool.and_eq_true, Bool.or_eq_true, Bool.and_eq_false_iff, Bool.or_eq_false_iff, Int.not_le, Int.not_lt] at g110'
        iterate 3 refine RunL.val (Val.pure rfl) rfl rfl rfl ?_
        exact RunL.segEnd (Sub.cons rfl (Sub.skip rfl (Sub.skip rfl (Sub.skip rfl (Sub.same rfl (by rw [g110]) (Sub.refl _)))))) (List.Sublist.refl _)
      ) (fun g110 => by
        have g110' := g110
        try simp only [decide_eq_true_eq, decide_eq_false_iff_not, Bool.not_eq_true', Bool.not_eq_false', Bool.and_eq_true, Bool.or_eq_true, Bool.and_eq_false_iff, Bool.or_eq_false_iff, Int.not_le, Int.not_lt] at g110'
        refine RunL.no rfl rfl rfl ?_
        refine RunL.no rfl rfl rfl ?_
        refine RunL.val (Val.pure rfl) rfl rfl rfl ?_
        exact RunL.segEnd (Sub.cons rfl (Sub.skip rfl (Sub.skip rfl (Sub.skip rfl (Sub.same rfl (by rw [g110]) (Sub.refl _)))))) (List.Sublist.refl _)
      ) ?_
      refine RunL.val (Val.pure rfl) rfl rfl rfl ?_
      refine RunL.orPart (dj := 114) (dp := 117) 3 rfl (fun g114 => by
        have g114' := g114
        try simp only [decide_eq_true_eq, decide_eq_false_iff_not, Bool.not_eq_true', Bool.not_eq_false', Bool.and_eq_true, Bool.or_eq_true, Bool.and_eq_false_iff, Bool.or_eq_false_iff, Int.not_le, Int.not_lt] at g114'
        iterate 3 refine RunL.val (Val.pure rfl) rfl rfl rfl ?_
        exact RunL.segEnd (Sub.cons rfl (Sub.skip rfl (Sub.skip rfl (Sub.skip rfl (Sub.same rfl (by rw [g114]) (Sub.refl _)))))) (List.Sublist.refl _)
      ) (fun g114 => by
        have g114' := g114
        try simp only [decide_eq_true_eq, decide_eq_false_iff_not, Bool.not_eq_true', Bool.not_eq_false', Bool.and_eq_true, Bool.or_eq_true, Bool.and_eq_false_iff, Bool.or_eq_false_iff, Int.not_le, Int.not_lt] at g114'
        refine RunL.no rfl rfl rfl ?_
        refine RunL.no rfl rfl rfl ?_
        refine RunL.val (Val.pure rfl) rfl rfl rfl ?_
        exact RunL.segEnd (Sub.cons rfl (Sub.skip rfl (Sub.skip rfl (Sub.skip rfl (Sub.same rfl (by rw [g114]) (Sub.refl _)))))) (List.Sublist.refl _)
      ) ?_
      refine RunL.val (Val.pure rfl) rfl rfl rfl ?_
      exact RunL.segEnd (Sub.cons rfl (Sub.skip rfl (Sub.skip rfl (Sub.skip rfl (Sub.skip rfl (Sub.skip rfl (Sub.skip rfl (Sub.skip rfl (Sub.skip rfl (Sub.skip rfl (Sub.same rfl (by rw [g102]) (Sub.refl _)))))))))))) (List.Sublist.refl _)
    ) (fun g102 => by
      have g102' := g102
      try simp only [decide_eq_true_eq, decide_eq_false_iff_not, Bool.not_eq_true', Bool.not_eq_false', Bool.and_eq_true, Bool.or_eq_true, Bool.and_eq_false_iff, Bool.or_eq_false_iff, Int.not_le, Int.not_lt] at g102'
      iterate 15 refine RunL.no rfl rfl rfl ?_
      refine RunL.val (Val.pure rfl) rfl rfl rfl ?_
      exact RunL.segEnd (Sub.cons rfl (Sub.skip rfl (Sub.skip rfl (Sub.skip rfl (Sub.skip rfl (Sub.skip rfl (Sub.skip rfl (Sub.skip rfl (Sub.skip rfl (Sub.skip rfl (Sub.skip rfl (Sub.skip rfl (Sub.skip rfl (Sub.skip rfl (Sub.skip rfl (Sub.skip rfl (Sub.skip rfl (Sub.same rfl (by rw [g102]) (Sub.refl _))))))))))))))))))) (List.Sublist.refl _)
    ) ?_
    refine RunL.val (Val.pure rfl) rfl rfl rfl ?_
    exact RunL.segEnd (Sub.cons rfl (Sub.skip rfl (Sub.skip rfl (Sub.skip rfl (Sub.skip rfl (Sub.skip rfl (Sub.same rfl (by rw [g99]) (Sub.refl _)))))))) (List.Sublist.refl _)
  ) (fun g99 => by
    have g99' := g99
    try simp only [decide_eq_true_eq, decide_eq_false_iff_not, Bool.not_eq_true', Bool.not_eq_false', Bool.and_eq_true, Bool.or_eq_true, Bool.and_eq_false_iff, Bool.or_eq_false_iff, Int.not_le, Int.not_lt] at g99'
    iterate 19 refine RunL.no rfl rfl rfl ?_
    refine RunL.val (Val.pure rfl) rfl rfl rfl ?_
    exact RunL.segEnd (Sub.cons rfl (Sub.skip rfl (Sub.skip rfl (Sub.skip rfl (Sub.skip rfl (Sub.skip rfl (Sub.skip rfl (Sub.skip rfl (Sub.skip rfl (Sub.skip rfl (Sub.skip rfl (Sub.skip rfl (Sub.skip rfl (Sub.skip rfl (Sub.skip rfl (Sub.skip rfl (Sub.skip rfl (Sub.skip rfl (Sub.skip rfl (Sub.skip rfl (Sub.skip rfl (Sub.same rfl (by rw [g99]) (Sub.refl _))))))))))))))))))))))) (List.Sublist.refl _)
  ) ?_
  refine RunL.val (Val.pure rfl) rfl rfl rfl ?_
  refine RunL.orPart (dj := 120) (dp := 131) 11 rfl (fun g120 => by
    have g120' := g120
    try simp only [decide_eq_true_eq, decide_eq_false_iff_not, Bool.not_eq_true', Bool.not_eq_false', Bool.and_eq_true, Bool.or_eq_true, Bool.and_eq_false_iff, Bool.or_eq_false_iff, Int.not_le, Int.not_lt] at g120'
    iterate 3 refine RunL.val (Val.pure rfl) rfl rfl rfl ?_
    refine RunL.andPart (dj := 123) (dp := 130) 7 rfl (fun g123 => by
      have g123' := g123
      try simp only [decide_eq_true_eq, decide_eq_false_iff_not, Bool.not_eq_true', Bool.not_eq_false', Bool.and_eq_true, Bool.or_eq_true, Bool.and_eq_false_iff, Bool.or_eq_false_iff, Int.not_le, Int.not_lt] at g123'
      refine RunL.val (Val.pure rfl) rfl rfl rfl ?_
      refine RunL.val (Val.len_sl rfl sl_34) rfl rfl rfl ?_
      refine RunL.val (Val.fieldAddr rfl fld_25_1) rfl rfl rfl ?_
      refine RunL.val (Val.load_one rfl (.head _) ty_23 rfl) rfl rfl rfl ?_
      refine RunL.val (Val.len_sl rfl sl_23) rfl rfl rfl ?_
      refine RunL.val (Val.pure rfl) rfl rfl rfl ?_
      refine RunL.val (Val.pure rfl) rfl rfl rfl ?_
      exact RunL.segEnd (Sub.cons rfl (Sub.skip rfl (Sub.skip rfl (Sub.skip rfl (Sub.skip rfl (Sub.skip rfl (Sub.skip rfl (Sub.skip rfl (Sub.same rfl (by rw [g123]) (Sub.refl _)))))))))) (List.Sublist.refl _)
    ) (fun g123 => by
      have g123' := g123
      try simp only [decide_eq_true_eq, decide_eq_false_iff_not, Bool.not_eq_true', Bool.not_eq_false', Bool.and_eq_true, Bool.or_eq_true, Bool.and_eq_false_iff, Bool.or_eq_false_iff, Int.not_le, Int.not_lt] at g123'
      iterate 6 refine RunL.no rfl rfl rfl ?_
      refine RunL.val (Val.pure rfl) rfl rfl rfl ?_
      exact RunL.segEnd (Sub.cons rfl (Sub.skip rfl (Sub.skip rfl (Sub.skip rfl (Sub.skip rfl (Sub.skip rfl (Sub.skip rfl (Sub.skip rfl (Sub.same rfl (by rw [g123]) (Sub.refl _)))))))))) (List.Sublist.refl _)
    ) ?_
    refine RunL.val (Val.pure rfl) rfl rfl rfl ?_
    exact RunL.segEnd (Sub.cons rfl (Sub.skip rfl (Sub.skip rfl (Sub.skip rfl (Sub.skip rfl (Sub.skip rfl (Sub.same rfl (by rw [g120]) (Sub.refl _)))))))) (List.Sublist.refl _)
  ) (fun g120 => by
    have g120' := g120
    try simp only [decide_eq_true_eq, decide_eq_false_iff_not, Bool.not_eq_true', Bool.not_eq_false', Bool.and_eq_true, Bool.or_eq_true, Bool.and_eq_false_iff, Bool.or_eq_false_iff, Int.not_le, Int.not_lt] at g120'
    iterate 10 refine RunL.no rfl rfl rfl ?_
    refine RunL.val (Val.pure rfl) rfl rfl rfl ?_
    exact RunL.segEnd (Sub.cons rfl (Sub.skip rfl (Sub.skip rfl (Sub.skip rfl (Sub.skip rfl (Sub.skip rfl (Sub.skip rfl (Sub.skip rfl (Sub.skip rfl (Sub.skip rfl (Sub.skip rfl (Sub.skip rfl (Sub.same rfl (by rw [g120]) (Sub.refl _)))))))))))))) (List.Sublist.refl _)
  ) ?_
  refine RunL.nil ?_
  refine RunE.next ?_
  refine RunC.cond rfl (fun h => absurd h (by rcases hE with ⟨a1, a2, a3⟩ | ⟨a1, a2, a3, a4, a5⟩ <;> simp [a1, a2, a3, *] <;> omega)) ?_
  intro c2
  clear c2
  refine RunC.skip ?_
  refine RunE.next ?_
  refine RunC.seq ?_
  refine RunC.region ?_
  refine RunL.val (Val.load_agg rfl (.head _) ty_25 rfl) rfl rfl rfl ?_
  refine RunL.callNA [(b1, _)] _ rfl (isCall_func rfl ent_34) rfl rfl rfl (fun w hm => rEntries_calls m hsm hX w (hM.mono0 hm)) (fun z133 => ?_)
  obtain ⟨x133, hx133⟩ := z133
  dsimp only
  refine RunL.val (Val.len_sl rfl sl_53) rfl rfl rfl ?_
  refine RunL.val (Val.pure rfl) rfl rfl rfl ?_
  refine RunL.nil ?_
  refine RunE.next ?_
  refine RunC.seq ?_
  refine RunC.region ?_
  refine RunL.val (Val.pure rfl) rfl rfl rfl ?_
  refine RunL.new (New.makeSlice rfl rfl ap_34 zero_3 (by omega) (by decide)) rfl rfl rfl (fun b136 => ?_)
  refine RunL.val (Val.pure rfl) rfl rfl rfl ?_
  refine RunL.nil ?_
  refine RunE.next ?_
  refine RunC.seq ?_
  refine RunC.seq ?_
  refine RunC.region ?_
  refine RunL.val (Val.fieldAddr rfl fld_25_1) rfl rfl rfl ?_
  refine RunL.val (Val.load_one rfl (.tail _ (.head _)) ty_23 rfl) rfl rfl rfl ?_
  refine RunL.val (Val.len_sl rfl sl_23) rfl rfl rfl ?_
  refine RunL.val (Val.pure rfl) rfl rfl rfl ?_
  refine RunL.nil ?_
  refine RunE.next ?_
  refine RunC.block ?_
  refine RunC.loopK (m.cards.length) (fun k q => (140, .int .i64 (k : Int)) :: q) (fun _ => _) (fun k => [(b136, .cells (intsW (byL (esX m).length (fsX m.pl) k 0)).flatten.toArray 3 (0, 0))]) (fun _ => True) trivial rfl (Sub.consE (t := 140) rfl rfl (Sub.cons (t := 1) rfl (Sub.cons (t := 3) rfl (Sub.cons (t := 5) rfl (Sub.cons (t := 6) rfl (Sub.cons (t := 7) rfl (Sub.cons (t := 8) rfl (Sub.cons (t := 10) rfl (Sub.cons (t := 11) rfl (Sub.cons (t := 139) rfl (Sub.nil _))))))))))) (.cons .here (by rw [by_start]) (.cons .here rfl (Pick.refl _))) ?_
  intro k kN kI
  clear kI
  refine RunC.seq ?_
  refine RunC.region ?_
  refine RunL.val (Val.pure rfl) rfl rfl rfl ?_
  refine RunL.nil ?_
  refine RunE.next ?_
  refine RunC.seq ?_
  refine RunC.cond rfl ?_ ?_
  · intro c3
    have c3' := c3; clear c3
    try simp only [decide_eq_true_eq, decide_eq_false_iff_not, Bool.not_eq_true', Bool.not_eq_false', Bool.and_eq_true, Bool.or_eq_true, Bool.and_eq_false_iff, Bool.or_eq_false_iff, Int.not_le, Int.not_lt] at c3'
    have hk : k < m.cards.length := by omega
    have hk2 : k < (fsX m.pl).length := by omega
    obtain ⟨f, hf2⟩ : ∃ f, (fsX m.pl)[k] = f := ⟨_, rfl⟩
    have hf12 := hall f (hf2 ▸ List.getElem_mem hk2)
    have hss := share_sum (ne := (esX m).length) hk2
    rw [hcn] at hss
    have hsl : ∀ j, shareL (esX m).length (fsX m.pl) k j ≤ n := fun j => hcn ▸ share_le hk2 j
    obtain ⟨zz, hzz⟩ : ∃ zz, S.getD k 0 = zz := ⟨_, rfl⟩
    have hSk : E = 0 → zz = lastP (sureP m.pl k) (esX m).length := fun h0 => by (rw [← hzz, (hok h0).2.1]; simp [hk]; rfl)
    have hkS : E = 0 → k < S.length := fun h0 => by rcases hE with ⟨a1, a2, a3⟩ | ⟨a1, a2, a3, a4, a5⟩ <;> omega
    refine RunC.skip ?_
    refine RunE.next ?_
    refine RunC.seq ?_
    refine RunC.block ?_
    refine RunC.seq ?_
    refine RunC.region ?_
    refine RunL.val (Val.pure rfl) rfl rfl rfl ?_
    refine RunL.val (Val.pure rfl) rfl rfl rfl ?_
    refine RunL.nil ?_
    refine RunE.next ?_
    refine RunC.seq ?_
    refine RunC.region ?_
    refine RunL.val (Val.load_agg rfl (.tail _ (.head _)) ty_25 rfl) rfl rfl rfl ?_
    refine RunL.val (Val.pure rfl) rfl rfl rfl ?_
    refine RunL.callP (isCall_func rfl ent_14) rfl rfl rfl (fun w hm => (by have h9 := fits_calls m hsm (k : Int) w (hM.mono0 hm); rw [fits_at hX hk2 hf2] at h9; exact h9)) ?_
    iterate 5 refine RunL.val (Val.pure rfl) rfl rfl rfl ?_
    refine RunL.nil ?_
    refine RunE.next ?_
    refine RunC.seq ?_
    refine RunC.seq ?_
    refine RunC.region ?_
    refine RunL.val (Val.pure rfl) rfl rfl rfl ?_
    refine RunL.val (Val.pure rfl) rfl rfl rfl ?_
    refine RunL.nil ?_
    refine RunE.next ?_
    refine RunC.cond rfl (fun h => absurd h (by simp)) ?_
    intro c4
    clear c4
    refine RunC.skip ?_
    refine RunE.next ?_
    refine RunC.seq ?_
    refine RunC.region ?_
    refine RunL.val (Val.pure rfl) rfl rfl rfl ?_
    refine RunL.val (Val.pure rfl) rfl rfl rfl ?_
    refine RunL.nil ?_
    refine RunE.next ?_
    refine RunC.seq ?_
    refine RunC.seq ?_
    refine RunC.region ?_
    refine RunL.val (Val.pure rfl) rfl rfl rfl ?_
    refine RunL.val (Val.pure rfl) rfl rfl rfl ?_
    refine RunL.nil ?_
    refine RunE.next ?_
    refine RunC.block ?_
    refine RunC.loopK ((esX m).length) (fun j q => (152, .int .i64 (j : Int)) :: (15, .int .i64 ((((List.range j).map (shareL (esX m).length (fsX m.pl) k)).sum : Nat) : Int)) :: (16, .int .i64 (lastP (sureP m.pl k) j)) :: q) (fun _ => _) (fun j => [(b136, .cells (intsW (byL (esX m).length (fsX m.pl) k j)).flatten.toArray 3 (0, 0))]) (fun _ => True) trivial rfl (Sub.consE (t := 152) rfl rfl (Sub.consE (t := 15) rfl rfl (Sub.consE (t := 16) rfl rfl (Sub.cons (t := 1) rfl (Sub.cons (t := 3) rfl (Sub.cons (t := 5) rfl (Sub.cons (t := 6) rfl (Sub.cons (t := 7) rfl (Sub.cons (t := 8) rfl (Sub.cons (t := 10) rfl (Sub.cons (t := 11) rfl (Sub.cons (t := 12) rfl (Sub.cons (t := 13) rfl (Sub.cons (t := 14) rfl (Sub.cons (t := 139) rfl (Sub.cons (t := 140) rfl (Sub.cons (t := 151) rfl (Sub.nil _)))))))))))))))))) (.cons .here rfl (.cons .here rfl (Pick.refl _))) ?_
    intro j jN jI
    clear jI
    refine RunC.seq ?_
    refine RunC.region ?_
    refine RunL.val (Val.pure rfl) rfl rfl rfl ?_
    refine RunL.nil ?_
    refine RunE.next ?_
    refine RunC.seq ?_
    refine RunC.cond rfl ?_ ?_
    · intro c5
      have c5' := c5; clear c5
      try simp only [decide_eq_true_eq, decide_eq_false_iff_not, Bool.not_eq_true', Bool.not_eq_false', Bool.and_eq_true, Bool.or_eq_true, Bool.and_eq_false_iff, Bool.or_eq_false_iff, Int.not_le, Int.not_lt] at c5'
      have hj : j < (esX m).length := by omega
      obtain ⟨v, hv⟩ : ∃ v, shareL (esX m).length (fsX m.pl) k j = v := ⟨_, rfl⟩
      have hvn : v ≤ n := hv ▸ hsl j
      have hsum9 := sum_range_le hsl j
      have hjn : j * n ≤ 12 * n := Nat.mul_le_mul_right n (by omega)
      have hbn := byN_le (ne := (esX m).length) hk2 j j
      rw [hcn] at hbn
      have hkn : (k + 1) * n ≤ 8 * n := Nat.mul_le_mul_right n (by omega)
      have hsk := Nat.shiftRight_le f j
      have hand := Nat.and_le_right (n := f >>> j) (m := 1)
      have hz : f.testBit j = false → v = 0 := fun hb => by
        rcases Nat.eq_zero_or_pos v with h0 | h0
        · exact h0
        · have h9 := share_fit hk2 (hv ▸ h0)
          rw [getD_at hk2 hf2, hb] at h9
          cases h9.1
      refine RunC.skip ?_
      refine RunE.next ?_
      refine RunC.seq ?_
      refine RunC.block ?_
      refine RunC.seq ?_
      refine RunC.region ?_
      refine RunL.val (Val.pure rfl) rfl rfl rfl ?_
      refine RunL.val (Val.pure rfl) rfl rfl rfl ?_
      refine RunL.nil ?_
      refine RunE.next ?_
      refine RunC.seq ?_
      refine RunC.region ?_
      refine RunL.val (Val.load_agg rfl (.tail _ (.head _)) ty_25 rfl) rfl rfl rfl ?_
      refine RunL.val (Val.pure rfl) rfl rfl rfl ?_
      refine RunL.val (Val.pure rfl) rfl rfl rfl ?_
      refine RunL.callP (isCall_func rfl ent_21) rfl rfl rfl (fun w hm => (by have h9 := shareh_calls m hsm (k : Int) (j : Int) w (hM.mono0 hm); rw [share_at hX hk hj, hv] at h9; exact h9)) ?_
      iterate 5 refine RunL.val (Val.pure rfl) rfl rfl rfl ?_
      refine RunL.nil ?_
      refine RunE.next ?_
      refine RunC.seq ?_
      refine RunC.seq ?_
      refine RunC.region ?_
      iterate 3 refine RunL.val (Val.pure rfl) rfl rfl rfl ?_
      refine RunL.orPart (dj := 164) (dp := 167) 3 rfl (fun g164 => by
        have g164' := g164
        try simp only [decide_eq_true_eq, decide_eq_false_iff_not, Bool.not_eq_true', Bool.not_eq_false', Bool.and_eq_true, Bool.or_eq_true, Bool.and_eq_false_iff, Bool.or_eq_false_iff, Int.not_le, Int.not_lt] at g164'
        iterate 3 refine RunL.val (Val.pure rfl) rfl rfl rfl ?_
        exact RunL.segEnd (Sub.cons rfl (Sub.skip rfl (Sub.skip rfl (Sub.skip rfl (Sub.same rfl (by rw [g164]) (Sub.refl _)))))) (List.Sublist.refl _)
      ) (fun g164 => by
        have g164' := g164
        try simp only [decide_eq_true_eq, decide_eq_false_iff_not, Bool.not_eq_true', Bool.not_eq_false', Bool.and_eq_true, Bool.or_eq_true, Bool.and_eq_false_iff, Bool.or_eq_false_iff, Int.not_le, Int.not_lt] at g164'
        refine RunL.no rfl rfl rfl ?_
        refine RunL.no rfl rfl rfl ?_
        refine RunL.val (Val.pure rfl) rfl rfl rfl ?_
        exact RunL.segEnd (Sub.cons rfl (Sub.skip rfl (Sub.skip rfl (Sub.skip rfl (Sub.same rfl (by rw [g164]) (Sub.refl _)))))) (List.Sublist.refl _)
      ) ?_
      refine RunL.val (Val.pure rfl) rfl rfl rfl ?_
      refine RunL.orPart (dj := 168) (dp := 172) 4 rfl (fun g168 => by
        have g168' := g168
        try simp only [decide_eq_true_eq, decide_eq_false_iff_not, Bool.not_eq_true', Bool.not_eq_false', Bool.and_eq_true, Bool.or_eq_true, Bool.and_eq_false_iff, Bool.or_eq_false_iff, Int.not_le, Int.not_lt] at g168'
        iterate 4 refine RunL.val (Val.pure rfl) rfl rfl rfl ?_
        exact RunL.segEnd (Sub.cons rfl (Sub.skip rfl (Sub.skip rfl (Sub.skip rfl (Sub.skip rfl (Sub.same rfl (by rw [g168]) (Sub.refl _))))))) (List.Sublist.refl _)
      ) (fun g168 => by
        have g168' := g168
        try simp only [decide_eq_true_eq, decide_eq_false_iff_not, Bool.not_eq_true', Bool.not_eq_false', Bool.and_eq_true, Bool.or_eq_true, Bool.and_eq_false_iff, Bool.or_eq_false_iff, Int.not_le, Int.not_lt] at g168'
        iterate 3 refine RunL.no rfl rfl rfl ?_
        refine RunL.val (Val.pure rfl) rfl rfl rfl ?_
        exact RunL.segEnd (Sub.cons rfl (Sub.skip rfl (Sub.skip rfl (Sub.skip rfl (Sub.skip rfl (Sub.same rfl (by rw [g168]) (Sub.refl _))))))) (List.Sublist.refl _)
      ) ?_
      refine RunL.val (Val.pure rfl) rfl rfl rfl ?_
      refine RunL.orPart (dj := 173) (dp := 183) 10 rfl (fun g173 => by
        have g173' := g173
        try simp only [decide_eq_true_eq, decide_eq_false_iff_not, Bool.not_eq_true', Bool.not_eq_false', Bool.and_eq_true, Bool.or_eq_true, Bool.and_eq_false_iff, Bool.or_eq_false_iff, Int.not_le, Int.not_lt] at g173'
        iterate 3 refine RunL.val (Val.pure rfl) rfl rfl rfl ?_
        refine RunL.andPart (dj := 176) (dp := 182) 6 rfl (fun g176 => by
          have g176' := g176
          try simp only [decide_eq_true_eq, decide_eq_false_iff_not, Bool.not_eq_true', Bool.not_eq_false', Bool.and_eq_true, Bool.or_eq_true, Bool.and_eq_false_iff, Bool.or_eq_false_iff, Int.not_le, Int.not_lt] at g176'
          refine RunL.val (Val.pure rfl) rfl rfl rfl ?_
          refine RunL.val (Val.pure rfl) rfl rfl rfl ?_
          refine RunL.val (Val.shrN (a := f) (b := j) rfl rfl (by show j ≤ 64; omega)) rfl rfl rfl ?_
          refine RunL.val (Val.and (a := f >>> j) (b := 1) rfl rfl (by show _ < 18446744073709551616; omega) (by decide) (i64_inN (by omega))) rfl rfl rfl ?_
          refine RunL.val (Val.pure rfl) rfl rfl rfl ?_
          refine RunL.val (Val.pure rfl) rfl rfl rfl ?_
          exact RunL.segEnd (Sub.cons rfl (Sub.skip rfl (Sub.skip rfl (Sub.skip rfl (Sub.skip rfl (Sub.skip rfl (Sub.skip rfl (Sub.same rfl (by rw [g176]) (Sub.refl _))))))))) (List.Sublist.refl _)
        ) (fun g176 => by
          have g176' := g176
          try simp only [decide_eq_true_eq, decide_eq_false_iff_not, Bool.not_eq_true', Bool.not_eq_false', Bool.and_eq_true, Bool.or_eq_true, Bool.and_eq_false_iff, Bool.or_eq_false_iff, Int.not_le, Int.not_lt] at g176'
          iterate 5 refine RunL.no rfl rfl rfl ?_
          refine RunL.val (Val.pure rfl) rfl rfl rfl ?_
          exact RunL.segEnd (Sub.cons rfl (Sub.skip rfl (Sub.skip rfl (Sub.skip rfl (Sub.skip rfl (Sub.skip rfl (Sub.skip rfl (Sub.same rfl (by rw [g176]) (Sub.refl _))))))))) (List.Sublist.refl _)
        ) ?_
        refine RunL.val (Val.pure rfl) rfl rfl rfl ?_
        exact RunL.segEnd (Sub.cons rfl (Sub.skip rfl (Sub.skip rfl (Sub.skip rfl (Sub.skip rfl (Sub.skip rfl (Sub.same rfl (by rw [g173]) (Sub.refl _)))))))) (List.Sublist.refl _)
      ) (fun g173 => by
        have g173' := g173
        try simp only [decide_eq_true_eq, decide_eq_false_iff_not, Bool.not_eq_true', Bool.not_eq_false', Bool.and_eq_true, Bool.or_eq_true, Bool.and_eq_false_iff, Bool.or_eq_false_iff, Int.not_le, Int.not_lt] at g173'
        iterate 9 refine RunL.no rfl rfl rfl ?_
        refine RunL.val (Val.pure rfl) rfl rfl rfl ?_
        exact RunL.segEnd (Sub.cons rfl (Sub.skip rfl (Sub.skip rfl (Sub.skip rfl (Sub.skip rfl (Sub.skip rfl (Sub.skip rfl (Sub.skip rfl (Sub.skip rfl (Sub.skip rfl (Sub.skip rfl (Sub.same rfl (by rw [g173]) (Sub.refl _))))))))))))) (List.Sublist.refl _)
      ) ?_
      refine RunL.nil ?_
      refine RunE.next ?_
      refine RunC.cond rfl (fun h => absurd h (by cases hb : f.testBit j with | true => (rw [shr_one hb]; simp; omega) | false => (have h0 := hz hb; simp; omega))) ?_
      intro c6
      clear c6
      refine RunC.skip ?_
      refine RunE.next ?_
      refine RunC.seq ?_
      refine RunC.draw 12 fol_ (.cons .here rfl (.cons .here rfl .nil)) ?_
      refine RunA.val (i := 0) rfl (by kernel_rfl) (by kernel_rfl) (Val.pure rfl) rfl rfl rfl (fun _ _ _ h => h) (.cons .here rfl (.cons .here rfl .nil)) rfl ?_
      refine RunA.val (i := 1) rfl (by kernel_rfl) (by kernel_rfl) (Val.pure rfl) rfl rfl rfl (fun _ _ _ h => h) (.cons .here rfl (.cons .here rfl .nil)) rfl ?_
      refine RunA.val (i := 2) rfl (by kernel_rfl) (by kernel_rfl) (Val.pure rfl) rfl rfl rfl (fun _ _ _ h => h) (.cons .here rfl (.cons .here rfl .nil)) rfl ?_
      refine RunA.val (i := 3) rfl (by kernel_rfl) (by kernel_rfl) (Val.pure rfl) rfl rfl rfl (fun _ _ _ h => h) (.cons .here rfl (.cons .here rfl .nil)) rfl ?_
      refine RunA.val (i := 4) rfl (by kernel_rfl) (by kernel_rfl) (Val.addN (a := ((List.range j).map (shareL (esX m).length (fsX m.pl) k)).sum) (b := v) (((List.range j).map (shareL (esX m).length (fsX m.pl) k)).sum + v) rfl rfl rfl (i64_inN (by omega))) rfl rfl rfl (fun _ _ _ h => h) (.cons .here rfl (.cons .here rfl .nil)) rfl ?_
      refine RunA.val (i := 5) rfl (by kernel_rfl) (by kernel_rfl) (Val.pure rfl) rfl rfl rfl (fun _ _ _ h => h) (.cons .here rfl (.cons .here rfl .nil)) rfl ?_
      refine RunA.val (i := 6) rfl (by kernel_rfl) (by kernel_rfl) (Val.pure rfl) rfl rfl rfl (fun _ _ _ h => h) (.cons .here rfl (.cons .here rfl .nil)) rfl ?_
      refine RunA.val (i := 7) rfl (by kernel_rfl) (by kernel_rfl) (Val.indexAddr_sl rfl rfl sl_34 (by omega) (by omega)) rfl rfl rfl (fun _ _ _ h => h) (.cons .here rfl (.cons .here rfl .nil)) rfl ?_
      refine RunA.val (i := 8) rfl (by kernel_rfl) (by kernel_rfl) (Val.load_gen rfl (fun w hm => (Sl.rows (xs := intsW (byL (esX m).length (fsX m.pl) k j)) (hm.at (.head _)) (ints_row _)).loadM1 (by decide) (Mem.refl w) (by simp) ty_3 (by rw [byL_len]; exact hj) (v := .int .i64 ((byN (esX m).length (fsX m.pl) k j j : Nat) : Int)) (by simp [by_at hj]))) rfl rfl rfl (fun _ _ _ h => h) (.cons .here rfl (.cons .here rfl .nil)) rfl ?_
      refine RunA.val (i := 9) rfl (by kernel_rfl) (by kernel_rfl) (Val.pure rfl) rfl rfl rfl (fun _ _ _ h => h) (.cons .here rfl (.cons .here rfl .nil)) rfl ?_
      refine RunA.val (i := 10) rfl (by kernel_rfl) (by kernel_rfl) (Val.addN (a := byN (esX m).length (fsX m.pl) k j j) (b := v) (byN (esX m).length (fsX m.pl) k j j + v) rfl rfl rfl (i64_inN (by omega))) rfl rfl rfl (fun _ _ _ h => h) (.cons .here rfl (.cons .here rfl .nil)) rfl ?_
      refine RunA.val (i := 11) rfl (by kernel_rfl) (by kernel_rfl) (Val.pure rfl) rfl rfl rfl (fun _ _ _ h => h) (.cons .here rfl (.cons .here rfl .nil)) rfl ?_
      refine RunA.toB (by kernel_rfl) ?_
      refine RunB.one (i := 12) (by kernel_rfl) ?_
      refine RunI.val rfl (Val.indexAddr_sl rfl rfl sl_34 (by omega) (by omega)) rfl rfl rfl (RunK.toB ?_)
      refine RunB.one (i := 13) (by kernel_rfl) ?_
      refine RunI.sto rfl (Sto.store (cs := (intsW (byL (esX m).length (fsX m.pl) k j)).flatten) (cs' := (intsW ((byL (esX m).length (fsX m.pl) k j).set j ((byN (esX m).length (fsX m.pl) k j j + v : Nat) : Int))).flatten) rfl rfl .here ty_3 rfl (by have h9 := paste_setI (l := byL (esX m).length (fsX m.pl) k j) (j := j) (v := ((byN (esX m).length (fsX m.pl) k j j + v : Nat) : Int)) (by rw [byL_len]; exact hj); rw [Nat.zero_add, Int.toNat_natCast, Nat.mul_one]; exact h9)) rfl rfl (RunK.toB ?_)
      refine RunB.done (by kernel_rfl) ?_
      refine RunE.next ?_
      refine RunC.seq ?_
      refine RunC.region ?_
      iterate 3 refine RunL.val (Val.pure rfl) rfl rfl rfl ?_
      refine RunL.nil ?_
      refine RunE.next ?_
      refine RunC.cond rfl ?_ ?_
      · intro c7
        have c7' := c7; clear c7
        try simp only [decide_eq_true_eq, decide_eq_false_iff_not, Bool.not_eq_true', Bool.not_eq_false', Bool.and_eq_true, Bool.or_eq_true, Bool.and_eq_false_iff, Bool.or_eq_false_iff, Int.not_le, Int.not_lt] at c7'
        have q3 : lastP (sureP m.pl k) (j + 1) = (j : Int) := if_pos (decide_eq_true (by show shareL (esX m).length (fsX m.pl) k j = cntX m.pl; rw [hv, hn]; omega))
        refine RunC.region ?_
        refine RunL.val (Val.pure rfl) rfl rfl rfl ?_
        refine RunL.val (Val.pure rfl) rfl rfl rfl ?_
        refine RunL.nil ?_
        refine RunE.block_normal ?_
        refine RunE.next ?_
        refine RunC.region ?_
        refine RunL.val (Val.add rfl rfl (IntWalk.i64_in _ ⟨by omega, by omega⟩)) rfl rfl rfl ?_
        refine RunL.val (Val.pure rfl) rfl rfl rfl ?_
        refine RunL.nil ?_
        exact RunE.round (by omega) trivial rfl (Sub.consE (t := 152) rfl rfl (Sub.consE (t := 15) rfl (by rw [sum_range_succ, hv]) (Sub.consE (t := 16) rfl (by rw [q3]) (Sub.cons (t := 1) rfl (Sub.cons (t := 3) rfl (Sub.cons (t := 5) rfl (Sub.cons (t := 6) rfl (Sub.cons (t := 7) rfl (Sub.cons (t := 8) rfl (Sub.cons (t := 10) rfl (Sub.cons (t := 11) rfl (Sub.cons (t := 12) rfl (Sub.cons (t := 13) rfl (Sub.cons (t := 14) rfl (Sub.cons (t := 139) rfl (Sub.cons (t := 140) rfl (Sub.cons (t := 151) rfl (Sub.nil _)))))))))))))))))) (.cons .here (by rw [← by_set hj, hv]) (.cons .here rfl (Pick.refl _)))
      · intro c7
        have c7' := c7; clear c7
        try simp only [decide_eq_true_eq, decide_eq_false_iff_not, Bool.not_eq_true', Bool.not_eq_false', Bool.and_eq_true, Bool.or_eq_true, Bool.and_eq_false_iff, Bool.or_eq_false_iff, Int.not_le, Int.not_lt] at c7'
        have q3 : lastP (sureP m.pl k) (j + 1) = lastP (sureP m.pl k) j := if_neg (fun h9 => c7' (by have h10 : shareL (esX m).length (fsX m.pl) k j = cntX m.pl := of_decide_eq_true h9; rw [hv, hn] at h10; omega))
        refine RunC.skip ?_
        refine RunE.block_normal ?_
        refine RunE.next ?_
        refine RunC.region ?_
        refine RunL.val (Val.add rfl rfl (IntWalk.i64_in _ ⟨by omega, by omega⟩)) rfl rfl rfl ?_
        refine RunL.val (Val.pure rfl) rfl rfl rfl ?_
        refine RunL.nil ?_
        exact RunE.round (by omega) trivial rfl (Sub.consE (t := 152) rfl rfl (Sub.consE (t := 15) rfl (by rw [sum_range_succ, hv]) (Sub.consE (t := 16) rfl (by rw [q3]) (Sub.cons (t := 1) rfl (Sub.cons (t := 3) rfl (Sub.cons (t := 5) rfl (Sub.cons (t := 6) rfl (Sub.cons (t := 7) rfl (Sub.cons (t := 8) rfl (Sub.cons (t := 10) rfl (Sub.cons (t := 11) rfl (Sub.cons (t := 12) rfl (Sub.cons (t := 13) rfl (Sub.cons (t := 14) rfl (Sub.cons (t := 139) rfl (Sub.cons (t := 140) rfl (Sub.cons (t := 151) rfl (Sub.nil _)))))))))))))))))) (.cons .here (by rw [← by_set hj, hv]) (.cons .here rfl (Pick.refl _)))
    · intro c5
      have c5' := c5; clear c5
      try simp only [decide_eq_true_eq, decide_eq_false_iff_not, Bool.not_eq_true', Bool.not_eq_false', Bool.and_eq_true, Bool.or_eq_true, Bool.and_eq_false_iff, Bool.or_eq_false_iff, Int.not_le, Int.not_lt] at c5'
      have hjn : j = (esX m).length := by omega
      subst hjn
      have hsum : ((List.range (esX m).length).map (shareL (esX m).length (fsX m.pl) k)).sum = n := hss
      refine RunC.exit ?_
      refine RunE.pass_exit ?_
      refine RunE.pass_exit ?_
      refine RunE.block_here ?_
      refine RunE.next ?_
      refine RunC.seq ?_
      refine RunC.region ?_
      iterate 4 refine RunL.val (Val.pure rfl) rfl rfl rfl ?_
      refine RunL.orPart (dj := 204) (dp := 215) 11 rfl (fun g204 => by
        have g204' := g204
        try simp only [decide_eq_true_eq, decide_eq_false_iff_not, Bool.not_eq_true', Bool.not_eq_false', Bool.and_eq_true, Bool.or_eq_true, Bool.and_eq_false_iff, Bool.or_eq_false_iff, Int.not_le, Int.not_lt] at g204'
        iterate 3 refine RunL.val (Val.pure rfl) rfl rfl rfl ?_
        refine RunL.andPart (dj := 207) (dp := 214) 7 rfl (fun g207 => by
          have g207' := g207
          try simp only [decide_eq_true_eq, decide_eq_false_iff_not, Bool.not_eq_true', Bool.not_eq_false', Bool.and_eq_true, Bool.or_eq_true, Bool.and_eq_false_iff, Bool.or_eq_false_iff, Int.not_le, Int.not_lt] at g207'
          refine RunL.val (Val.pure rfl) rfl rfl rfl ?_
          refine RunL.val (Val.pure rfl) rfl rfl rfl ?_
          refine RunL.val (Val.indexAddr_slp rfl rfl sl_34 (by omega) (by have := hkS (by simpa using g207); omega) (own_ptr hx32 (by have := hkS (by simpa using g207); omega))) rfl rfl rfl ?_
          refine RunL.val (Val.load_gen rfl (fun w hm => (ints_sl hx32 (fun b o h => hm.at (.tail _ (.tail _ ((by first | exact List.mem_append_right _ (List.mem_append_left _ h) | exact List.mem_append_right _ (List.mem_append_right _ (List.mem_append_left _ h)))))))).loadM1 (by decide) (Mem.refl w) (by simp) ty_3 (hkS (by simpa using g207)) (v := .int .i64 zz) (by rw [← hzz]; simp [hkS (by simpa using g207)]))) rfl rfl rfl ?_
          iterate 3 refine RunL.val (Val.pure rfl) rfl rfl rfl ?_
          exact RunL.segEnd (Sub.cons rfl (Sub.skip rfl (Sub.skip rfl (Sub.skip rfl (Sub.skip rfl (Sub.skip rfl (Sub.skip rfl (Sub.skip rfl (Sub.same rfl (by rw [g207]) (Sub.refl _)))))))))) (List.Sublist.refl _)
        ) (fun g207 => by
          have g207' := g207
          try simp only [decide_eq_true_eq, decide_eq_false_iff_not, Bool.not_eq_true', Bool.not_eq_false', Bool.and_eq_true, Bool.or_eq_true, Bool.and_eq_false_iff, Bool.or_eq_false_iff, Int.not_le, Int.not_lt] at g207'
          iterate 6 refine RunL.no rfl rfl rfl ?_
          refine RunL.val (Val.pure rfl) rfl rfl rfl ?_
          exact RunL.segEnd (Sub.cons rfl (Sub.skip rfl (Sub.skip rfl (Sub.skip rfl (Sub.skip rfl (Sub.skip rfl (Sub.skip rfl (Sub.skip rfl (Sub.same rfl (by rw [g207]) (Sub.refl _)))))))))) (List.Sublist.refl _)
        ) ?_
        refine RunL.val (Val.pure rfl) rfl rfl rfl ?_
        exact RunL.segEnd (Sub.cons rfl (Sub.skip rfl (Sub.skip rfl (Sub.skip rfl (Sub.skip rfl (Sub.skip rfl (Sub.same rfl (by rw [g204]) (Sub.refl _)))))))) (List.Sublist.refl _)
      ) (fun g204 => by
        have g204' := g204
        try simp only [decide_eq_true_eq, decide_eq_false_iff_not, Bool.not_eq_true', Bool.not_eq_false', Bool.and_eq_true, Bool.or_eq_true, Bool.and_eq_false_iff, Bool.or_eq_false_iff, Int.not_le, Int.not_lt] at g204'
        iterate 10 refine RunL.no rfl rfl rfl ?_
        refine RunL.val (Val.pure rfl) rfl rfl rfl ?_
        exact RunL.segEnd (Sub.cons rfl (Sub.skip rfl (Sub.skip rfl (Sub.skip rfl (Sub.skip rfl (Sub.skip rfl (Sub.skip rfl (Sub.skip rfl (Sub.skip rfl (Sub.skip rfl (Sub.skip rfl (Sub.skip rfl (Sub.same rfl (by rw [g204]) (Sub.refl _)))))))))))))) (List.Sublist.refl _)
      ) ?_
      refine RunL.nil ?_
      refine RunE.next ?_
      refine RunC.cond rfl (fun h => absurd h (by rw [hsum]; rcases hE with ⟨a1, a2, a3⟩ | ⟨a1, a2, a3, a4, a5⟩ <;> simp [a1] <;> exact hSk a1)) ?_
      intro c8
      clear c8
      refine RunC.skip ?_
      refine RunE.block_normal ?_
      refine RunE.next ?_
      refine RunC.region ?_
      refine RunL.val (Val.add rfl rfl (IntWalk.i64_in _ ⟨by omega, by omega⟩)) rfl rfl rfl ?_
      refine RunL.val (Val.pure rfl) rfl rfl rfl ?_
      refine RunL.nil ?_
      exact RunE.round (by omega) trivial rfl (Sub.consE (t := 140) rfl rfl (Sub.cons (t := 1) rfl (Sub.cons (t := 3) rfl (Sub.cons (t := 5) rfl (Sub.cons (t := 6) rfl (Sub.cons (t := 7) rfl (Sub.cons (t := 8) rfl (Sub.cons (t := 10) rfl (Sub.cons (t := 11) rfl (Sub.cons (t := 139) rfl (Sub.nil _))))))))))) (.cons .here (by rw [by_next]) (.cons .here rfl (Pick.refl _)))
  · intro c3
    have c3' := c3; clear c3
    try simp only [decide_eq_true_eq, decide_eq_false_iff_not, Bool.not_eq_true', Bool.not_eq_false', Bool.and_eq_true, Bool.or_eq_true, Bool.and_eq_false_iff, Bool.or_eq_false_iff, Int.not_le, Int.not_lt] at c3'
    have hkn : k = m.cards.length := by omega
    rw [hkn, ← hfl]
    refine RunC.exit ?_
    refine RunE.pass_exit ?_
    refine RunE.pass_exit ?_
    refine RunE.block_here ?_
    refine RunE.next ?_
    refine RunC.seq ?_
    refine RunC.seq ?_
    refine RunC.region ?_
    refine RunL.val (Val.pure rfl) rfl rfl rfl ?_
    refine RunL.val (Val.len_sl rfl sl_34) rfl rfl rfl ?_
    refine RunL.val (Val.pure rfl) rfl rfl rfl ?_
    refine RunL.nil ?_
    refine RunE.next ?_
    refine RunC.block ?_
    refine RunC.loopK ((esX m).length) (fun k q => (219, .int .i64 (k : Int)) :: q) (fun _ => _) (fun _ => []) (fun _ => True) trivial rfl (Sub.consE (t := 219) rfl rfl (Sub.cons (t := 1) rfl (Sub.cons (t := 3) rfl (Sub.cons (t := 6) rfl (Sub.cons (t := 7) rfl (Sub.cons (t := 8) rfl (Sub.cons (t := 10) rfl (Sub.cons (t := 217) rfl (Sub.cons (t := 218) rfl (Sub.nil _)))))))))) (.cons .here rfl (.cons .here rfl (Pick.refl _))) ?_
    intro k kN kI
    clear kI
    refine RunC.seq ?_
    refine RunC.region ?_
    refine RunL.val (Val.pure rfl) rfl rfl rfl ?_
    refine RunL.nil ?_
    refine RunE.next ?_
    refine RunC.seq ?_
    refine RunC.cond rfl ?_ ?_
    · intro c9
      have c9' := c9; clear c9
      try simp only [decide_eq_true_eq, decide_eq_false_iff_not, Bool.not_eq_true', Bool.not_eq_false', Bool.and_eq_true, Bool.or_eq_true, Bool.and_eq_false_iff, Bool.or_eq_false_iff, Int.not_le, Int.not_lt] at c9'
      have hk3 : k < (esX m).length := by omega
      obtain ⟨u, hu⟩ : ∃ u, byN (esX m).length (fsX m.pl) (fsX m.pl).length 0 k = u := ⟨_, rfl⟩
      have hu2 : usedL (esX m).length (fsX m.pl) k = u := by rw [← by_used]; exact hu
      have hun : u ≤ n := by rw [← hu2, ← hcn]; exact used_le hk3
      have hsk1 := Nat.shiftRight_le lo k
      have hand1 := Nat.and_le_right (n := lo >>> k) (m := 1)
      have hsk2 := Nat.shiftRight_le ca k
      have hand2 := Nat.and_le_right (n := ca >>> k) (m := 1)
      refine RunC.skip ?_
      refine RunE.next ?_
      refine RunC.seq ?_
      refine RunC.block ?_
      refine RunC.seq ?_
      refine RunC.region ?_
      refine RunL.val (Val.pure rfl) rfl rfl rfl ?_
      refine RunL.val (Val.indexAddr_sl rfl rfl sl_34 (by omega) (by omega)) rfl rfl rfl ?_
      refine RunL.val (Val.load_gen rfl (fun w hm => (Sl.rows (xs := intsW (byL (esX m).length (fsX m.pl) (fsX m.pl).length 0)) (hm.at (.head _)) (ints_row _)).loadM1 (by decide) (Mem.refl w) (by simp) ty_3 (by rw [byL_len]; exact hk3) (v := .int .i64 ((u : Nat) : Int)) (by simp [by_at hk3, hu]))) rfl rfl rfl ?_
      refine RunL.val (Val.pure rfl) rfl rfl rfl ?_
      refine RunL.val (Val.pure rfl) rfl rfl rfl ?_
      refine RunL.nil ?_
      refine RunE.next ?_
      refine RunC.seq ?_
      refine RunC.region ?_
      iterate 4 refine RunL.val (Val.pure rfl) rfl rfl rfl ?_
      refine RunL.orPart (dj := 227) (dp := 251) 24 rfl (fun g227 => by
        have g227' := g227
        try simp only [decide_eq_true_eq, decide_eq_false_iff_not, Bool.not_eq_true', Bool.not_eq_false', Bool.and_eq_true, Bool.or_eq_true, Bool.and_eq_false_iff, Bool.or_eq_false_iff, Int.not_le, Int.not_lt] at g227'
        iterate 3 refine RunL.val (Val.pure rfl) rfl rfl rfl ?_
        refine RunL.andPart (dj := 230) (dp := 250) 20 rfl (fun g230 => by
          have g230' := g230
          try simp only [decide_eq_true_eq, decide_eq_false_iff_not, Bool.not_eq_true', Bool.not_eq_false', Bool.and_eq_true, Bool.or_eq_true, Bool.and_eq_false_iff, Bool.or_eq_false_iff, Int.not_le, Int.not_lt] at g230'
          refine RunL.val (Val.pure rfl) rfl rfl rfl ?_
          refine RunL.val (Val.pure rfl) rfl rfl rfl ?_
          refine RunL.val (Val.shrN (a := lo) (b := k) rfl rfl (by show k ≤ 64; omega)) rfl rfl rfl ?_
          refine RunL.val (Val.and (a := lo >>> k) (b := 1) rfl rfl (by show _ < 18446744073709551616; omega) (by decide) (i64_inN (by omega))) rfl rfl rfl ?_
          iterate 3 refine RunL.val (Val.pure rfl) rfl rfl rfl ?_
          refine RunL.val (Val.neq_bool rfl rfl boolB_4) rfl rfl rfl ?_
          refine RunL.val (Val.pure rfl) rfl rfl rfl ?_
          refine RunL.orPart (dj := 239) (dp := 249) 10 rfl (fun g239 => by
            have g239' := g239
            try simp only [decide_eq_true_eq, decide_eq_false_iff_not, Bool.not_eq_true', Bool.not_eq_false', Bool.and_eq_true, Bool.or_eq_true, Bool.and_eq_false_iff, Bool.or_eq_false_iff, Int.not_le, Int.not_lt] at g239'
            refine RunL.val (Val.pure rfl) rfl rfl rfl ?_
            refine RunL.val (Val.pure rfl) rfl rfl rfl ?_
            refine RunL.val (Val.shrN (a := ca) (b := k) rfl rfl (by show k ≤ 64; omega)) rfl rfl rfl ?_
            refine RunL.val (Val.and (a := ca >>> k) (b := 1) rfl rfl (by show _ < 18446744073709551616; omega) (by decide) (i64_inN (by omega))) rfl rfl rfl ?_
            iterate 4 refine RunL.val (Val.pure rfl) rfl rfl rfl ?_
            refine RunL.val (Val.neq_bool rfl rfl boolB_4) rfl rfl rfl ?_
            refine RunL.val (Val.pure rfl) rfl rfl rfl ?_
            exact RunL.segEnd (Sub.cons rfl (Sub.skip rfl (Sub.skip rfl (Sub.skip rfl (Sub.skip rfl (Sub.skip rfl (Sub.skip rfl (Sub.skip rfl (Sub.skip rfl (Sub.skip rfl (Sub.skip rfl (Sub.same rfl (by rw [g239]) (Sub.refl _))))))))))))) (List.Sublist.refl _)
          ) (fun g239 => by
            have g239' := g239
            try simp only [decide_eq_true_eq, decide_eq_false_iff_not, Bool.not_eq_true', Bool.not_eq_false', Bool.and_eq_true, Bool.or_eq_true, Bool.and_eq_false_iff, Bool.or_eq_false_iff, Int.not_le, Int.not_lt] at g239'
            iterate 9 refine RunL.no rfl rfl rfl ?_
            refine RunL.val (Val.pure rfl) rfl rfl rfl ?_
            exact RunL.segEnd (Sub.cons rfl (Sub.skip rfl (Sub.skip rfl (Sub.skip rfl (Sub.skip rfl (Sub.skip rfl (Sub.skip rfl (Sub.skip rfl (Sub.skip rfl (Sub.skip rfl (Sub.skip rfl (Sub.same rfl (by rw [g239]) (Sub.refl _))))))))))))) (List.Sublist.refl _)
          ) ?_
          refine RunL.val (Val.pure rfl) rfl rfl rfl ?_
          exact RunL.segEnd (Sub.cons rfl (Sub.skip rfl (Sub.skip rfl (Sub.skip rfl (Sub.skip rfl (Sub.skip rfl (Sub.skip rfl (Sub.skip rfl (Sub.skip rfl (Sub.skip rfl (Sub.skip rfl (Sub.skip rfl (Sub.same rfl (by rw [g230]) (Sub.refl _)))))))))))))) (List.Sublist.refl _)
        ) (fun g230 => by
          have g230' := g230
          try simp only [decide_eq_true_eq, decide_eq_false_iff_not, Bool.not_eq_true', Bool.not_eq_false', Bool.and_eq_true, Bool.or_eq_true, Bool.and_eq_false_iff, Bool.or_eq_false_iff, Int.not_le, Int.not_lt] at g230'
          iterate 19 refine RunL.no rfl rfl rfl ?_
          refine RunL.val (Val.pure rfl) rfl rfl rfl ?_
          exact RunL.segEnd (Sub.cons rfl (Sub.skip rfl (Sub.skip rfl (Sub.skip rfl (Sub.skip rfl (Sub.skip rfl (Sub.skip rfl (Sub.skip rfl (Sub.skip rfl (Sub.skip rfl (Sub.skip rfl (Sub.skip rfl (Sub.skip rfl (Sub.skip rfl (Sub.skip rfl (Sub.skip rfl (Sub.skip rfl (Sub.skip rfl (Sub.skip rfl (Sub.skip rfl (Sub.skip rfl (Sub.same rfl (by rw [g230]) (Sub.refl _))))))))))))))))))))))) (List.Sublist.refl _)
        ) ?_
        refine RunL.val (Val.pure rfl) rfl rfl rfl ?_
        exact RunL.segEnd (Sub.cons rfl (Sub.skip rfl (Sub.skip rfl (Sub.skip rfl (Sub.skip rfl (Sub.skip rfl (Sub.same rfl (by rw [g227]) (Sub.refl _)))))))) (List.Sublist.refl _)
      ) (fun g227 => by
        have g227' := g227
        try simp only [decide_eq_true_eq, decide_eq_false_iff_not, Bool.not_eq_true', Bool.not_eq_false', Bool.and_eq_true, Bool.or_eq_true, Bool.and_eq_false_iff, Bool.or_eq_false_iff, Int.not_le, Int.not_lt] at g227'
        iterate 23 refine RunL.no rfl rfl rfl ?_
        refine RunL.val (Val.pure rfl) rfl rfl rfl ?_
        exact RunL.segEnd (Sub.cons rfl (Sub.skip rfl (Sub.skip rfl (Sub.skip rfl (Sub.skip rfl (Sub.skip rfl (Sub.skip rfl (Sub.skip rfl (Sub.skip rfl (Sub.skip rfl (Sub.skip rfl (Sub.skip rfl (Sub.skip rfl (Sub.skip rfl (Sub.skip rfl (Sub.skip rfl (Sub.skip rfl (Sub.skip rfl (Sub.skip rfl (Sub.skip rfl (Sub.skip rfl (Sub.skip rfl (Sub.skip rfl (Sub.skip rfl (Sub.skip rfl (Sub.same rfl (by rw [g227]) (Sub.refl _))))))))))))))))))))))))))) (List.Sublist.refl _)
      ) ?_
      refine RunL.nil ?_
      refine RunE.next ?_
      refine RunC.cond rfl (fun h => absurd h (share_fin hun (fun a1 => by (obtain ⟨u1, u2⟩ := (hok a1).2.2 k hk3; rw [bit_iff, hu2] at u1 u2; exact ⟨u1, u2⟩)))) ?_
      intro c10
      clear c10
      refine RunC.skip ?_
      refine RunE.block_normal ?_
      refine RunE.next ?_
      refine RunC.region ?_
      refine RunL.val (Val.add rfl rfl (IntWalk.i64_in _ ⟨by omega, by omega⟩)) rfl rfl rfl ?_
      refine RunL.val (Val.pure rfl) rfl rfl rfl ?_
      refine RunL.nil ?_
      exact RunE.round (by omega) trivial rfl (Sub.consE (t := 219) rfl rfl (Sub.cons (t := 1) rfl (Sub.cons (t := 3) rfl (Sub.cons (t := 6) rfl (Sub.cons (t := 7) rfl (Sub.cons (t := 8) rfl (Sub.cons (t := 10) rfl (Sub.cons (t := 217) rfl (Sub.cons (t := 218) rfl (Sub.nil _)))))))))) (.cons .here rfl (.cons .here rfl (Pick.refl _)))
    · intro c9
      have c9' := c9; clear c9
      try simp only [decide_eq_true_eq, decide_eq_false_iff_not, Bool.not_eq_true', Bool.not_eq_false', Bool.and_eq_true, Bool.or_eq_true, Bool.and_eq_false_iff, Bool.or_eq_false_iff, Int.not_le, Int.not_lt] at c9'
      refine RunC.exit ?_
      refine RunE.pass_exit ?_
      refine RunE.pass_exit ?_
      refine RunE.block_here ?_
      refine RunE.next ?_
      refine RunC.seq ?_
      refine RunC.region ?_
      refine RunL.val (Val.pure rfl) rfl rfl rfl ?_
      refine RunL.val (Val.pure rfl) rfl rfl rfl ?_
      refine RunL.val (Val.shrN (a := lo) (b := (esX m).length) rfl rfl (by show _ ≤ 64; omega)) rfl rfl rfl ?_
      refine RunL.val (Val.pure rfl) rfl rfl rfl ?_
      refine RunL.val (Val.pure rfl) rfl rfl rfl ?_
      refine RunL.sure (dj := 257) true rfl (by simp [hl9]) ?_
      refine RunL.val (Val.pure rfl) rfl rfl rfl ?_
      refine RunL.val (Val.pure rfl) rfl rfl rfl ?_
      refine RunL.val (Val.shrN (a := ca) (b := (esX m).length) rfl rfl (by show _ ≤ 64; omega)) rfl rfl rfl ?_
      iterate 3 refine RunL.val (Val.pure rfl) rfl rfl rfl ?_
      refine RunL.sure (dj := 263) true rfl (by simp [hc9]) ?_
      refine RunL.callP (isCall_func rfl ent_13) rfl rfl rfl (fun w hm => hawake_calls w) ?_
      refine RunL.val (Val.pure rfl) rfl rfl rfl ?_
      refine RunL.val (Val.pure rfl) rfl rfl rfl ?_
      refine RunL.nil ?_
      refine RunE.next ?_
      refine RunC.ret ?_
      exact RunE.retP (.r1 rfl (.tmp rfl)) (by first | rfl | simp)
end Go.Proofs.YtlhdalcipflblaaDoor
/- The facts on the tables of types and on the entries of functions that the walks use. Written by program. -/
set_option linter.unusedSimpArgs false
set_option linter.unusedVariables false
namespace Go.Proofs.YtlhdalcipflblaaDoor
open Go Go.Eng

end Go.Proofs.YtlhdalcipflblaaDoor
/- Walks of the laws of layer 10: HeapMore. -/
set_option linter.unusedSimpArgs false
set_option linter.unusedVariables false
namespace Go.Hp
open Go Go.Eng Go.Pw1
theorem u8_inN {n : Nat} (h : n < 256) : IntKind.u8.wrap (n : Int) = (n : Int) := IntWalk.u8_in _ ⟨by omega, by omega⟩
theorem tn_rows {l : List Tn} : ∀ x ∈ l.map Tn.cells, x.length = 3 := fun x hx => by obtain ⟨t, _, rfl⟩ := List.mem_map.1 hx; rfl
theorem tn_len (t : Tn) : t.cells.length = 3 := rfl
theorem tn_one (t : Tn) : t.cells.all (·.oneCell') = true := rfl
theorem paste_bytes {l : Str} {j : Nat} (hj : j < l.length) {c : UInt8} {v : Int} (hv : v = (c.toNat : Int)) {r : List Value} : paste (l.map byteV ++ r) (0 + (j : Int).toNat * 1) [.int .u8 v] = some ((l.set j c).map byteV ++ r) := by
  subst hv
  have h := paste_row (f := fun c : UInt8 => [byteV c]) (sz := 1) (fun _ => rfl) (a' := c) (j := 0) (vs := [byteV c]) (t := r) (l := l) (i := j) hj rfl
  rw [bytes_flat, bytes_flat] at h
  rw [Nat.zero_add, Int.toNat_natCast]
  exact h
theorem Val.bytesStrN {P : Program} {r : Regs} {W : World} {chg news : Blks} {dst : Option Tmp} {gd : Option (Nat × Bool)} {ty : TypeId} {pos : String} {after : Array Edge} {x : Operand} {S T e : TypeId} {p : Option Addr} {b o cap n : Nat} (l : Str) (hl : l.length = n) (hx : rev r x = some (.slice p n cap)) (hS : P.underlying S = some (.slice e)) (he : P.underlying e = some (.int .u8)) (hT : P.underlying T = some .string)
    (h : ∀ w, Mem W chg news w → Sl w p b o 1 (bytesV l)) : Val P r W chg news { dst, op := .convert S T x, type := ty, pos, after, guard := gd } (.string (bs l)) := by
  subst hl
  exact Val.bytesStr hx hS he hT h
theorem repl1_len (c : UInt8) : ∀ l, (repl1 c l).length = l.length
  | [] => rfl
  | a :: l => by unfold repl1; split <;> simp [repl1_len c l]
/-- The first bytes, with stars another byte. -/
def replP (c : UInt8) (l : Str) (j : Nat) : Str := replA c (l.take j) ++ l.drop j
theorem replP_len (c : UInt8) (l : Str) (j : Nat) : (replP c l j).length = l.length := by simp [replP, replA]; omega
theorem replP_at {c : UInt8} {l : Str} {j : Nat} (hj : j < l.length) : (replP c l j)[j]'(by rw [replP_len]; exact hj) = l[j] := by
  unfold replP
  rw [List.getElem_append_right (by simp [replA]; omega), List.getElem_drop]
  simp [replA, Nat.min_eq_left (Nat.le_of_lt hj)]
theorem replA_snoc (c : UInt8) (l : Str) (a : UInt8) : replA c (l ++ [a]) = replA c l ++ [if a.toNat = 42 then c else a] := by
  unfold replA
  rw [List.map_append]
  rfl
theorem replP_yes {c : UInt8} {l : Str} {j : Nat} (hj : j < l.length) (h : l[j].toNat = 42) : (replP c l j).set j c = replP c l (j + 1) := by
  have h1 : (replA c (l.take j)).length = j := by rw [replA_len, List.length_take]; omega
  unfold replP
  rw [List.set_append, if_neg (by omega), h1, Nat.sub_self, List.drop_eq_getElem_cons hj, List.take_succ_eq_append_getElem hj, replA_snoc, if_pos h, List.append_assoc]
  rfl
theorem replP_no {c : UInt8} {l : Str} {j : Nat} (hj : j < l.length) (h : l[j].toNat ≠ 42) : replP c l j = replP c l (j + 1) := by
  unfold replP
  rw [List.drop_eq_getElem_cons hj, List.take_succ_eq_append_getElem hj, replA_snoc, if_neg h, List.append_assoc]
  rfl
theorem replP_all (c : UInt8) (l : Str) : replP c l l.length = replA c l := by simp [replP]
theorem er_yes {l : List Tn} {k n : Nat} (hk : k < l.length) (h : k ≠ n) {c : Tn} (hc : l[k] = c) : (l.take (k + 1)).eraseIdx n = (l.take k).eraseIdx n ++ [c] := by
  rw [List.take_succ_eq_append_getElem hk, hc]
  rcases Nat.lt_or_ge n k with h1 | h1
  · rw [List.eraseIdx_append_of_lt_length (by simp; omega)]
  · obtain ⟨d, hd⟩ : ∃ d, n - (l.take k).length = d + 1 := ⟨n - k - 1, by simp; omega⟩
    rw [List.eraseIdx_append_of_length_le (by rw [List.length_take]; omega), hd, List.eraseIdx_of_length_le (l := l.take k) (by rw [List.length_take]; omega)]
    simp
theorem er_no {l : List Tn} {k n : Nat} (hk : k < l.length) (h : k = n) : (l.take (k + 1)).eraseIdx n = (l.take k).eraseIdx n := by
  subst h
  rw [List.take_succ_eq_append_getElem hk, List.eraseIdx_append_of_length_le (by rw [List.length_take]; omega), List.eraseIdx_of_length_le (l := l.take k) (by rw [List.length_take]; omega)]
  simp [Nat.min_eq_left (Nat.le_of_lt hk)]
theorem map_erase {α β : Type} {f : α → β} : ∀ (l : List α) (n : Nat), (l.eraseIdx n).map f = (l.map f).eraseIdx n
  | [], _ => rfl
  | _ :: _, 0 => rfl
  | a :: l, n + 1 => by simp only [List.eraseIdx_cons_succ, List.map_cons, map_erase l n]
def setA (m : MxA) (n : Nat) (y : Tn) (b cap : Nat) : MxA := { m with cards := m.cards.set n y, q2 := some ⟨b, 0, none⟩, b2 := b, o2 := 0, cap2 := cap }
def eraseA (m : MxA) (n : Nat) (x : Eng.Own) : MxA := { m with cards := m.cards.eraseIdx n, q2 := ownQ x, b2 := ownK x, o2 := 0, cap2 := ownC x }
theorem setA_v (m : MxA) (n : Nat) (y : Tn) (b cap : Nat) : (setA m n y b cap).v = .agg #[.slice m.q m.bxs.length m.cap, .slice (some ⟨b, 0, none⟩) (0 + m.cards.length) cap] := by
  show Value.agg #[.slice m.q m.bxs.length m.cap, .slice (some ⟨b, 0, none⟩) (m.cards.set n y).length cap] = _
  rw [List.length_set, Nat.zero_add]
theorem fits_le {t y : Tn} (hb : badCard t = false) (h : More t y) (m : Mx) : ∀ x, (fitsX m y).testBit x = true → (fitsX m t).testBit x = true := fun x hx => by
  rw [fits_bit] at hx ⊢
  cases he : (entriesX m.boxes)[x]? with
  | none => rw [he] at hx; cases hx
  | some e =>
    rw [he] at hx
    exact h.fit hb e hx
theorem setA_ok {m : MxA} {n : Nat} {t y : Tn} {b cap : Nat} (hX : mixedX m.pl = true) (hn : n < m.cards.length) (ht : m.cards[n] = t) (h : More t y) : mixedX (setA m n y b cap).pl = true ∧ (fsX (setA m n y b cap).pl).length = (fsX m.pl).length ∧ ∀ k x, ((fsX (setA m n y b cap).pl).getD k 0).testBit x = true → ((fsX m.pl).getD k 0).testBit x = true := by
  have hbt : badCard t = false := by
    rw [mixed_eq] at hX
    simp only [Bool.and_eq_true, Bool.not_eq_true', List.any_eq_false] at hX
    have := hX.2 t (ht ▸ List.getElem_mem hn)
    simpa using this
  refine ⟨?_, by simp [fsX, setA, MxA.pl], fun k x hk => ?_⟩
  · rw [mixed_eq] at hX ⊢
    simp only [Bool.and_eq_true, Bool.not_eq_true', List.any_eq_false] at hX ⊢
    refine ⟨⟨⟨⟨hX.1.1.1.1, ?_⟩, hX.1.1.2⟩, hX.1.2⟩, fun z hz => ?_⟩
    · show decide ((m.cards.set n y).length ≤ 8) = true
      rw [List.length_set]; exact hX.1.1.1.2
    · rcases List.mem_or_eq_of_mem_set (show z ∈ m.cards.set n y from hz) with h1 | rfl
      · exact hX.2 z h1
      · rw [h.ok hbt]; exact Bool.false_ne_true
  · have e1 : fsX (setA m n y b cap).pl = (fsX m.pl).set n (fitsX m.pl y) := by
      show (m.cards.set n y).map (fitsX m.pl) = (m.cards.map (fitsX m.pl)).set n (fitsX m.pl y)
      rw [List.map_set]
    rw [e1] at hk
    by_cases e : k = n
    · subst e
      have hk2 : k < (fsX m.pl).length := by rw [fs_len]; exact hn
      have e2 : ((fsX m.pl).set k (fitsX m.pl y)).getD k 0 = fitsX m.pl y := by simp [List.getD_eq_getElem?_getD, hk2]
      have e3 : (fsX m.pl).getD k 0 = fitsX m.pl t := by
        have e4 : (fsX m.pl)[k] = fitsX m.pl t := by
          have : (m.cards.map (fitsX m.pl))[k]'(by simpa using hn) = fitsX m.pl t := by rw [List.getElem_map, ht]
          exact this
        rw [getD_at hk2 e4]
      rw [e2] at hk
      rw [e3]
      exact fits_le hbt h m.pl x hk
    · have e2 : ((fsX m.pl).set n (fitsX m.pl y)).getD k 0 = (fsX m.pl).getD k 0 := by
        have : ¬ n = k := fun h => e h.symm
        simp [List.getD_eq_getElem?_getD, List.getElem?_set, this]
      rw [e2] at hk
      exact hk
theorem eraseA_ok {m : MxA} {n : Nat} {x : Eng.Own} (hX : mixedX m.pl = true) : mixedX (eraseA m n x).pl = true ∧ fsX (eraseA m n x).pl = (fsX m.pl).eraseIdx n := by
  refine ⟨?_, ?_⟩
  · rw [mixed_eq] at hX ⊢
    simp only [Bool.and_eq_true, Bool.not_eq_true', List.any_eq_false, decide_eq_true_eq] at hX ⊢
    refine ⟨⟨⟨⟨hX.1.1.1.1, ?_⟩, hX.1.1.2⟩, hX.1.2⟩, fun z hz => hX.2 z ((List.eraseIdx_sublist m.cards n).subset hz)⟩
    have h1 := (List.eraseIdx_sublist m.cards n).length_le
    have h2 := hX.1.1.1.2
    show (m.cards.eraseIdx n).length ≤ 8
    omega
  · show (m.cards.eraseIdx n).map (fitsX m.pl) = (m.cards.map (fitsX m.pl)).eraseIdx n
    exact map_erase _ n
theorem setA_sm {m : MxA} {n : Nat} {t y : Tn} {b cap : Nat} (hn : n < m.cards.length) (ht : m.cards[n] = t) (h : More t y) (hs : MSm m) : MSm (setA m n y b cap) := by
  refine ⟨hs.bx, by show (m.cards.set n y).length ≤ 1000; rw [List.length_set]; exact hs.cd, hs.ti, fun z hz => ?_⟩
  rcases List.mem_or_eq_of_mem_set (show z ∈ m.cards.set n y from hz) with h1 | rfl
  · exact hs.tx z h1
  · have := hs.tx t (ht ▸ List.getElem_mem hn)
    have h2 := h.sm
    omega
theorem eraseA_sm {m : MxA} {n : Nat} {x : Eng.Own} (hs : MSm m) : MSm (eraseA m n x) := by
  have h1 := (List.eraseIdx_sublist m.cards n).length_le
  have h2 := hs.cd
  exact ⟨hs.bx, by show (m.cards.eraseIdx n).length ≤ 1000; omega, hs.ti, fun z hz => hs.tx z ((List.eraseIdx_sublist m.cards n).subset hz)⟩
theorem setA_mok {m : MxA} {n : Nat} {y : Tn} {b cap : Nat} {W w : World} {news : Blks} {r : List Value} (hM : MOk W m) (hm : Mem W [] news w) (h : w.heap[b]? = some (.cells (((m.cards.set n y).map Tn.cells).flatten ++ r).toArray 50 (0, 0))) : MOk w (setA m n y b cap) :=
  ⟨(hM.mono0 hm).bx, (hM.mono0 hm).ti, Sl.rowsR h tn_rows⟩
theorem eraseA_mok {m : MxA} {n : Nat} {x : Eng.Own} {W w : World} {news : Blks} {c : Nat} (hM : MOk W m) (hm : Mem W [] news w) (hx : OwnOk 3 x c ((m.cards.eraseIdx n).map Tn.cells).flatten) (h : ∀ b o, (b, o) ∈ ownB 50 x ((m.cards.eraseIdx n).map Tn.cells).flatten → w.heap[b]? = some o) : MOk w (eraseA m n x) :=
  ⟨(hM.mono0 hm).bx, (hM.mono0 hm).ti, own_sl (f := Tn.cells) (fun _ => rfl) (by decide) hx h⟩
theorem good_let {k : Nat} (h : k < 4) : goodX (UInt8.ofNat (97 + k)) = true ∧ starX (UInt8.ofNat (97 + k)) = false := by
  have : ∀ k, k < 4 → goodX (UInt8.ofNat (97 + k)) = true ∧ starX (UInt8.ofNat (97 + k)) = false := by decide
  exact this k h
theorem good_dig {k : Nat} (h : k < 3) : goodX (UInt8.ofNat (49 + k)) = true ∧ (UInt8.ofNat (49 + k)).toNat ≠ 42 := by
  have : ∀ k, k < 3 → goodX (UInt8.ofNat (49 + k)) = true ∧ (UInt8.ofNat (49 + k)).toNat ≠ 42 := by decide
  exact this k h
theorem byte_v {k : Nat} (h : k < 256) : ((k : Nat) : Int) = ((UInt8.ofNat k).toNat : Int) := by
  rw [UInt8.toNat_ofNat']
  omega
end Go.Hp
namespace Go.Proofs.YtlhdalcipflblaaDoor
open Go Go.Eng Go.Hp Go.Pw1

theorem hmore_far (m : MxA) (g : Nat) (W : World) (hM : MOk W m) (hf : farX m.pl = true) : Calls Tryd.prog 10 #[m.v, .int .u8 (g : Int)] W (Pure (.bool true) W) := by
  refine calls_start Tryd.func10 rfl rfl ?_
  refine RunC.seq ?_
  refine RunC.region ?_
  refine RunL.new (New.box rfl) rfl rfl rfl (fun b2 => ?_)
  refine RunL.val (Val.pure rfl) rfl rfl rfl ?_
  refine RunL.nil ?_
  refine RunE.next ?_
  refine RunC.seq ?_
  refine RunC.seq ?_
  refine RunC.region ?_
  refine RunL.val (Val.load_agg rfl (.head _) ty_25 rfl) rfl rfl rfl ?_
  refine RunL.callP (isCall_func rfl ent_12) rfl rfl rfl (fun w hm => far_calls m w (hM.mono0 hm)) ?_
  refine RunL.val (Val.pure rfl) rfl rfl rfl ?_
  refine RunL.sure (dj := 32) true rfl (by simp [hf]) ?_
  iterate 3 refine RunL.no rfl rfl rfl ?_
  refine RunL.val (Val.pure rfl) rfl rfl rfl ?_
  refine RunL.val (Val.pure rfl) rfl rfl rfl ?_
  refine RunL.sure (dj := 37) true rfl (by simp [hf]) ?_
  iterate 4 refine RunL.no rfl rfl rfl ?_
  refine RunL.val (Val.pure rfl) rfl rfl rfl ?_
  refine RunL.nil ?_
  refine RunE.next ?_
  refine RunC.cond rfl ?_ (fun h => absurd h (by simp))
  intro c0
  clear c0
  refine RunC.seq ?_
  refine RunC.region ?_
  refine RunL.callP (isCall_func rfl ent_13) rfl rfl rfl (fun w hm => hawake_calls w) ?_
  refine RunL.val (Val.pure rfl) rfl rfl rfl ?_
  refine RunL.nil ?_
  refine RunE.next ?_
  refine RunC.ret ?_
  refine RunE.pass_ret ?_
  exact RunE.retP (.r1 rfl (.tmp rfl)) (by first | rfl | simp)
theorem hmore_bad (m : MxA) (g : Nat) (W : World) (hM : MOk W m) (hf : farX m.pl = false) (hX : mixedX m.pl = false ∨ m.cards.length = 0) : Calls Tryd.prog 10 #[m.v, .int .u8 (g : Int)] W (Pure (.bool true) W) := by
  have hsm := far_sm hf
  refine calls_start Tryd.func10 rfl rfl ?_
  refine RunC.seq ?_
  refine RunC.region ?_
  refine RunL.new (New.box rfl) rfl rfl rfl (fun b2 => ?_)
  refine RunL.val (Val.pure rfl) rfl rfl rfl ?_
  refine RunL.nil ?_
  refine RunE.next ?_
  refine RunC.seq ?_
  refine RunC.seq ?_
  refine RunC.region ?_
  refine RunL.val (Val.load_agg rfl (.head _) ty_25 rfl) rfl rfl rfl ?_
  refine RunL.callP (isCall_func rfl ent_12) rfl rfl rfl (fun w hm => far_calls m w (hM.mono0 hm)) ?_
  refine RunL.val (Val.pure rfl) rfl rfl rfl ?_
  refine RunL.sure (dj := 32) false rfl (by simp [hf]) ?_
  refine RunL.val (Val.load_agg rfl (.head _) ty_25 rfl) rfl rfl rfl ?_
  refine RunL.callP (isCall_func rfl ent_33) rfl rfl rfl (fun w hm => rMixed_calls m hsm w (hM.mono0 hm)) ?_
  iterate 3 refine RunL.val (Val.pure rfl) rfl rfl rfl ?_
  refine RunL.orPart (dj := 37) (dp := 42) 5 rfl (fun g37 => by
    have g37' := g37
    try simp only [decide_eq_true_eq, decide_eq_false_iff_not, Bool.not_eq_true', Bool.not_eq_false', Bool.and_eq_true, Bool.or_eq_true, Bool.and_eq_false_iff, Bool.or_eq_false_iff, Int.not_le, Int.not_lt] at g37'
    refine RunL.val (Val.fieldAddr rfl fld_25_1) rfl rfl rfl ?_
    refine RunL.val (Val.load_one rfl (.head _) ty_23 rfl) rfl rfl rfl ?_
    refine RunL.val (Val.len_sl rfl sl_23) rfl rfl rfl ?_
    refine RunL.val (Val.pure rfl) rfl rfl rfl ?_
    refine RunL.val (Val.pure rfl) rfl rfl rfl ?_
    exact RunL.segEnd (Sub.cons rfl (Sub.skip rfl (Sub.skip rfl (Sub.skip rfl (Sub.skip rfl (Sub.skip rfl (Sub.same rfl (by rw [g37]) (Sub.refl _)))))))) (List.Sublist.refl _)
  ) (fun g37 => by
    have g37' := g37
    try simp only [decide_eq_true_eq, decide_eq_false_iff_not, Bool.not_eq_true', Bool.not_eq_false', Bool.and_eq_true, Bool.or_eq_true, Bool.and_eq_false_iff, Bool.or_eq_false_iff, Int.not_le, Int.not_lt] at g37'
    iterate 4 refine RunL.no rfl rfl rfl ?_
    refine RunL.val (Val.pure rfl) rfl rfl rfl ?_
    exact RunL.segEnd (Sub.cons rfl (Sub.skip rfl (Sub.skip rfl (Sub.skip rfl (Sub.skip rfl (Sub.skip rfl (Sub.same rfl (by rw [g37]) (Sub.refl _)))))))) (List.Sublist.refl _)
  ) ?_
  refine RunL.nil ?_
  refine RunE.next ?_
  refine RunC.cond rfl ?_ (fun h => absurd h (by rcases hX with h | h <;> simp [h]))
  intro c0
  clear c0
  refine RunC.seq ?_
  refine RunC.region ?_
  refine RunL.callP (isCall_func rfl ent_13) rfl rfl rfl (fun w hm => hawake_calls w) ?_
  refine RunL.val (Val.pure rfl) rfl rfl rfl ?_
  refine RunL.nil ?_
  refine RunE.next ?_
  refine RunC.ret ?_
  refine RunE.pass_ret ?_
  exact RunE.retP (.r1 rfl (.tmp rfl)) (by first | rfl | simp)
set_option maxHeartbeats 2000000 in
theorem hmore_ok (m : MxA) (g : Nat) (hg : g < 256) (W : World) (hM : MOk W m) (hf : farX m.pl = false) (hX : mixedX m.pl = true) (hc0 : 0 < m.cards.length) : Calls Tryd.prog 10 #[m.v, .int .u8 (g : Int)] W (Pure (.bool true) W) := by
  have hsm := far_sm hf
  obtain ⟨h4, h8, h12⟩ := mixed_ok hX
  have hfl := fs_len m
  obtain ⟨n, hgn, hn⟩ := mod_at (k := g) hc0
  obtain ⟨t, ht⟩ : ∃ t, m.cards[n] = t := ⟨_, rfl⟩
  have htm : t ∈ m.cards := ht ▸ List.getElem_mem hn
  obtain ⟨htn, htx⟩ := hsm.tx t htm
  have hn2 : n < (fsX m.pl).length := by omega
  have hgl := good_let (k := g % 4) (by omega)
  have hgd := good_dig (k := g % 3) (by omega)
  have e1 : CountX m.pl = ((cntX m.pl : Int), 0) := by unfold CountX; rw [if_pos hX]
  have hne : ¬ m.cards = [] := fun h => by rw [h] at hc0; simp at hc0
  have hnl : (m.cards.set n t) = m.cards := by rw [← ht]; exact List.set_getElem_self hn
  refine calls_start Tryd.func10 rfl rfl ?_
  refine RunC.seq ?_
  refine RunC.region ?_
  refine RunL.new (New.box rfl) rfl rfl rfl (fun b2 => ?_)
  refine RunL.val (Val.pure rfl) rfl rfl rfl ?_
  refine RunL.nil ?_
  refine RunE.next ?_
  refine RunC.seq ?_
  refine RunC.seq ?_
  refine RunC.region ?_
  refine RunL.val (Val.load_agg rfl (.head _) ty_25 rfl) rfl rfl rfl ?_
  refine RunL.callP (isCall_func rfl ent_12) rfl rfl rfl (fun w hm => far_calls m w (hM.mono0 hm)) ?_
  refine RunL.val (Val.pure rfl) rfl rfl rfl ?_
  refine RunL.sure (dj := 32) false rfl (by simp [hf]) ?_
  refine RunL.val (Val.load_agg rfl (.head _) ty_25 rfl) rfl rfl rfl ?_
  refine RunL.callP (isCall_func rfl ent_33) rfl rfl rfl (fun w hm => rMixed_calls m hsm w (hM.mono0 hm)) ?_
  iterate 3 refine RunL.val (Val.pure rfl) rfl rfl rfl ?_
  refine RunL.orPart (dj := 37) (dp := 42) 5 rfl (fun g37 => by
    have g37' := g37
    try simp only [decide_eq_true_eq, decide_eq_false_iff_not, Bool.not_eq_true', Bool.not_eq_false', Bool.and_eq_true, Bool.or_eq_true, Bool.and_eq_false_iff, Bool.or_eq_false_iff, Int.not_le, Int.not_lt] at g37'
    refine RunL.val (Val.fieldAddr rfl fld_25_1) rfl rfl rfl ?_
    refine RunL.val (Val.load_one rfl (.head _) ty_23 rfl) rfl rfl rfl ?_
    refine RunL.val (Val.len_sl rfl sl_23) rfl rfl rfl ?_
    refine RunL.val (Val.pure rfl) rfl rfl rfl ?_
    refine RunL.val (Val.pure rfl) rfl rfl rfl ?_
    exact RunL.segEnd (Sub.cons rfl (Sub.skip rfl (Sub.skip rfl (Sub.skip rfl (Sub.skip rfl (Sub.skip rfl (Sub.same rfl (by rw [g37]) (Sub.refl _)))))))) (List.Sublist.refl _)
  ) (fun g37 => by
    have g37' := g37
    try simp only [decide_eq_true_eq, decide_eq_false_iff_not, Bool.not_eq_true', Bool.not_eq_false', Bool.and_eq_true, Bool.or_eq_true, Bool.and_eq_false_iff, Bool.or_eq_false_iff, Int.not_le, Int.not_lt] at g37'
    iterate 4 refine RunL.no rfl rfl rfl ?_
    refine RunL.val (Val.pure rfl) rfl rfl rfl ?_
    exact RunL.segEnd (Sub.cons rfl (Sub.skip rfl (Sub.skip rfl (Sub.skip rfl (Sub.skip rfl (Sub.skip rfl (Sub.same rfl (by rw [g37]) (Sub.refl _)))))))) (List.Sublist.refl _)
  ) ?_
  refine RunL.nil ?_
  refine RunE.next ?_
  refine RunC.cond rfl (fun h => absurd h (by simp [hX, hne])) ?_
  intro c0
  clear c0
  refine RunC.skip ?_
  refine RunE.next ?_
  refine RunC.seq ?_
  apply RunC.drawJ (J := J2 _ _ _ _ _ _) 5 fol_ (.cons .here rfl .nil)
  · refine RunA.val (i := 0) rfl (by kernel_rfl) (by kernel_rfl) (Val.load_agg rfl (.head _) ty_25 rfl) rfl rfl rfl (fun _ _ _ h => h) (.cons .here rfl .nil) rfl ?_
    refine RunA.val (i := 1) rfl (by kernel_rfl) (by kernel_rfl) (Val.load_agg rfl (.head _) ty_25 rfl) rfl rfl rfl (fun _ _ _ h => h) (.cons .here rfl .nil) rfl ?_
    refine RunA.all (rs := [2, 3]) (by kernel_rfl) (by simp) (by kernel_rfl) (fun m hm => ?_)
    simp only [List.mem_cons, List.not_mem_nil, or_false] at hm
    rcases hm with rfl | rfl
    · refine RunI.new rfl (New.alloc zero_25) rfl rfl rfl (fun b5 => (RunK.toA (.cons (.there .here) rfl .nil) (.cons .here rfl .nil) rfl ?_))
      refine RunA.one (i := 3) (by kernel_rfl) (by kernel_rfl) ?_
      refine RunI.new rfl (New.alloc zero_25) rfl rfl rfl (fun b6 => (RunK.toA (.cons .here rfl (.cons (.there .here) rfl .nil)) (.cons (.there .here) rfl .nil) rfl ?_))
      refine RunA.one (i := 4) (by kernel_rfl) (by kernel_rfl) ?_
      refine RunI.sto rfl (Sto.store rfl rfl (.there .here) ty_25 rfl rfl) rfl rfl (RunK.toA (.cons .here rfl (.cons (.there .here) rfl .nil)) (.cons .here rfl (.cons .here rfl .nil)) rfl ?_)
      refine RunA.toB (by kernel_rfl) ?_
      refine RunB.one (i := 5) (by kernel_rfl) ?_
      refine RunI.sto rfl (Sto.store rfl rfl .here ty_25 rfl rfl) rfl rfl (RunK.toB ?_)
      refine RunB.done (by kernel_rfl) ?_
      exact RunE.join2 b5 b6 (Sub.refl _) (Pick.refl _)
    · refine RunI.new rfl (New.alloc zero_25) rfl rfl rfl (fun b6 => (RunK.toA (.cons .here rfl (.cons .here rfl .nil)) (.cons (.there .here) rfl .nil) rfl ?_))
      refine RunA.one (i := 2) (by kernel_rfl) (by kernel_rfl) ?_
      refine RunI.new rfl (New.alloc zero_25) rfl rfl rfl (fun b5 => (RunK.toA (.cons (.there .here) rfl (.cons (.there .here) rfl .nil)) (.cons .here rfl (.cons .here rfl .nil)) rfl ?_))
      refine RunA.one (i := 4) (by kernel_rfl) (by kernel_rfl) ?_
      refine RunI.sto rfl (Sto.store rfl rfl .here ty_25 rfl rfl) rfl rfl (RunK.toA (.cons (.there .here) rfl (.cons (.there .here) rfl .nil)) (.cons .here rfl (.cons .here rfl .nil)) rfl ?_)
      refine RunA.toB (by kernel_rfl) ?_
      refine RunB.one (i := 5) (by kernel_rfl) ?_
      refine RunI.sto rfl (Sto.store rfl rfl (.there .here) ty_25 rfl rfl) rfl rfl (RunK.toB ?_)
      refine RunB.done (by kernel_rfl) ?_
      exact RunE.join2 b5 b6 (Sub.cons (t := 6) rfl (Sub.cons (t := 5) rfl (Sub.cons (t := 45) rfl (Sub.cons (t := 44) rfl (Sub.skip rfl (Sub.skip rfl (Sub.skip rfl (Sub.skip rfl (Sub.refl _))))))))) (.cons (.there .here) rfl (.cons .here rfl (.cons .here rfl .nil)))
  refine J2.out (fun b5 b6 => ?_)
  refine RunE.next ?_
  refine RunC.seq ?_
  refine RunC.region ?_
  refine RunL.new (New.buildSlice0 sl_23) rfl rfl rfl (fun b46 => ?_)
  refine RunL.val (Val.fieldAddr rfl fld_25_1) rfl rfl rfl ?_
  refine RunL.val (Val.load_one rfl (.tail _ (.tail _ (.tail _ (.head _)))) ty_23 rfl) rfl rfl rfl ?_
  refine RunL.keep (Sub.refl _) (.cons (.there .here) rfl (.cons (.there .here) rfl (.cons (.there .here) rfl (.cons .here rfl .nil)))) ?_
  refine RunL.append (A := [(b6, _), (b5, _), (b2, _)]) (B := _) (x := (some (b46, 0, []))) (ys := (m.cards.map Tn.cells).flatten) ap_23 rfl rfl rfl OwnOk.empty (flat_len tn_len _) (fun h => by have h2 := hM.cd.ptrM hn; rw [h] at h2; cases h2) (fun w hm => (hM.cd.mono (by decide) hm (by simp)).flat (by decide)) (one_flat tn_one _) (by simp only [maxLen]; omega) (by omega) rfl (fun z49 hz49 => ?_)
  obtain ⟨bz49, cz49, rz49, rfl, lz491, lz492, lz493⟩ := hz49.has (by omega)
  refine RunL.val (Val.fieldAddr rfl fld_25_1) rfl rfl rfl ?_
  refine RunL.sto (Sto.store rfl rfl (.there .here) ty_23 rfl rfl) rfl rfl ?_
  refine RunL.val (Val.fieldAddr rfl fld_25_1) rfl rfl rfl ?_
  refine RunL.sto (Sto.store rfl rfl .here ty_23 rfl rfl) rfl rfl ?_
  refine RunL.nil ?_
  refine RunE.next ?_
  refine RunC.seq ?_
  refine RunC.region ?_
  refine RunL.val (Val.pure rfl) rfl rfl rfl ?_
  refine RunL.val (Val.convInt rfl und_5 und_3 (IntWalk.i64_in _ ⟨by omega, by omega⟩)) rfl rfl rfl ?_
  refine RunL.val (Val.fieldAddr rfl fld_25_1) rfl rfl rfl ?_
  refine RunL.val (Val.load_one rfl (.tail _ (.tail _ (.head _))) ty_23 rfl) rfl rfl rfl ?_
  refine RunL.val (Val.len_sl rfl sl_23) rfl rfl rfl ?_
  refine RunL.val (Val.remN (a := g) (b := m.cards.length) rfl rfl hc0) rfl rfl rfl ?_
  refine RunL.val (Val.pure rfl) rfl rfl rfl ?_
  refine RunL.nil ?_
  refine RunE.next ?_
  refine RunC.seq ?_
  refine RunC.region ?_
  rw [hgn]
  refine RunL.val (Val.fieldAddr rfl fld_25_1) rfl rfl rfl ?_
  refine RunL.val (Val.load_one rfl (.tail _ (.head _)) ty_23 rfl) rfl rfl rfl ?_
  refine RunL.val (Val.pure rfl) rfl rfl rfl ?_
  refine RunL.val (Val.indexAddr_sl rfl rfl sl_23 (by omega) (by omega)) rfl rfl rfl ?_
  refine RunL.val (Val.pure rfl) rfl rfl rfl ?_
  refine RunL.nil ?_
  refine RunE.next ?_
  refine RunC.seqJ (X := Tn) (n0 := [(b5, _), (b6, _), (b2, _)]) (fun y q => q) (fun y => []) (fun y => [(bz49, .cells (((m.cards.set n y).map Tn.cells).flatten ++ rz49).toArray 50 (0, 0))]) (fun y => []) (fun y => More t y) (Sub.cons (t := 1) rfl (Sub.cons (t := 2) rfl (Sub.cons (t := 5) rfl (Sub.cons (t := 6) rfl (Sub.cons (t := 7) rfl (Sub.nil _)))))) (.cons (.there .here) rfl (.cons .here rfl (.cons .here rfl .nil))) ?_ ?_
  · refine RunC.seq ?_
    refine RunC.region ?_
    refine RunL.val (Val.pure rfl) rfl rfl rfl ?_
    refine RunL.val (Val.quoN (a := g) (b := 16) rfl rfl (by omega) (u8_inN (by omega))) rfl rfl rfl ?_
    refine RunL.val (Val.remN (a := g / 16) (b := 3) rfl rfl (by omega)) rfl rfl rfl ?_
    refine RunL.nil ?_
    refine RunE.next ?_
    refine RunC.block ?_
    refine RunC.seq ?_
    refine RunC.region ?_
    refine RunL.val (Val.pure rfl) rfl rfl rfl ?_
    refine RunL.val (Val.pure rfl) rfl rfl rfl ?_
    refine RunL.nil ?_
    refine RunE.next ?_
    refine RunC.cond rfl ?_ ?_
    · intro c1
      have c1' := c1; clear c1
      try simp only [decide_eq_true_eq, decide_eq_false_iff_not, Bool.not_eq_true', Bool.not_eq_false', Bool.and_eq_true, Bool.or_eq_true, Bool.and_eq_false_iff, Bool.or_eq_false_iff, Int.not_le, Int.not_lt] at c1'
      refine RunC.seq ?_
      refine RunC.region ?_
      refine RunL.val (Val.pure rfl) rfl rfl rfl ?_
      refine RunL.val (Val.pure rfl) rfl rfl rfl ?_
      refine RunL.val (Val.fieldAddr rfl fld_50_0) rfl rfl rfl ?_
      refine RunL.val (Val.load_gen rfl (fun w hm => (Sl.rowsR (xs := m.cards.map Tn.cells) (t := rz49) (hm.at (.tail _ (.tail _ (.tail _ (.head _))))) tn_rows).cellX (Mem.refl w) (by simp) ty_3 hn ht (j := 0) (by decide) rfl)) rfl rfl rfl ?_
      refine RunL.val (Val.pure rfl) rfl rfl rfl ?_
      refine RunL.nil ?_
      refine RunE.next ?_
      refine RunC.cond rfl ?_ ?_
      · intro c2
        have c2' := c2; clear c2
        try simp only [decide_eq_true_eq, decide_eq_false_iff_not, Bool.not_eq_true', Bool.not_eq_false', Bool.and_eq_true, Bool.or_eq_true, Bool.and_eq_false_iff, Bool.or_eq_false_iff, Int.not_le, Int.not_lt] at c2'
        refine RunC.region ?_
        refine RunL.val (Val.pure rfl) rfl rfl rfl ?_
        refine RunL.val (Val.pure rfl) rfl rfl rfl ?_
        refine RunL.val (Val.convInt rfl und_5 und_3 (IntWalk.i64_in _ ⟨by omega, by omega⟩)) rfl rfl rfl ?_
        refine RunL.val (Val.quoN (a := g) (b := 48) rfl rfl (by omega) (i64_inN (by omega))) rfl rfl rfl ?_
        refine RunL.val (Val.remN (a := g / 48) (b := 9) rfl rfl (by omega)) rfl rfl rfl ?_
        refine RunL.val (Val.addN (a := 1) (b := g / 48 % 9) (1 + g / 48 % 9) rfl rfl rfl (i64_inN (by omega))) rfl rfl rfl ?_
        refine RunL.val (Val.pure rfl) rfl rfl rfl ?_
        refine RunL.val (Val.fieldAddr rfl fld_50_0) rfl rfl rfl ?_
        refine RunL.sto (Sto.store (cs := (m.cards.map Tn.cells).flatten ++ rz49) (cs' := ((m.cards.set n { t with colour := ((1 + g / 48 % 9 : Nat) : Int) }).map Tn.cells).flatten ++ rz49) rfl rfl (.there (.there (.there .here))) ty_3 rfl (paste_rowE tn_len hn ht (j := 0) (by simp) rfl)) rfl rfl ?_
        refine RunL.nil ?_
        refine RunE.block_normal ?_
        exact RunE.meet { t with colour := ((1 + g / 48 % 9 : Nat) : Int) } (More.colour c2' (by omega)) rfl (Sub.cons (t := 1) rfl (Sub.cons (t := 2) rfl (Sub.cons (t := 5) rfl (Sub.cons (t := 6) rfl (Sub.cons (t := 7) rfl (Sub.nil _)))))) (.cons (.there (.there (.there .here))) rfl (.cons (.there .here) rfl (.cons .here rfl (.cons .here rfl .nil))))
      · intro c2
        have c2' := c2; clear c2
        try simp only [decide_eq_true_eq, decide_eq_false_iff_not, Bool.not_eq_true', Bool.not_eq_false', Bool.and_eq_true, Bool.or_eq_true, Bool.and_eq_false_iff, Bool.or_eq_false_iff, Int.not_le, Int.not_lt] at c2'
        refine RunC.skip ?_
        refine RunE.block_normal ?_
        exact RunE.meet t (More.refl t) rfl (Sub.cons (t := 1) rfl (Sub.cons (t := 2) rfl (Sub.cons (t := 5) rfl (Sub.cons (t := 6) rfl (Sub.cons (t := 7) rfl (Sub.nil _)))))) (.cons (.there (.there (.there .here))) (by rw [hnl]; rfl) (.cons (.there .here) rfl (.cons .here rfl (.cons .here rfl .nil))))
    · intro c1
      have c1' := c1; clear c1
      try simp only [decide_eq_true_eq, decide_eq_false_iff_not, Bool.not_eq_true', Bool.not_eq_false', Bool.and_eq_true, Bool.or_eq_true, Bool.and_eq_false_iff, Bool.or_eq_false_iff, Int.not_le, Int.not_lt] at c1'
      refine RunC.seq ?_
      refine RunC.region ?_
      refine RunL.val (Val.pure rfl) rfl rfl rfl ?_
      refine RunL.val (Val.pure rfl) rfl rfl rfl ?_
      refine RunL.nil ?_
      refine RunE.next ?_
      refine RunC.cond rfl ?_ ?_
      · intro c3
        have c3' := c3; clear c3
        try simp only [decide_eq_true_eq, decide_eq_false_iff_not, Bool.not_eq_true', Bool.not_eq_false', Bool.and_eq_true, Bool.or_eq_true, Bool.and_eq_false_iff, Bool.or_eq_false_iff, Int.not_le, Int.not_lt] at c3'
        refine RunC.seq ?_
        refine RunC.region ?_
        refine RunL.val (Val.pure rfl) rfl rfl rfl ?_
        refine RunL.val (Val.pure rfl) rfl rfl rfl ?_
        refine RunL.val (Val.fieldAddr rfl fld_50_2) rfl rfl rfl ?_
        refine RunL.val (Val.load_gen rfl (fun w hm => (Sl.rowsR (xs := m.cards.map Tn.cells) (t := rz49) (hm.at (.tail _ (.tail _ (.tail _ (.head _))))) tn_rows).cellX (Mem.refl w) (by simp) ty_9 hn ht (j := 2) (by decide) rfl)) rfl rfl rfl ?_
        refine RunL.newX (NewX.bytes rfl und_9 sls_47 und_5) rfl rfl rfl (fun p113 _ b113 => ?_)
        refine RunL.val (Val.pure rfl) rfl rfl rfl ?_
        refine RunL.nil ?_
        refine RunE.next ?_
        refine RunC.seqJ (X := Str) (n0 := [(b6, _), (b5, _), (b2, _), (bz49, _)]) (fun z q => q) (fun z => []) (fun z => [(b113, bytesO 5 (z.map byteV) p113)]) (fun z => []) (fun z => z = repl1 (UInt8.ofNat (97 + g % 4)) t.text) (Sub.cons (t := 1) rfl (Sub.cons (t := 2) rfl (Sub.cons (t := 5) rfl (Sub.cons (t := 6) rfl (Sub.cons (t := 7) rfl (Sub.cons (t := 8) rfl (Sub.cons (t := 9) rfl (Sub.nil _)))))))) (.cons (.there .here) rfl (.cons (.there .here) rfl (.cons (.there .here) rfl (.cons (.there .here) rfl .nil)))) ?_ ?_
        · refine RunC.seq ?_
          refine RunC.region ?_
          refine RunL.val (Val.pure rfl) rfl rfl rfl ?_
          refine RunL.val (Val.len_sl rfl sl_47) rfl rfl rfl ?_
          refine RunL.val (Val.pure rfl) rfl rfl rfl ?_
          refine RunL.nil ?_
          refine RunE.next ?_
          refine RunC.block ?_
          refine RunC.loopK (t.text.length) (fun j q => (116, .int .i64 (j : Int)) :: q) (fun _ => _) (fun _ => []) (fun j => ∀ k (h : k < t.text.length), k < j → t.text[k].toNat ≠ 63) (fun k h hk => by omega) rfl (Sub.consE (t := 116) rfl rfl (Sub.cons (t := 1) rfl (Sub.cons (t := 2) rfl (Sub.cons (t := 5) rfl (Sub.cons (t := 6) rfl (Sub.cons (t := 7) rfl (Sub.cons (t := 8) rfl (Sub.cons (t := 9) rfl (Sub.cons (t := 115) rfl (Sub.nil _)))))))))) (.cons .here rfl (.cons .here rfl (.cons .here rfl (.cons .here rfl (.cons .here rfl .nil))))) ?_
          intro j jN jI
          refine RunC.seq ?_
          refine RunC.region ?_
          refine RunL.val (Val.pure rfl) rfl rfl rfl ?_
          refine RunL.nil ?_
          refine RunE.next ?_
          refine RunC.seq ?_
          refine RunC.cond rfl ?_ ?_
          · intro c4
            have c4' := c4; clear c4
            try simp only [decide_eq_true_eq, decide_eq_false_iff_not, Bool.not_eq_true', Bool.not_eq_false', Bool.and_eq_true, Bool.or_eq_true, Bool.and_eq_false_iff, Bool.or_eq_false_iff, Int.not_le, Int.not_lt] at c4'
            have hj : j < t.text.length := by omega
            obtain ⟨c, hc⟩ : ∃ c, t.text[j] = c := ⟨_, rfl⟩
            refine RunC.skip ?_
            refine RunE.next ?_
            refine RunC.seq ?_
            refine RunC.block ?_
            refine RunC.seq ?_
            refine RunC.region ?_
            refine RunL.val (Val.pure rfl) rfl rfl rfl ?_
            refine RunL.val (Val.pure rfl) rfl rfl rfl ?_
            refine RunL.nil ?_
            refine RunE.next ?_
            refine RunC.seq ?_
            refine RunC.region ?_
            refine RunL.val (Val.pure rfl) rfl rfl rfl ?_
            refine RunL.val (Val.pure rfl) rfl rfl rfl ?_
            refine RunL.val (Val.indexAddr_sl rfl rfl sl_47 (by omega) (by omega)) rfl rfl rfl ?_
            refine RunL.val (Val.load_gen rfl (fun w hm => (bytes_sl (hm.at (.head _))).loadM1 (by decide) (Mem.refl w) (by simp) ty_5 hj (v := byteV c) (by simp [hc]))) rfl rfl rfl ?_
            refine RunL.val (Val.pure rfl) rfl rfl rfl ?_
            refine RunL.nil ?_
            refine RunE.next ?_
            refine RunC.cond rfl ?_ ?_
            · intro c5
              have c5' := c5; clear c5
              try simp only [decide_eq_true_eq, decide_eq_false_iff_not, Bool.not_eq_true', Bool.not_eq_false', Bool.and_eq_true, Bool.or_eq_true, Bool.and_eq_false_iff, Bool.or_eq_false_iff, Int.not_le, Int.not_lt] at c5'
              refine RunC.seq ?_
              refine RunC.region ?_
              iterate 3 refine RunL.val (Val.pure rfl) rfl rfl rfl ?_
              refine RunL.val (Val.remN (a := g) (b := 4) rfl rfl (by omega)) rfl rfl rfl ?_
              refine RunL.val (Val.addN (a := 97) (b := g % 4) (97 + g % 4) rfl rfl rfl (u8_inN (by omega))) rfl rfl rfl ?_
              refine RunL.val (Val.indexAddr_sl rfl rfl sl_47 (by omega) (by omega)) rfl rfl rfl ?_
              refine RunL.sto (Sto.storeB (cs := t.text.map byteV ++ List.replicate p113 (Value.int IntKind.u8 0)) rfl rfl .here ty_5 rfl (by simp; omega) (by simp; omega)) rfl rfl ?_
              refine RunL.nil ?_
              refine RunE.next ?_
              refine RunC.exit ?_
              refine RunE.block_other rfl ?_
              refine RunE.pass_exit ?_
              refine RunE.pass_exit ?_
              refine RunE.block_here ?_
              exact RunE.meet (t.text.set j (UInt8.ofNat (97 + g % 4))) (repl1_at hj (fun k h hkj => jI k h hkj) (by rw [hc]; omega)).symm rfl (Sub.cons (t := 1) rfl (Sub.cons (t := 2) rfl (Sub.cons (t := 5) rfl (Sub.cons (t := 6) rfl (Sub.cons (t := 7) rfl (Sub.cons (t := 8) rfl (Sub.cons (t := 9) rfl (Sub.nil _)))))))) (.cons .here (bytes_set hj (byte_v (by omega))) (.cons .here rfl (.cons .here rfl (.cons .here rfl (.cons .here rfl .nil)))))
            · intro c5
              have c5' := c5; clear c5
              try simp only [decide_eq_true_eq, decide_eq_false_iff_not, Bool.not_eq_true', Bool.not_eq_false', Bool.and_eq_true, Bool.or_eq_true, Bool.and_eq_false_iff, Bool.or_eq_false_iff, Int.not_le, Int.not_lt] at c5'
              refine RunC.skip ?_
              refine RunE.block_normal ?_
              refine RunE.next ?_
              refine RunC.region ?_
              refine RunL.val (Val.add rfl rfl (IntWalk.i64_in _ ⟨by omega, by omega⟩)) rfl rfl rfl ?_
              refine RunL.val (Val.pure rfl) rfl rfl rfl ?_
              refine RunL.nil ?_
              exact RunE.round (by omega) (fun k h hkj => by rcases Nat.lt_or_ge k j with h1 | h1; exact jI k h h1; (have e : k = j := (by omega); subst e; rw [hc]; omega)) rfl (Sub.consE (t := 116) rfl rfl (Sub.cons (t := 1) rfl (Sub.cons (t := 2) rfl (Sub.cons (t := 5) rfl (Sub.cons (t := 6) rfl (Sub.cons (t := 7) rfl (Sub.cons (t := 8) rfl (Sub.cons (t := 9) rfl (Sub.cons (t := 115) rfl (Sub.nil _)))))))))) (.cons .here rfl (.cons .here rfl (.cons .here rfl (.cons .here rfl (.cons .here rfl .nil)))))
          · intro c4
            have c4' := c4; clear c4
            try simp only [decide_eq_true_eq, decide_eq_false_iff_not, Bool.not_eq_true', Bool.not_eq_false', Bool.and_eq_true, Bool.or_eq_true, Bool.and_eq_false_iff, Bool.or_eq_false_iff, Int.not_le, Int.not_lt] at c4'
            obtain rfl : j = t.text.length := by omega
            refine RunC.exit ?_
            refine RunE.pass_exit ?_
            refine RunE.pass_exit ?_
            refine RunE.block_here ?_
            exact RunE.meet t.text (repl1_none (fun k h => jI k h h)).symm rfl (Sub.cons (t := 1) rfl (Sub.cons (t := 2) rfl (Sub.cons (t := 5) rfl (Sub.cons (t := 6) rfl (Sub.cons (t := 7) rfl (Sub.cons (t := 8) rfl (Sub.cons (t := 9) rfl (Sub.nil _)))))))) (.cons .here rfl (.cons .here rfl (.cons .here rfl (.cons .here rfl (.cons .here rfl .nil)))))
        · intro z zI
          subst zI
          refine RunC.region ?_
          refine RunL.val (Val.pure rfl) rfl rfl rfl ?_
          refine RunL.val (Val.pure rfl) rfl rfl rfl ?_
          refine RunL.val (Val.bytesStrN (repl1 (UInt8.ofNat (97 + g % 4)) t.text) (repl1_len _ _) rfl sls_47 und_5 und_9 (fun w hm => bytes_sl (hm.at (.head _)))) rfl rfl rfl ?_
          refine RunL.val (Val.pure rfl) rfl rfl rfl ?_
          refine RunL.val (Val.fieldAddr rfl fld_50_2) rfl rfl rfl ?_
          refine RunL.sto (Sto.store (cs := (m.cards.map Tn.cells).flatten ++ rz49) (cs' := ((m.cards.set n { t with text := repl1 (UInt8.ofNat (97 + g % 4)) t.text }).map Tn.cells).flatten ++ rz49) rfl rfl (.there (.there (.there (.there .here)))) ty_9 rfl (paste_rowE tn_len hn ht (j := 2) (by simp) rfl)) rfl rfl ?_
          refine RunL.nil ?_
          refine RunE.block_normal ?_
          exact RunE.meet { t with text := repl1 (UInt8.ofNat (97 + g % 4)) t.text } (More.text t hgl.1 hgl.2) rfl (Sub.cons (t := 1) rfl (Sub.cons (t := 2) rfl (Sub.cons (t := 5) rfl (Sub.cons (t := 6) rfl (Sub.cons (t := 7) rfl (Sub.nil _)))))) (.cons (.there (.there (.there (.there .here)))) rfl (.cons (.there (.there .here)) rfl (.cons (.there .here) rfl (.cons (.there .here) rfl .nil))))
      · intro c3
        have c3' := c3; clear c3
        try simp only [decide_eq_true_eq, decide_eq_false_iff_not, Bool.not_eq_true', Bool.not_eq_false', Bool.and_eq_true, Bool.or_eq_true, Bool.and_eq_false_iff, Bool.or_eq_false_iff, Int.not_le, Int.not_lt] at c3'
        refine RunC.seq ?_
        refine RunC.region ?_
        refine RunL.val (Val.pure rfl) rfl rfl rfl ?_
        refine RunL.val (Val.pure rfl) rfl rfl rfl ?_
        refine RunL.val (Val.fieldAddr rfl fld_50_1) rfl rfl rfl ?_
        refine RunL.val (Val.load_gen rfl (fun w hm => (Sl.rowsR (xs := m.cards.map Tn.cells) (t := rz49) (hm.at (.tail _ (.tail _ (.tail _ (.head _))))) tn_rows).cellX (Mem.refl w) (by simp) ty_9 hn ht (j := 1) (by decide) rfl)) rfl rfl rfl ?_
        refine RunL.newX (NewX.bytes rfl und_9 sls_47 und_5) rfl rfl rfl (fun p69 _ b69 => ?_)
        refine RunL.val (Val.pure rfl) rfl rfl rfl ?_
        refine RunL.nil ?_
        refine RunE.next ?_
        refine RunC.seq ?_
        refine RunC.seq ?_
        refine RunC.region ?_
        refine RunL.val (Val.pure rfl) rfl rfl rfl ?_
        refine RunL.val (Val.len_sl rfl sl_47) rfl rfl rfl ?_
        refine RunL.val (Val.pure rfl) rfl rfl rfl ?_
        refine RunL.nil ?_
        refine RunE.next ?_
        refine RunC.block ?_
        refine RunC.loopK (t.number.length) (fun j q => (72, .int .i64 (j : Int)) :: q) (fun _ => _) (fun j => [(b69, bytesO 5 ((replP (UInt8.ofNat (49 + g % 3)) t.number j).map byteV) p69)]) (fun _ => True) trivial rfl (Sub.consE (t := 72) rfl rfl (Sub.cons (t := 1) rfl (Sub.cons (t := 2) rfl (Sub.cons (t := 5) rfl (Sub.cons (t := 6) rfl (Sub.cons (t := 7) rfl (Sub.cons (t := 8) rfl (Sub.cons (t := 11) rfl (Sub.cons (t := 71) rfl (Sub.nil _)))))))))) (.cons .here (by simp [replP, replA]) (.cons .here rfl (.cons .here rfl (.cons .here rfl (.cons .here rfl .nil))))) ?_
        intro j jN jI
        clear jI
        refine RunC.seq ?_
        refine RunC.region ?_
        refine RunL.val (Val.pure rfl) rfl rfl rfl ?_
        refine RunL.nil ?_
        refine RunE.next ?_
        refine RunC.seq ?_
        refine RunC.cond rfl ?_ ?_
        · intro c6
          have c6' := c6; clear c6
          try simp only [decide_eq_true_eq, decide_eq_false_iff_not, Bool.not_eq_true', Bool.not_eq_false', Bool.and_eq_true, Bool.or_eq_true, Bool.and_eq_false_iff, Bool.or_eq_false_iff, Int.not_le, Int.not_lt] at c6'
          have hj : j < t.number.length := by omega
          obtain ⟨c, hc⟩ : ∃ c, t.number[j] = c := ⟨_, rfl⟩
          refine RunC.skip ?_
          refine RunE.next ?_
          refine RunC.seq ?_
          refine RunC.block ?_
          refine RunC.seq ?_
          refine RunC.region ?_
          refine RunL.val (Val.pure rfl) rfl rfl rfl ?_
          refine RunL.val (Val.pure rfl) rfl rfl rfl ?_
          refine RunL.nil ?_
          refine RunE.next ?_
          refine RunC.seq ?_
          refine RunC.region ?_
          refine RunL.val (Val.pure rfl) rfl rfl rfl ?_
          refine RunL.val (Val.pure rfl) rfl rfl rfl ?_
          refine RunL.val (Val.indexAddr_sl rfl rfl sl_47 (by omega) (by omega)) rfl rfl rfl ?_
          refine RunL.val (Val.load_gen rfl (fun w hm => (bytes_sl (hm.at (.head _))).loadM1 (by decide) (Mem.refl w) (by simp) ty_5 (by rw [replP_len]; exact hj) (v := byteV c) (by simp [replP_at hj, hc]))) rfl rfl rfl ?_
          refine RunL.val (Val.pure rfl) rfl rfl rfl ?_
          refine RunL.nil ?_
          refine RunE.next ?_
          refine RunC.cond rfl ?_ ?_
          · intro c7
            have c7' := c7; clear c7
            try simp only [decide_eq_true_eq, decide_eq_false_iff_not, Bool.not_eq_true', Bool.not_eq_false', Bool.and_eq_true, Bool.or_eq_true, Bool.and_eq_false_iff, Bool.or_eq_false_iff, Int.not_le, Int.not_lt] at c7'
            refine RunC.region ?_
            iterate 3 refine RunL.val (Val.pure rfl) rfl rfl rfl ?_
            refine RunL.val (Val.remN (a := g) (b := 3) rfl rfl (by omega)) rfl rfl rfl ?_
            refine RunL.val (Val.addN (a := 49) (b := g % 3) (49 + g % 3) rfl rfl rfl (u8_inN (by omega))) rfl rfl rfl ?_
            refine RunL.val (Val.indexAddr_sl rfl rfl sl_47 (by omega) (by omega)) rfl rfl rfl ?_
            refine RunL.sto (Sto.storeB (cs := (replP (UInt8.ofNat (49 + g % 3)) t.number j).map byteV ++ List.replicate p69 (Value.int IntKind.u8 0)) rfl rfl .here ty_5 rfl (by simp [replP_len]; omega) (by simp [replP_len]; omega)) rfl rfl ?_
            refine RunL.nil ?_
            refine RunE.block_normal ?_
            refine RunE.next ?_
            refine RunC.region ?_
            refine RunL.val (Val.add rfl rfl (IntWalk.i64_in _ ⟨by omega, by omega⟩)) rfl rfl rfl ?_
            refine RunL.val (Val.pure rfl) rfl rfl rfl ?_
            refine RunL.nil ?_
            exact RunE.round (by omega) trivial rfl (Sub.consE (t := 72) rfl rfl (Sub.cons (t := 1) rfl (Sub.cons (t := 2) rfl (Sub.cons (t := 5) rfl (Sub.cons (t := 6) rfl (Sub.cons (t := 7) rfl (Sub.cons (t := 8) rfl (Sub.cons (t := 11) rfl (Sub.cons (t := 71) rfl (Sub.nil _)))))))))) (.cons .here (by first | (rw [← replP_yes hj (by rw [hc]; omega)]; exact bytes_set (by rw [replP_len]; exact hj) (byte_v (by omega))) | rw [← replP_no hj (by rw [hc]; omega)]) (.cons .here rfl (.cons .here rfl (.cons .here rfl (.cons .here rfl .nil)))))
          · intro c7
            have c7' := c7; clear c7
            try simp only [decide_eq_true_eq, decide_eq_false_iff_not, Bool.not_eq_true', Bool.not_eq_false', Bool.and_eq_true, Bool.or_eq_true, Bool.and_eq_false_iff, Bool.or_eq_false_iff, Int.not_le, Int.not_lt] at c7'
            refine RunC.skip ?_
            refine RunE.block_normal ?_
            refine RunE.next ?_
            refine RunC.region ?_
            refine RunL.val (Val.add rfl rfl (IntWalk.i64_in _ ⟨by omega, by omega⟩)) rfl rfl rfl ?_
            refine RunL.val (Val.pure rfl) rfl rfl rfl ?_
            refine RunL.nil ?_
            exact RunE.round (by omega) trivial rfl (Sub.consE (t := 72) rfl rfl (Sub.cons (t := 1) rfl (Sub.cons (t := 2) rfl (Sub.cons (t := 5) rfl (Sub.cons (t := 6) rfl (Sub.cons (t := 7) rfl (Sub.cons (t := 8) rfl (Sub.cons (t := 11) rfl (Sub.cons (t := 71) rfl (Sub.nil _)))))))))) (.cons .here (by first | (rw [← replP_yes hj (by rw [hc]; omega)]; exact bytes_set (by rw [replP_len]; exact hj) (byte_v (by omega))) | rw [← replP_no hj (by rw [hc]; omega)]) (.cons .here rfl (.cons .here rfl (.cons .here rfl (.cons .here rfl .nil)))))
        · intro c6
          have c6' := c6; clear c6
          try simp only [decide_eq_true_eq, decide_eq_false_iff_not, Bool.not_eq_true', Bool.not_eq_false', Bool.and_eq_true, Bool.or_eq_true, Bool.and_eq_false_iff, Bool.or_eq_false_iff, Int.not_le, Int.not_lt] at c6'
          obtain rfl : j = t.number.length := by omega
          rw [replP_all]
          refine RunC.exit ?_
          refine RunE.pass_exit ?_
          refine RunE.pass_exit ?_
          refine RunE.block_here ?_
          refine RunE.next ?_
          refine RunC.region ?_
          refine RunL.val (Val.pure rfl) rfl rfl rfl ?_
          refine RunL.val (Val.pure rfl) rfl rfl rfl ?_
          refine RunL.val (Val.bytesStrN (replA (UInt8.ofNat (49 + g % 3)) t.number) (replA_len _ _) rfl sls_47 und_5 und_9 (fun w hm => bytes_sl (hm.at (.head _)))) rfl rfl rfl ?_
          refine RunL.val (Val.pure rfl) rfl rfl rfl ?_
          refine RunL.val (Val.fieldAddr rfl fld_50_1) rfl rfl rfl ?_
          refine RunL.sto (Sto.store (cs := (m.cards.map Tn.cells).flatten ++ rz49) (cs' := ((m.cards.set n { t with number := replA (UInt8.ofNat (49 + g % 3)) t.number }).map Tn.cells).flatten ++ rz49) rfl rfl (.there (.there (.there (.there .here)))) ty_9 rfl (paste_rowE tn_len hn ht (j := 1) (by simp) rfl)) rfl rfl ?_
          refine RunL.nil ?_
          refine RunE.block_normal ?_
          exact RunE.meet { t with number := replA (UInt8.ofNat (49 + g % 3)) t.number } (More.number t hgd.1 hgd.2) rfl (Sub.cons (t := 1) rfl (Sub.cons (t := 2) rfl (Sub.cons (t := 5) rfl (Sub.cons (t := 6) rfl (Sub.cons (t := 7) rfl (Sub.nil _)))))) (.cons (.there (.there (.there (.there .here)))) rfl (.cons (.there (.there .here)) rfl (.cons (.there .here) rfl (.cons (.there .here) rfl .nil))))
  · intro y yI
    have hsA : MSm (setA m n y bz49 cz49) := setA_sm hn ht yI hsm
    obtain ⟨hXA, hFl, hFb⟩ := setA_ok (b := bz49) (cap := cz49) hX hn ht yI
    obtain ⟨cb, hcb⟩ : ∃ cb, cntL (esX m).length (fsX (setA m n y bz49 cz49).pl) 0 = cb := ⟨_, rfl⟩
    have eA : CountX (setA m n y bz49 cz49).pl = ((cb : Int), 0) := by (unfold CountX cntX; rw [if_pos hXA, ← hcb]; rfl)
    refine RunC.seq ?_
    refine RunC.seq ?_
    refine RunC.region ?_
    refine RunL.val (Val.fieldAddr rfl fld_25_1) rfl rfl rfl ?_
    refine RunL.val (Val.load_one rfl (.tail _ (.tail _ (.tail _ (.head _)))) ty_23 rfl) rfl rfl rfl ?_
    refine RunL.val (Val.len_sl rfl sl_23) rfl rfl rfl ?_
    refine RunL.val (Val.pure rfl) rfl rfl rfl ?_
    refine RunL.nil ?_
    refine RunE.next ?_
    refine RunC.block ?_
    refine RunC.loopX (X := Eng.Own) (n0 := [(bz49, _), (b5, _), (b2, _)]) (m.cards.length) (fun k x q => (139, .int .i64 (k : Int)) :: q) (fun _ _ => _) (fun k x => [(b6, .cells [.slice m.q m.bxs.length m.cap, ownV x ((m.cards.take k).eraseIdx n).length].toArray 25 (0, 0))]) (fun k x => ownB 50 x (((m.cards.take k).eraseIdx n).map Tn.cells).flatten ++ []) (fun k x => OwnOk 3 x ((m.cards.take k).eraseIdx n).length (((m.cards.take k).eraseIdx n).map Tn.cells).flatten) none (by simpa using OwnOk.start (sz := 3)) rfl (Sub.consE (t := 139) rfl rfl (Sub.cons (t := 1) rfl (Sub.cons (t := 2) rfl (Sub.cons (t := 5) rfl (Sub.cons (t := 6) rfl (Sub.cons (t := 7) rfl (Sub.cons (t := 137) rfl (Sub.cons (t := 138) rfl (Sub.nil _))))))))) (.cons (.there (.there .here)) rfl (.cons .here rfl (.cons .here rfl (.cons .here rfl (Pick.same rfl))))) ?_
    intro k x kN kI
    have hx1 := kI
    refine RunC.seq ?_
    refine RunC.region ?_
    refine RunL.val (Val.pure rfl) rfl rfl rfl ?_
    refine RunL.nil ?_
    refine RunE.next ?_
    refine RunC.seq ?_
    refine RunC.cond rfl ?_ ?_
    · intro c8
      have c8' := c8; clear c8
      try simp only [decide_eq_true_eq, decide_eq_false_iff_not, Bool.not_eq_true', Bool.not_eq_false', Bool.and_eq_true, Bool.or_eq_true, Bool.and_eq_false_iff, Bool.or_eq_false_iff, Int.not_le, Int.not_lt] at c8'
      have hk : k < m.cards.length := by omega
      have hel := (List.eraseIdx_sublist (m.cards.take k) n).length_le
      rw [List.length_take] at hel
      obtain ⟨c, hc⟩ : ∃ c, m.cards[k] = c := ⟨_, rfl⟩
      refine RunC.skip ?_
      refine RunE.next ?_
      refine RunC.seq ?_
      refine RunC.block ?_
      refine RunC.seq ?_
      refine RunC.region ?_
      refine RunL.val (Val.pure rfl) rfl rfl rfl ?_
      refine RunL.val (Val.indexAddr_slp rfl rfl sl_23 (by omega) (by omega) (hM.cd.ptrM hk)) rfl rfl rfl ?_
      refine RunL.val (Val.load_gen rfl (fun w hm => hM.cd.loadX (by decide) hm (by simp) ty_50 hk hc)) rfl rfl rfl ?_
      refine RunL.new (New.alloc zero_50) rfl rfl rfl (fun b14 => ?_)
      refine RunL.val (Val.pure rfl) rfl rfl rfl ?_
      refine RunL.sto (Sto.store rfl rfl .here ty_50 rfl rfl) rfl rfl ?_
      refine RunL.nil ?_
      refine RunE.next ?_
      refine RunC.seq ?_
      refine RunC.region ?_
      iterate 3 refine RunL.val (Val.pure rfl) rfl rfl rfl ?_
      refine RunL.nil ?_
      refine RunE.next ?_
      refine RunC.cond rfl ?_ ?_
      · intro c9
        have c9' := c9; clear c9
        try simp only [decide_eq_true_eq, decide_eq_false_iff_not, Bool.not_eq_true', Bool.not_eq_false', Bool.and_eq_true, Bool.or_eq_true, Bool.and_eq_false_iff, Bool.or_eq_false_iff, Int.not_le, Int.not_lt] at c9'
        refine RunC.region ?_
        refine RunL.val (Val.fieldAddr rfl fld_25_1) rfl rfl rfl ?_
        refine RunL.val (Val.load_one rfl (.tail _ (.head _)) ty_23 rfl) rfl rfl rfl ?_
        refine RunL.val (Val.load_agg rfl (.head _) ty_50 rfl) rfl rfl rfl ?_
        refine RunL.new (New.buildSlice (parts := [(0, .tmp 149)]) rfl sl_23 zero_50 rfl rfl rfl rfl) rfl rfl rfl (fun b150 => ?_)
        refine RunL.append (A := [(b150, _), (b14, _), (b6, _), (bz49, _), (b5, _), (b2, _)]) (B := _) (x := x) (ys := c.cells) ap_23 rfl rfl rfl hx1 rfl (fun h => by cases h) (fun w hm => src_blk (hm.at (.head _))) (one_of rfl) (by simp only [maxLen]; omega) (by omega) rfl (fun z151 hz151 => ?_)
        obtain ⟨bz151, cz151, rz151, rfl, lz1511, lz1512, lz1513⟩ := hz151.has (by omega)
        refine RunL.val (Val.fieldAddr rfl fld_25_1) rfl rfl rfl ?_
        refine RunL.sto (Sto.store rfl rfl (.there (.there .here)) ty_23 rfl rfl) rfl rfl ?_
        refine RunL.nil ?_
        refine RunE.block_normal ?_
        refine RunE.next ?_
        refine RunC.region ?_
        refine RunL.val (Val.add rfl rfl (IntWalk.i64_in _ ⟨by omega, by omega⟩)) rfl rfl rfl ?_
        refine RunL.val (Val.pure rfl) rfl rfl rfl ?_
        refine RunL.nil ?_
        exact RunE.roundX (some (bz151, cz151, rz151)) (by omega) (by rw [er_yes hk (by omega) hc, List.length_append, ← flat_snoc]; exact hz151) rfl (Sub.consE (t := 139) rfl rfl (Sub.cons (t := 1) rfl (Sub.cons (t := 2) rfl (Sub.cons (t := 5) rfl (Sub.cons (t := 6) rfl (Sub.cons (t := 7) rfl (Sub.cons (t := 137) rfl (Sub.cons (t := 138) rfl (Sub.nil _))))))))) (.cons (.there (.there .here)) (by first | rw [er_no hk (by omega)] | (rw [er_yes hk (by omega) hc, List.length_append]; rfl)) (.cons (.there (.there .here)) rfl (.cons (.there (.there .here)) rfl (.cons (.there (.there .here)) rfl (.cons (.there (.there .here)) (by rw [er_yes hk (by omega) hc, ← flat_snoc]) .nil)))))
      · intro c9
        have c9' := c9; clear c9
        try simp only [decide_eq_true_eq, decide_eq_false_iff_not, Bool.not_eq_true', Bool.not_eq_false', Bool.and_eq_true, Bool.or_eq_true, Bool.and_eq_false_iff, Bool.or_eq_false_iff, Int.not_le, Int.not_lt] at c9'
        refine RunC.skip ?_
        refine RunE.block_normal ?_
        refine RunE.next ?_
        refine RunC.region ?_
        refine RunL.val (Val.add rfl rfl (IntWalk.i64_in _ ⟨by omega, by omega⟩)) rfl rfl rfl ?_
        refine RunL.val (Val.pure rfl) rfl rfl rfl ?_
        refine RunL.nil ?_
        exact RunE.roundX x (by omega) (by rw [er_no hk (by omega)]; exact hx1) rfl (Sub.consE (t := 139) rfl rfl (Sub.cons (t := 1) rfl (Sub.cons (t := 2) rfl (Sub.cons (t := 5) rfl (Sub.cons (t := 6) rfl (Sub.cons (t := 7) rfl (Sub.cons (t := 137) rfl (Sub.cons (t := 138) rfl (Sub.nil _))))))))) (.cons (.there .here) (by first | rw [er_no hk (by omega)] | (rw [er_yes hk (by omega) hc, List.length_append]; rfl)) (.cons (.there .here) rfl (.cons (.there .here) rfl (.cons (.there .here) rfl (Pick.skip (Pick.same (by rw [er_no hk (by omega)])))))))
    · intro c8
      have c8' := c8; clear c8
      try simp only [decide_eq_true_eq, decide_eq_false_iff_not, Bool.not_eq_true', Bool.not_eq_false', Bool.and_eq_true, Bool.or_eq_true, Bool.and_eq_false_iff, Bool.or_eq_false_iff, Int.not_le, Int.not_lt] at c8'
      obtain rfl : k = m.cards.length := by omega
      rw [List.take_length] at hx1
      have hsE : MSm (eraseA m n x) := eraseA_sm hsm
      obtain ⟨hXE, hFE⟩ := eraseA_ok (n := n) (x := x) hX
      have eE : CountX (eraseA m n x).pl = ((cntL (esX m).length ((fsX m.pl).eraseIdx n) 0 : Int), 0) := by (unfold CountX cntX; rw [if_pos hXE, hFE]; rfl)
      have y1 : ownV x (m.cards.eraseIdx n).length = .slice (ownQ x) (eraseA m n x).cards.length (ownC x) := ownV_slice hx1
      simp only [List.take_length, y1]
      obtain ⟨ca, hca⟩ : ∃ ca, cntX m.pl = ca := ⟨_, rfl⟩
      obtain ⟨cc, hcc⟩ : ∃ cc, cntL (esX m).length ((fsX m.pl).eraseIdx n) 0 = cc := ⟨_, rfl⟩
      have hcac : 0 < ca → 0 < cc := fun h => hcc ▸ cnt_erase hn2 (by show 0 < cntX m.pl; omega)
      have hcba : cb ≤ ca := by rw [← hca, ← hcb]; exact cnt_mono hFl hFb
      rw [hca] at e1
      rw [hcc] at eE
      refine RunC.exit ?_
      refine RunE.pass_exit ?_
      refine RunE.pass_exit ?_
      refine RunE.block_here ?_
      refine RunE.next ?_
      refine RunC.seq ?_
      refine RunC.region ?_
      refine RunL.val (Val.load_agg rfl (.tail _ (.tail _ (.tail _ (.head _)))) ty_25 rfl) rfl rfl rfl ?_
      refine RunL.callP (isCall_func rfl ent_19) rfl rfl rfl (fun w hm => (by have h9 := counth_calls m hsm w (hM.mono0 hm); rw [e1] at h9; exact h9)) ?_
      iterate 5 refine RunL.val (Val.pure rfl) rfl rfl rfl ?_
      refine RunL.nil ?_
      refine RunE.next ?_
      refine RunC.seq ?_
      refine RunC.region ?_
      refine RunL.val (Val.load_agg rfl (.tail _ (.tail _ (.head _))) ty_25 rfl) rfl rfl rfl ?_
      refine RunL.callP (isCall_func rfl ent_19) rfl rfl rfl (fun w hm => (by have h9 := counth_calls (setA m n y bz49 cz49) hsA w (setA_mok hM hm (hm.at (.tail _ (.head _)))); rw [setA_v, eA] at h9; exact h9)) ?_
      iterate 5 refine RunL.val (Val.pure rfl) rfl rfl rfl ?_
      refine RunL.nil ?_
      refine RunE.next ?_
      refine RunC.seq ?_
      refine RunC.region ?_
      refine RunL.val (Val.load_agg rfl (.head _) ty_25 rfl) rfl rfl rfl ?_
      refine RunL.callP (isCall_func rfl ent_19) rfl rfl rfl (fun w hm => (by have h9 := counth_calls (eraseA m n x) hsE w (eraseA_mok hM hm hx1 (fun b o h => hm.at (.tail _ (.tail _ (.tail _ (.tail _ ((by first | exact List.mem_append_left _ h | exact List.mem_append_right _ (List.mem_append_left _ h))))))))); rw [eE] at h9; exact h9)) ?_
      iterate 5 refine RunL.val (Val.pure rfl) rfl rfl rfl ?_
      refine RunL.nil ?_
      refine RunE.next ?_
      refine RunC.seq ?_
      refine RunC.seq ?_
      refine RunC.region ?_
      iterate 3 refine RunL.val (Val.pure rfl) rfl rfl rfl ?_
      refine RunL.orPart (dj := 171) (dp := 174) 3 rfl (fun g171 => by
        have g171' := g171
        try simp only [decide_eq_true_eq, decide_eq_false_iff_not, Bool.not_eq_true', Bool.not_eq_false', Bool.and_eq_true, Bool.or_eq_true, Bool.and_eq_false_iff, Bool.or_eq_false_iff, Int.not_le, Int.not_lt] at g171'
        iterate 3 refine RunL.val (Val.pure rfl) rfl rfl rfl ?_
        exact RunL.segEnd (Sub.cons rfl (Sub.skip rfl (Sub.skip rfl (Sub.skip rfl (Sub.same rfl (by rw [g171]) (Sub.refl _)))))) (List.Sublist.refl _)
      ) (fun g171 => by
        have g171' := g171
        try simp only [decide_eq_true_eq, decide_eq_false_iff_not, Bool.not_eq_true', Bool.not_eq_false', Bool.and_eq_true, Bool.or_eq_true, Bool.and_eq_false_iff, Bool.or_eq_false_iff, Int.not_le, Int.not_lt] at g171'
        refine RunL.no rfl rfl rfl ?_
        refine RunL.no rfl rfl rfl ?_
        refine RunL.val (Val.pure rfl) rfl rfl rfl ?_
        exact RunL.segEnd (Sub.cons rfl (Sub.skip rfl (Sub.skip rfl (Sub.skip rfl (Sub.same rfl (by rw [g171]) (Sub.refl _)))))) (List.Sublist.refl _)
      ) ?_
      refine RunL.val (Val.pure rfl) rfl rfl rfl ?_
      refine RunL.orPart (dj := 175) (dp := 178) 3 rfl (fun g175 => by
        have g175' := g175
        try simp only [decide_eq_true_eq, decide_eq_false_iff_not, Bool.not_eq_true', Bool.not_eq_false', Bool.and_eq_true, Bool.or_eq_true, Bool.and_eq_false_iff, Bool.or_eq_false_iff, Int.not_le, Int.not_lt] at g175'
        iterate 3 refine RunL.val (Val.pure rfl) rfl rfl rfl ?_
        exact RunL.segEnd (Sub.cons rfl (Sub.skip rfl (Sub.skip rfl (Sub.skip rfl (Sub.same rfl (by rw [g175]) (Sub.refl _)))))) (List.Sublist.refl _)
      ) (fun g175 => by
        have g175' := g175
        try simp only [decide_eq_true_eq, decide_eq_false_iff_not, Bool.not_eq_true', Bool.not_eq_false', Bool.and_eq_true, Bool.or_eq_true, Bool.and_eq_false_iff, Bool.or_eq_false_iff, Int.not_le, Int.not_lt] at g175'
        refine RunL.no rfl rfl rfl ?_
        refine RunL.no rfl rfl rfl ?_
        refine RunL.val (Val.pure rfl) rfl rfl rfl ?_
        exact RunL.segEnd (Sub.cons rfl (Sub.skip rfl (Sub.skip rfl (Sub.skip rfl (Sub.same rfl (by rw [g175]) (Sub.refl _)))))) (List.Sublist.refl _)
      ) ?_
      refine RunL.val (Val.pure rfl) rfl rfl rfl ?_
      refine RunL.orPart (dj := 179) (dp := 183) 4 rfl (fun g179 => by
        have g179' := g179
        try simp only [decide_eq_true_eq, decide_eq_false_iff_not, Bool.not_eq_true', Bool.not_eq_false', Bool.and_eq_true, Bool.or_eq_true, Bool.and_eq_false_iff, Bool.or_eq_false_iff, Int.not_le, Int.not_lt] at g179'
        iterate 4 refine RunL.val (Val.pure rfl) rfl rfl rfl ?_
        exact RunL.segEnd (Sub.cons rfl (Sub.skip rfl (Sub.skip rfl (Sub.skip rfl (Sub.skip rfl (Sub.same rfl (by rw [g179]) (Sub.refl _))))))) (List.Sublist.refl _)
      ) (fun g179 => by
        have g179' := g179
        try simp only [decide_eq_true_eq, decide_eq_false_iff_not, Bool.not_eq_true', Bool.not_eq_false', Bool.and_eq_true, Bool.or_eq_true, Bool.and_eq_false_iff, Bool.or_eq_false_iff, Int.not_le, Int.not_lt] at g179'
        iterate 3 refine RunL.no rfl rfl rfl ?_
        refine RunL.val (Val.pure rfl) rfl rfl rfl ?_
        exact RunL.segEnd (Sub.cons rfl (Sub.skip rfl (Sub.skip rfl (Sub.skip rfl (Sub.skip rfl (Sub.same rfl (by rw [g179]) (Sub.refl _))))))) (List.Sublist.refl _)
      ) ?_
      refine RunL.val (Val.pure rfl) rfl rfl rfl ?_
      refine RunL.orPart (dj := 184) (dp := 191) 7 rfl (fun g184 => by
        have g184' := g184
        try simp only [decide_eq_true_eq, decide_eq_false_iff_not, Bool.not_eq_true', Bool.not_eq_false', Bool.and_eq_true, Bool.or_eq_true, Bool.and_eq_false_iff, Bool.or_eq_false_iff, Int.not_le, Int.not_lt] at g184'
        iterate 3 refine RunL.val (Val.pure rfl) rfl rfl rfl ?_
        refine RunL.andPart (dj := 187) (dp := 190) 3 rfl (fun g187 => by
          have g187' := g187
          try simp only [decide_eq_true_eq, decide_eq_false_iff_not, Bool.not_eq_true', Bool.not_eq_false', Bool.and_eq_true, Bool.or_eq_true, Bool.and_eq_false_iff, Bool.or_eq_false_iff, Int.not_le, Int.not_lt] at g187'
          iterate 3 refine RunL.val (Val.pure rfl) rfl rfl rfl ?_
          exact RunL.segEnd (Sub.cons rfl (Sub.skip rfl (Sub.skip rfl (Sub.skip rfl (Sub.same rfl (by rw [g187]) (Sub.refl _)))))) (List.Sublist.refl _)
        ) (fun g187 => by
          have g187' := g187
          try simp only [decide_eq_true_eq, decide_eq_false_iff_not, Bool.not_eq_true', Bool.not_eq_false', Bool.and_eq_true, Bool.or_eq_true, Bool.and_eq_false_iff, Bool.or_eq_false_iff, Int.not_le, Int.not_lt] at g187'
          refine RunL.no rfl rfl rfl ?_
          refine RunL.no rfl rfl rfl ?_
          refine RunL.val (Val.pure rfl) rfl rfl rfl ?_
          exact RunL.segEnd (Sub.cons rfl (Sub.skip rfl (Sub.skip rfl (Sub.skip rfl (Sub.same rfl (by rw [g187]) (Sub.refl _)))))) (List.Sublist.refl _)
        ) ?_
        refine RunL.val (Val.pure rfl) rfl rfl rfl ?_
        exact RunL.segEnd (Sub.cons rfl (Sub.skip rfl (Sub.skip rfl (Sub.skip rfl (Sub.skip rfl (Sub.skip rfl (Sub.same rfl (by rw [g184]) (Sub.refl _)))))))) (List.Sublist.refl _)
      ) (fun g184 => by
        have g184' := g184
        try simp only [decide_eq_true_eq, decide_eq_false_iff_not, Bool.not_eq_true', Bool.not_eq_false', Bool.and_eq_true, Bool.or_eq_true, Bool.and_eq_false_iff, Bool.or_eq_false_iff, Int.not_le, Int.not_lt] at g184'
        iterate 6 refine RunL.no rfl rfl rfl ?_
        refine RunL.val (Val.pure rfl) rfl rfl rfl ?_
        exact RunL.segEnd (Sub.cons rfl (Sub.skip rfl (Sub.skip rfl (Sub.skip rfl (Sub.skip rfl (Sub.skip rfl (Sub.skip rfl (Sub.skip rfl (Sub.same rfl (by rw [g184]) (Sub.refl _)))))))))) (List.Sublist.refl _)
      ) ?_
      refine RunL.nil ?_
      refine RunE.next ?_
      refine RunC.cond rfl (fun h => absurd h (by simp; omega)) ?_
      intro c10
      clear c10
      refine RunC.skip ?_
      refine RunE.next ?_
      refine RunC.seq ?_
      refine RunC.seq ?_
      refine RunC.region ?_
      refine RunL.val (Val.fieldAddr rfl fld_25_1) rfl rfl rfl ?_
      refine RunL.val (Val.load_one rfl (.tail _ (.tail _ (.tail _ (.head _)))) ty_23 rfl) rfl rfl rfl ?_
      refine RunL.val (Val.len_sl rfl sl_23) rfl rfl rfl ?_
      refine RunL.val (Val.pure rfl) rfl rfl rfl ?_
      refine RunL.nil ?_
      refine RunE.next ?_
      refine RunC.block ?_
      refine RunC.loopK (m.cards.length) (fun k q => (195, .int .i64 (k : Int)) :: q) (fun _ => _) (fun _ => []) (fun _ => True) trivial rfl (Sub.consE (t := 195) rfl rfl (Sub.cons (t := 2) rfl (Sub.cons (t := 5) rfl (Sub.cons (t := 6) rfl (Sub.cons (t := 7) rfl (Sub.cons (t := 194) rfl (Sub.nil _))))))) (.cons .here rfl (.cons .here rfl (.cons .here rfl (.cons .here rfl (Pick.refl _))))) ?_
      intro k kN kI
      clear kI
      refine RunC.seq ?_
      refine RunC.region ?_
      refine RunL.val (Val.pure rfl) rfl rfl rfl ?_
      refine RunL.nil ?_
      refine RunE.next ?_
      refine RunC.seq ?_
      refine RunC.cond rfl ?_ ?_
      · intro c11
        have c11' := c11; clear c11
        try simp only [decide_eq_true_eq, decide_eq_false_iff_not, Bool.not_eq_true', Bool.not_eq_false', Bool.and_eq_true, Bool.or_eq_true, Bool.and_eq_false_iff, Bool.or_eq_false_iff, Int.not_le, Int.not_lt] at c11'
        have hk : k < m.cards.length := by omega
        refine RunC.skip ?_
        refine RunE.next ?_
        refine RunC.seq ?_
        refine RunC.block ?_
        refine RunC.seq ?_
        refine RunC.region ?_
        refine RunL.val (Val.pure rfl) rfl rfl rfl ?_
        refine RunL.val (Val.pure rfl) rfl rfl rfl ?_
        refine RunL.nil ?_
        refine RunE.next ?_
        refine RunC.seq ?_
        refine RunC.region ?_
        refine RunL.val (Val.load_agg rfl (.tail _ (.tail _ (.tail _ (.head _)))) ty_25 rfl) rfl rfl rfl ?_
        refine RunL.callNA [(b6, _), (bz49, _), (b5, _), (b2, _)] _ rfl (isCall_func rfl ent_34) rfl rfl rfl (fun w hm => rEntries_calls m hsm hX w (hM.mono0 hm)) (fun z199 => ?_)
        obtain ⟨x199, hx199⟩ := z199
        dsimp only
        refine RunL.val (Val.len_sl rfl sl_53) rfl rfl rfl ?_
        refine RunL.val (Val.pure rfl) rfl rfl rfl ?_
        refine RunL.nil ?_
        refine RunE.next ?_
        refine RunC.block ?_
        refine RunC.loopK ((esX m).length) (fun j q => (201, .int .i64 (j : Int)) :: q) (fun _ => _) (fun _ => []) (fun _ => True) trivial rfl (Sub.consE (t := 201) rfl rfl (Sub.cons (t := 2) rfl (Sub.cons (t := 5) rfl (Sub.cons (t := 6) rfl (Sub.cons (t := 7) rfl (Sub.cons (t := 21) rfl (Sub.cons (t := 194) rfl (Sub.cons (t := 195) rfl (Sub.cons (t := 200) rfl (Sub.nil _)))))))))) (.cons .here rfl (.cons .here rfl (.cons .here rfl (.cons .here rfl (Pick.refl _))))) ?_
        intro j jN jI
        clear jI
        refine RunC.seq ?_
        refine RunC.region ?_
        refine RunL.val (Val.pure rfl) rfl rfl rfl ?_
        refine RunL.nil ?_
        refine RunE.next ?_
        refine RunC.seq ?_
        refine RunC.cond rfl ?_ ?_
        · intro c12
          have c12' := c12; clear c12
          try simp only [decide_eq_true_eq, decide_eq_false_iff_not, Bool.not_eq_true', Bool.not_eq_false', Bool.and_eq_true, Bool.or_eq_true, Bool.and_eq_false_iff, Bool.or_eq_false_iff, Int.not_le, Int.not_lt] at c12'
          have hj : j < (esX m).length := by omega
          obtain ⟨s0, hs0⟩ : ∃ s0, shareL (esX m).length (fsX m.pl) k j = s0 := ⟨_, rfl⟩
          obtain ⟨u0, hu0⟩ : ∃ u0 : Nat, ShareX (setA m n y bz49 cz49).pl (k : Int) (j : Int) = ((u0 : Int), 0) ∧ u0 ≤ s0 := ⟨_, share_at hXA (by show k < (m.cards.set n y).length; rw [List.length_set]; exact hk) hj, by rw [← hs0]; exact share_mono hFl hFb (by omega) j⟩
          obtain ⟨hu0, hus⟩ := hu0
          refine RunC.skip ?_
          refine RunE.next ?_
          refine RunC.seq ?_
          refine RunC.block ?_
          refine RunC.seq ?_
          refine RunC.region ?_
          refine RunL.val (Val.pure rfl) rfl rfl rfl ?_
          refine RunL.val (Val.pure rfl) rfl rfl rfl ?_
          refine RunL.nil ?_
          refine RunE.next ?_
          refine RunC.seq ?_
          refine RunC.region ?_
          refine RunL.val (Val.load_agg rfl (.tail _ (.tail _ (.tail _ (.head _)))) ty_25 rfl) rfl rfl rfl ?_
          refine RunL.val (Val.pure rfl) rfl rfl rfl ?_
          refine RunL.val (Val.pure rfl) rfl rfl rfl ?_
          refine RunL.callP (isCall_func rfl ent_21) rfl rfl rfl (fun w hm => (by have h9 := shareh_calls m hsm (k : Int) (j : Int) w (hM.mono0 hm); rw [share_at hX hk hj, hs0] at h9; exact h9)) ?_
          iterate 5 refine RunL.val (Val.pure rfl) rfl rfl rfl ?_
          refine RunL.nil ?_
          refine RunE.next ?_
          refine RunC.seq ?_
          refine RunC.region ?_
          refine RunL.val (Val.load_agg rfl (.tail _ (.tail _ (.head _))) ty_25 rfl) rfl rfl rfl ?_
          refine RunL.val (Val.pure rfl) rfl rfl rfl ?_
          refine RunL.val (Val.pure rfl) rfl rfl rfl ?_
          refine RunL.callP (isCall_func rfl ent_21) rfl rfl rfl (fun w hm => (by have h9 := shareh_calls (setA m n y bz49 cz49) hsA (k : Int) (j : Int) w (setA_mok hM hm (hm.at (.tail _ (.head _)))); rw [setA_v, hu0] at h9; exact h9)) ?_
          iterate 5 refine RunL.val (Val.pure rfl) rfl rfl rfl ?_
          refine RunL.nil ?_
          refine RunE.next ?_
          refine RunC.seq ?_
          refine RunC.seq ?_
          refine RunC.region ?_
          iterate 3 refine RunL.val (Val.pure rfl) rfl rfl rfl ?_
          refine RunL.orPart (dj := 220) (dp := 223) 3 rfl (fun g220 => by
            have g220' := g220
            try simp only [decide_eq_true_eq, decide_eq_false_iff_not, Bool.not_eq_true', Bool.not_eq_false', Bool.and_eq_true, Bool.or_eq_true, Bool.and_eq_false_iff, Bool.or_eq_false_iff, Int.not_le, Int.not_lt] at g220'
            iterate 3 refine RunL.val (Val.pure rfl) rfl rfl rfl ?_
            exact RunL.segEnd (Sub.cons rfl (Sub.skip rfl (Sub.skip rfl (Sub.skip rfl (Sub.same rfl (by rw [g220]) (Sub.refl _)))))) (List.Sublist.refl _)
          ) (fun g220 => by
            have g220' := g220
            try simp only [decide_eq_true_eq, decide_eq_false_iff_not, Bool.not_eq_true', Bool.not_eq_false', Bool.and_eq_true, Bool.or_eq_true, Bool.and_eq_false_iff, Bool.or_eq_false_iff, Int.not_le, Int.not_lt] at g220'
            refine RunL.no rfl rfl rfl ?_
            refine RunL.no rfl rfl rfl ?_
            refine RunL.val (Val.pure rfl) rfl rfl rfl ?_
            exact RunL.segEnd (Sub.cons rfl (Sub.skip rfl (Sub.skip rfl (Sub.skip rfl (Sub.same rfl (by rw [g220]) (Sub.refl _)))))) (List.Sublist.refl _)
          ) ?_
          refine RunL.val (Val.pure rfl) rfl rfl rfl ?_
          refine RunL.orPart (dj := 224) (dp := 228) 4 rfl (fun g224 => by
            have g224' := g224
            try simp only [decide_eq_true_eq, decide_eq_false_iff_not, Bool.not_eq_true', Bool.not_eq_false', Bool.and_eq_true, Bool.or_eq_true, Bool.and_eq_false_iff, Bool.or_eq_false_iff, Int.not_le, Int.not_lt] at g224'
            iterate 4 refine RunL.val (Val.pure rfl) rfl rfl rfl ?_
            exact RunL.segEnd (Sub.cons rfl (Sub.skip rfl (Sub.skip rfl (Sub.skip rfl (Sub.skip rfl (Sub.same rfl (by rw [g224]) (Sub.refl _))))))) (List.Sublist.refl _)
          ) (fun g224 => by
            have g224' := g224
            try simp only [decide_eq_true_eq, decide_eq_false_iff_not, Bool.not_eq_true', Bool.not_eq_false', Bool.and_eq_true, Bool.or_eq_true, Bool.and_eq_false_iff, Bool.or_eq_false_iff, Int.not_le, Int.not_lt] at g224'
            iterate 3 refine RunL.no rfl rfl rfl ?_
            refine RunL.val (Val.pure rfl) rfl rfl rfl ?_
            exact RunL.segEnd (Sub.cons rfl (Sub.skip rfl (Sub.skip rfl (Sub.skip rfl (Sub.skip rfl (Sub.same rfl (by rw [g224]) (Sub.refl _))))))) (List.Sublist.refl _)
          ) ?_
          refine RunL.nil ?_
          refine RunE.next ?_
          refine RunC.cond rfl (fun h => absurd h (by simp; omega)) ?_
          intro c13
          clear c13
          refine RunC.skip ?_
          refine RunE.next ?_
          refine RunC.seq ?_
          refine RunC.seq ?_
          refine RunC.region ?_
          iterate 3 refine RunL.val (Val.pure rfl) rfl rfl rfl ?_
          refine RunL.nil ?_
          refine RunE.next ?_
          refine RunC.cond rfl ?_ ?_
          · intro c14
            have c14' := c14; clear c14
            try simp only [decide_eq_true_eq, decide_eq_false_iff_not, Bool.not_eq_true', Bool.not_eq_false', Bool.and_eq_true, Bool.or_eq_true, Bool.and_eq_false_iff, Bool.or_eq_false_iff, Int.not_le, Int.not_lt] at c14'
            refine RunC.exit ?_
            refine RunE.pass_exit ?_
            refine RunE.block_here ?_
            refine RunE.next ?_
            refine RunC.region ?_
            refine RunL.val (Val.add rfl rfl (IntWalk.i64_in _ ⟨by omega, by omega⟩)) rfl rfl rfl ?_
            refine RunL.val (Val.pure rfl) rfl rfl rfl ?_
            refine RunL.nil ?_
            exact RunE.round (by omega) trivial rfl (Sub.consE (t := 201) rfl rfl (Sub.cons (t := 2) rfl (Sub.cons (t := 5) rfl (Sub.cons (t := 6) rfl (Sub.cons (t := 7) rfl (Sub.cons (t := 21) rfl (Sub.cons (t := 194) rfl (Sub.cons (t := 195) rfl (Sub.cons (t := 200) rfl (Sub.nil _)))))))))) (.cons .here rfl (.cons .here rfl (.cons .here rfl (.cons .here rfl (Pick.refl _)))))
          · intro c14
            have c14' := c14; clear c14
            try simp only [decide_eq_true_eq, decide_eq_false_iff_not, Bool.not_eq_true', Bool.not_eq_false', Bool.and_eq_true, Bool.or_eq_true, Bool.and_eq_false_iff, Bool.or_eq_false_iff, Int.not_le, Int.not_lt] at c14'
            refine RunC.skip ?_
            refine RunE.next ?_
            refine RunC.seq ?_
            refine RunC.region ?_
            refine RunL.val (Val.pure rfl) rfl rfl rfl ?_
            refine RunL.val (Val.pure rfl) rfl rfl rfl ?_
            refine RunL.nil ?_
            refine RunE.next ?_
            refine RunC.seq ?_
            refine RunC.seq ?_
            refine RunC.region ?_
            iterate 3 refine RunL.val (Val.pure rfl) rfl rfl rfl ?_
            refine RunL.nil ?_
            refine RunE.next ?_
            refine RunC.cond rfl ?_ ?_
            · intro c15
              have c15' := c15; clear c15
              try simp only [decide_eq_true_eq, decide_eq_false_iff_not, Bool.not_eq_true', Bool.not_eq_false', Bool.and_eq_true, Bool.or_eq_true, Bool.and_eq_false_iff, Bool.or_eq_false_iff, Int.not_le, Int.not_lt] at c15'
              have hkn : k ≠ n := by omega
              obtain ⟨v0, hv0⟩ : ∃ v0, shareL (esX m).length ((fsX m.pl).eraseIdx n) (k - 1) j = v0 := ⟨_, rfl⟩
              have hsv : 0 < s0 → 0 < v0 := fun h => by (rw [← hv0]; exact share_erase hn2 (by omega) hkn (if_pos (by omega)).symm (by rw [hs0]; exact h))
              have hshz : ∀ w, MOk w (eraseA m n x) → Calls Tryd.prog 21 #[(eraseA m n x).v, .int .i64 ((k - 1 : Nat) : Int), .int .i64 (j : Int)] w (Pure (.tuple #[.int .i64 (v0 : Int), .int .i64 0]) w) := fun w hw => by
                have h9 := shareh_calls (eraseA m n x) hsE ((k - 1 : Nat) : Int) (j : Int) w hw
                rw [share_at hXE (by show k - 1 < (m.cards.eraseIdx n).length; rw [List.length_eraseIdx, if_pos hn]; omega) hj, hFE] at h9
                rw [← hv0]
                exact h9
              refine RunC.region ?_
              refine RunL.val (Val.pure rfl) rfl rfl rfl ?_
              refine RunL.val (Val.subN (a := k) (b := 1) (k - 1) rfl rfl (by omega) (i64_inN (by omega))) rfl rfl rfl ?_
              refine RunL.val (Val.pure rfl) rfl rfl rfl ?_
              refine RunL.nil ?_
              refine RunE.next ?_
              refine RunC.seq ?_
              refine RunC.region ?_
              refine RunL.val (Val.load_agg rfl (.head _) ty_25 rfl) rfl rfl rfl ?_
              refine RunL.val (Val.pure rfl) rfl rfl rfl ?_
              refine RunL.val (Val.pure rfl) rfl rfl rfl ?_
              refine RunL.callP (isCall_func rfl ent_21) rfl rfl rfl (fun w hm => hshz w (eraseA_mok hM hm hx1 (fun b o h => hm.at (.tail _ (.tail _ (.tail _ (.tail _ ((by first | exact List.mem_append_right _ (List.mem_append_left _ h) | exact List.mem_append_right _ (List.mem_append_right _ (List.mem_append_left _ h))))))))))) ?_
              iterate 5 refine RunL.val (Val.pure rfl) rfl rfl rfl ?_
              refine RunL.nil ?_
              refine RunE.next ?_
              refine RunC.seq ?_
              refine RunC.region ?_
              iterate 3 refine RunL.val (Val.pure rfl) rfl rfl rfl ?_
              refine RunL.orPart (dj := 247) (dp := 254) 7 rfl (fun g247 => by
                have g247' := g247
                try simp only [decide_eq_true_eq, decide_eq_false_iff_not, Bool.not_eq_true', Bool.not_eq_false', Bool.and_eq_true, Bool.or_eq_true, Bool.and_eq_false_iff, Bool.or_eq_false_iff, Int.not_le, Int.not_lt] at g247'
                iterate 3 refine RunL.val (Val.pure rfl) rfl rfl rfl ?_
                refine RunL.andPart (dj := 250) (dp := 253) 3 rfl (fun g250 => by
                  have g250' := g250
                  try simp only [decide_eq_true_eq, decide_eq_false_iff_not, Bool.not_eq_true', Bool.not_eq_false', Bool.and_eq_true, Bool.or_eq_true, Bool.and_eq_false_iff, Bool.or_eq_false_iff, Int.not_le, Int.not_lt] at g250'
                  iterate 3 refine RunL.val (Val.pure rfl) rfl rfl rfl ?_
                  exact RunL.segEnd (Sub.cons rfl (Sub.skip rfl (Sub.skip rfl (Sub.skip rfl (Sub.same rfl (by rw [g250]) (Sub.refl _)))))) (List.Sublist.refl _)
                ) (fun g250 => by
                  have g250' := g250
                  try simp only [decide_eq_true_eq, decide_eq_false_iff_not, Bool.not_eq_true', Bool.not_eq_false', Bool.and_eq_true, Bool.or_eq_true, Bool.and_eq_false_iff, Bool.or_eq_false_iff, Int.not_le, Int.not_lt] at g250'
                  refine RunL.no rfl rfl rfl ?_
                  refine RunL.no rfl rfl rfl ?_
                  refine RunL.val (Val.pure rfl) rfl rfl rfl ?_
                  exact RunL.segEnd (Sub.cons rfl (Sub.skip rfl (Sub.skip rfl (Sub.skip rfl (Sub.same rfl (by rw [g250]) (Sub.refl _)))))) (List.Sublist.refl _)
                ) ?_
                refine RunL.val (Val.pure rfl) rfl rfl rfl ?_
                exact RunL.segEnd (Sub.cons rfl (Sub.skip rfl (Sub.skip rfl (Sub.skip rfl (Sub.skip rfl (Sub.skip rfl (Sub.same rfl (by rw [g247]) (Sub.refl _)))))))) (List.Sublist.refl _)
              ) (fun g247 => by
                have g247' := g247
                try simp only [decide_eq_true_eq, decide_eq_false_iff_not, Bool.not_eq_true', Bool.not_eq_false', Bool.and_eq_true, Bool.or_eq_true, Bool.and_eq_false_iff, Bool.or_eq_false_iff, Int.not_le, Int.not_lt] at g247'
                iterate 6 refine RunL.no rfl rfl rfl ?_
                refine RunL.val (Val.pure rfl) rfl rfl rfl ?_
                exact RunL.segEnd (Sub.cons rfl (Sub.skip rfl (Sub.skip rfl (Sub.skip rfl (Sub.skip rfl (Sub.skip rfl (Sub.skip rfl (Sub.skip rfl (Sub.same rfl (by rw [g247]) (Sub.refl _)))))))))) (List.Sublist.refl _)
              ) ?_
              refine RunL.nil ?_
              refine RunE.next ?_
              refine RunC.cond rfl (fun h => absurd h (by simp; omega)) ?_
              intro c16
              clear c16
              refine RunC.skip ?_
              refine RunE.block_normal ?_
              refine RunE.next ?_
              refine RunC.region ?_
              refine RunL.val (Val.add rfl rfl (IntWalk.i64_in _ ⟨by omega, by omega⟩)) rfl rfl rfl ?_
              refine RunL.val (Val.pure rfl) rfl rfl rfl ?_
              refine RunL.nil ?_
              exact RunE.round (by omega) trivial rfl (Sub.consE (t := 201) rfl rfl (Sub.cons (t := 2) rfl (Sub.cons (t := 5) rfl (Sub.cons (t := 6) rfl (Sub.cons (t := 7) rfl (Sub.cons (t := 21) rfl (Sub.cons (t := 194) rfl (Sub.cons (t := 195) rfl (Sub.cons (t := 200) rfl (Sub.nil _)))))))))) (.cons .here rfl (.cons .here rfl (.cons .here rfl (.cons .here rfl (Pick.refl _)))))
            · intro c15
              have c15' := c15; clear c15
              try simp only [decide_eq_true_eq, decide_eq_false_iff_not, Bool.not_eq_true', Bool.not_eq_false', Bool.and_eq_true, Bool.or_eq_true, Bool.and_eq_false_iff, Bool.or_eq_false_iff, Int.not_le, Int.not_lt] at c15'
              have hkn : k ≠ n := by omega
              obtain ⟨v0, hv0⟩ : ∃ v0, shareL (esX m).length ((fsX m.pl).eraseIdx n) k j = v0 := ⟨_, rfl⟩
              have hsv : 0 < s0 → 0 < v0 := fun h => by (rw [← hv0]; exact share_erase hn2 (by omega) hkn (if_neg (by omega)).symm (by rw [hs0]; exact h))
              have hshz : ∀ w, MOk w (eraseA m n x) → Calls Tryd.prog 21 #[(eraseA m n x).v, .int .i64 (k : Int), .int .i64 (j : Int)] w (Pure (.tuple #[.int .i64 (v0 : Int), .int .i64 0]) w) := fun w hw => by
                have h9 := shareh_calls (eraseA m n x) hsE (k : Int) (j : Int) w hw
                rw [share_at hXE (by show k < (m.cards.eraseIdx n).length; rw [List.length_eraseIdx, if_pos hn]; omega) hj, hFE] at h9
                rw [← hv0]
                exact h9
              refine RunC.skip ?_
              refine RunE.next ?_
              refine RunC.seq ?_
              refine RunC.region ?_
              refine RunL.val (Val.load_agg rfl (.head _) ty_25 rfl) rfl rfl rfl ?_
              refine RunL.val (Val.pure rfl) rfl rfl rfl ?_
              refine RunL.val (Val.pure rfl) rfl rfl rfl ?_
              refine RunL.callP (isCall_func rfl ent_21) rfl rfl rfl (fun w hm => hshz w (eraseA_mok hM hm hx1 (fun b o h => hm.at (.tail _ (.tail _ (.tail _ (.tail _ ((by first | exact List.mem_append_right _ (List.mem_append_left _ h) | exact List.mem_append_right _ (List.mem_append_right _ (List.mem_append_left _ h))))))))))) ?_
              iterate 5 refine RunL.val (Val.pure rfl) rfl rfl rfl ?_
              refine RunL.nil ?_
              refine RunE.next ?_
              refine RunC.seq ?_
              refine RunC.region ?_
              iterate 3 refine RunL.val (Val.pure rfl) rfl rfl rfl ?_
              refine RunL.orPart (dj := 247) (dp := 254) 7 rfl (fun g247 => by
                have g247' := g247
                try simp only [decide_eq_true_eq, decide_eq_false_iff_not, Bool.not_eq_true', Bool.not_eq_false', Bool.and_eq_true, Bool.or_eq_true, Bool.and_eq_false_iff, Bool.or_eq_false_iff, Int.not_le, Int.not_lt] at g247'
                iterate 3 refine RunL.val (Val.pure rfl) rfl rfl rfl ?_
                refine RunL.andPart (dj := 250) (dp := 253) 3 rfl (fun g250 => by
                  have g250' := g250
                  try simp only [decide_eq_true_eq, decide_eq_false_iff_not, Bool.not_eq_true', Bool.not_eq_false', Bool.and_eq_true, Bool.or_eq_true, Bool.and_eq_false_iff, Bool.or_eq_false_iff, Int.not_le, Int.not_lt] at g250'
                  iterate 3 refine RunL.val (Val.pure rfl) rfl rfl rfl ?_
                  exact RunL.segEnd (Sub.cons rfl (Sub.skip rfl (Sub.skip rfl (Sub.skip rfl (Sub.same rfl (by rw [g250]) (Sub.refl _)))))) (List.Sublist.refl _)
                ) (fun g250 => by
                  have g250' := g250
                  try simp only [decide_eq_true_eq, decide_eq_false_iff_not, Bool.not_eq_true', Bool.not_eq_false', Bool.and_eq_true, Bool.or_eq_true, Bool.and_eq_false_iff, Bool.or_eq_false_iff, Int.not_le, Int.not_lt] at g250'
                  refine RunL.no rfl rfl rfl ?_
                  refine RunL.no rfl rfl rfl ?_
                  refine RunL.val (Val.pure rfl) rfl rfl rfl ?_
                  exact RunL.segEnd (Sub.cons rfl (Sub.skip rfl (Sub.skip rfl (Sub.skip rfl (Sub.same rfl (by rw [g250]) (Sub.refl _)))))) (List.Sublist.refl _)
                ) ?_
                refine RunL.val (Val.pure rfl) rfl rfl rfl ?_
                exact RunL.segEnd (Sub.cons rfl (Sub.skip rfl (Sub.skip rfl (Sub.skip rfl (Sub.skip rfl (Sub.skip rfl (Sub.same rfl (by rw [g247]) (Sub.refl _)))))))) (List.Sublist.refl _)
              ) (fun g247 => by
                have g247' := g247
                try simp only [decide_eq_true_eq, decide_eq_false_iff_not, Bool.not_eq_true', Bool.not_eq_false', Bool.and_eq_true, Bool.or_eq_true, Bool.and_eq_false_iff, Bool.or_eq_false_iff, Int.not_le, Int.not_lt] at g247'
                iterate 6 refine RunL.no rfl rfl rfl ?_
                refine RunL.val (Val.pure rfl) rfl rfl rfl ?_
                exact RunL.segEnd (Sub.cons rfl (Sub.skip rfl (Sub.skip rfl (Sub.skip rfl (Sub.skip rfl (Sub.skip rfl (Sub.skip rfl (Sub.skip rfl (Sub.same rfl (by rw [g247]) (Sub.refl _)))))))))) (List.Sublist.refl _)
              ) ?_
              refine RunL.nil ?_
              refine RunE.next ?_
              refine RunC.cond rfl (fun h => absurd h (by simp; omega)) ?_
              intro c16
              clear c16
              refine RunC.skip ?_
              refine RunE.block_normal ?_
              refine RunE.next ?_
              refine RunC.region ?_
              refine RunL.val (Val.add rfl rfl (IntWalk.i64_in _ ⟨by omega, by omega⟩)) rfl rfl rfl ?_
              refine RunL.val (Val.pure rfl) rfl rfl rfl ?_
              refine RunL.nil ?_
              exact RunE.round (by omega) trivial rfl (Sub.consE (t := 201) rfl rfl (Sub.cons (t := 2) rfl (Sub.cons (t := 5) rfl (Sub.cons (t := 6) rfl (Sub.cons (t := 7) rfl (Sub.cons (t := 21) rfl (Sub.cons (t := 194) rfl (Sub.cons (t := 195) rfl (Sub.cons (t := 200) rfl (Sub.nil _)))))))))) (.cons .here rfl (.cons .here rfl (.cons .here rfl (.cons .here rfl (Pick.refl _)))))
        · intro c12
          have c12' := c12; clear c12
          try simp only [decide_eq_true_eq, decide_eq_false_iff_not, Bool.not_eq_true', Bool.not_eq_false', Bool.and_eq_true, Bool.or_eq_true, Bool.and_eq_false_iff, Bool.or_eq_false_iff, Int.not_le, Int.not_lt] at c12'
          refine RunC.exit ?_
          refine RunE.pass_exit ?_
          refine RunE.pass_exit ?_
          refine RunE.block_here ?_
          refine RunE.block_normal ?_
          refine RunE.next ?_
          refine RunC.region ?_
          refine RunL.val (Val.add rfl rfl (IntWalk.i64_in _ ⟨by omega, by omega⟩)) rfl rfl rfl ?_
          refine RunL.val (Val.pure rfl) rfl rfl rfl ?_
          refine RunL.nil ?_
          exact RunE.round (by omega) trivial rfl (Sub.consE (t := 195) rfl rfl (Sub.cons (t := 2) rfl (Sub.cons (t := 5) rfl (Sub.cons (t := 6) rfl (Sub.cons (t := 7) rfl (Sub.cons (t := 194) rfl (Sub.nil _))))))) (.cons .here rfl (.cons .here rfl (.cons .here rfl (.cons .here rfl (Pick.appR (ownB _ x199 _) (Pick.app .nil (ownB _ x _)))))))
      · intro c11
        have c11' := c11; clear c11
        try simp only [decide_eq_true_eq, decide_eq_false_iff_not, Bool.not_eq_true', Bool.not_eq_false', Bool.and_eq_true, Bool.or_eq_true, Bool.and_eq_false_iff, Bool.or_eq_false_iff, Int.not_le, Int.not_lt] at c11'
        refine RunC.exit ?_
        refine RunE.pass_exit ?_
        refine RunE.pass_exit ?_
        refine RunE.block_here ?_
        refine RunE.next ?_
        refine RunC.seq ?_
        refine RunC.region ?_
        refine RunL.callP (isCall_func rfl ent_13) rfl rfl rfl (fun w hm => hawake_calls w) ?_
        refine RunL.val (Val.pure rfl) rfl rfl rfl ?_
        refine RunL.nil ?_
        refine RunE.next ?_
        refine RunC.ret ?_
        exact RunE.retP (.r1 rfl (.tmp rfl)) (by first | rfl | simp)
theorem hmore_calls (m : MxA) (g : Nat) (hg : g < 256) (W : World) (hM : MOk W m) : Calls Tryd.prog 10 #[m.v, .int .u8 (g : Int)] W (Pure (.bool true) W) := by
  cases hf : farX m.pl with
  | true => exact hmore_far m g W hM hf
  | false =>
    cases hX : mixedX m.pl with
    | false => exact hmore_bad m g W hM hf (.inl hX)
    | true =>
      rcases Nat.eq_zero_or_pos m.cards.length with hc0 | hc0
      · exact hmore_bad m g W hM hf (.inr hc0)
      · exact hmore_ok m g hg W hM hf hX hc0
end Go.Proofs.YtlhdalcipflblaaDoor
