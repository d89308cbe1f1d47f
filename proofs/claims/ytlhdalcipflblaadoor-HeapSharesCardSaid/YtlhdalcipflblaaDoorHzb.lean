/- Walks of the laws of layer 10: HeapTurned. -/
import Derived.Test.YtlhdalcipflblaaDoorHz
import Derived.Test.YtlhdalcipflblaaDoorHx
import Derived.Test.YtlhdalcipflblaaDoorHyI
set_option linter.unusedSimpArgs false
set_option linter.unusedVariables false
namespace Go.Hp
open Go Go.Eng Go.Pw1
theorem rev_snoc {l : List Tn} {k : Nat} (hk : k < l.length) {t : Tn} (ht : l[l.length - 1 - k] = t) : ((l.reverse.take (k + 1)).map Tn.cells).flatten = ((l.reverse.take k).map Tn.cells).flatten ++ t.cells := by
  have hk2 : k < l.reverse.length := by simpa using hk
  rw [List.take_succ_eq_append_getElem hk2, List.map_append, List.flatten_append, List.getElem_reverse, ht]
  simp
def turnA (m : MxA) (x : Eng.Own) : MxA := { m with cards := m.cards.reverse, q2 := ownQ x, b2 := ownK x, o2 := 0, cap2 := ownC x }
theorem turn_pl (m : MxA) (x : Eng.Own) : (turnA m x).pl = m.pl.rev := rfl
theorem turn_sm {m : MxA} (x : Eng.Own) (h : MSm m) : MSm (turnA m x) := ⟨h.bx, by show m.cards.reverse.length ≤ 1000; rw [List.length_reverse]; exact h.cd, h.ti, fun t ht => h.tx t (List.mem_reverse.1 ht)⟩
theorem turn_ok {m : MxA} {x : Eng.Own} {W w : World} {news : Blks} (hM : MOk W m) (hm : Mem W [] news w) (hx : OwnOk 3 x m.cards.length (m.cards.reverse.map Tn.cells).flatten) (h : ∀ b o, (b, o) ∈ ownB 50 x (m.cards.reverse.map Tn.cells).flatten → w.heap[b]? = some o) : MOk w (turnA m x) :=
  ⟨(hM.mono0 hm).bx, (hM.mono0 hm).ti, own_sl (f := Tn.cells) (fun _ => rfl) (by decide) hx h⟩
end Go.Hp
namespace Go.Proofs.YtlhdalcipflblaaDoor
open Go Go.Eng Go.Hp Go.Pw1

theorem sure_any (m : MxA) (hsm : MSm m) (W : World) (hM : MOk W m) : Calls Tryd.prog 25 #[m.v] W
    (News (fun z : IO (SureX m.pl).1 => .tuple #[.slice (ownQ z.1) (SureX m.pl).1.length (ownC z.1), .int .i64 (SureX m.pl).2]) (fun z => ownB 3 z.1 (intsW (SureX m.pl).1).flatten ++ []) W) := by
  by_cases hw : waysE m.pl = 0
  · have h1 := sure_calls m hsm W hM hw
    refine calls_mono h1 ?_
    rintro ed w' ⟨z, rfl, hm⟩
    have e2 : (SureX m.pl).2 = 0 := by unfold SureX; rw [if_pos hw]
    exact ⟨z, by show Ending.returned (.tuple #[ownV z.1 _, .int .i64 0]) = _; rw [ownV_slice z.2, e2], hm⟩
  · have h1 := sure_err m hsm W hM hw
    have e1 : SureX m.pl = ([], waysE m.pl) := by unfold SureX; rw [if_neg hw]
    rw [e1]
    refine calls_mono h1 ?_
    rintro ed w' ⟨rfl, hm⟩
    exact ⟨⟨none, OwnOk.start⟩, rfl, hm⟩
theorem hturn_far (m : MxA) (c e : Int) (W : World) (hM : MOk W m) (hf : farX m.pl = true) : Calls Tryd.prog 11 #[m.v, .int .i64 c, .int .i64 e] W (Pure (.bool true) W) := by
  refine calls_start Tryd.func11 rfl rfl ?_
  refine RunC.seq ?_
  refine RunC.region ?_
  refine RunL.new (New.box rfl) rfl rfl rfl (fun b3 => ?_)
  refine RunL.val (Val.pure rfl) rfl rfl rfl ?_
  refine RunL.nil ?_
  refine RunE.next ?_
  refine RunC.seq ?_
  refine RunC.seq ?_
  refine RunC.region ?_
  refine RunL.val (Val.load_agg rfl (.head _) ty_25 rfl) rfl rfl rfl ?_
  refine RunL.callP (isCall_func rfl ent_12) rfl rfl rfl (fun w hm => far_calls m w (hM.mono0 hm)) ?_
  refine RunL.val (Val.pure rfl) rfl rfl rfl ?_
  refine RunL.sure (dj := 39) true rfl (by simp [hf]) ?_
  iterate 3 refine RunL.no rfl rfl rfl ?_
  refine RunL.val (Val.pure rfl) rfl rfl rfl ?_
  refine RunL.nil ?_
  refine RunE.next ?_
  refine RunC.cond rfl ?_ (fun h => absurd h (by simp))
  intro c0
  clear c0
  refine RunC.seq ?_
  refine RunC.region ?_
  refine RunL.callP (isCall_func rfl ent_13) rfl rfl rfl (fun w hm => hawake_calls w) ?_
  refine RunL.val (Val.pure rfl) rfl rfl rfl ?_
  refine RunL.nil ?_
  refine RunE.next ?_
  refine RunC.ret ?_
  refine RunE.pass_ret ?_
  exact RunE.retP (.r1 rfl (.tmp rfl)) (by first | rfl | simp)
theorem hturn_bad (m : MxA) (c e : Int) (W : World) (hM : MOk W m) (hf : farX m.pl = false) (hX : mixedX m.pl = false) : Calls Tryd.prog 11 #[m.v, .int .i64 c, .int .i64 e] W (Pure (.bool true) W) := by
  have hsm := far_sm hf
  refine calls_start Tryd.func11 rfl rfl ?_
  refine RunC.seq ?_
  refine RunC.region ?_
  refine RunL.new (New.box rfl) rfl rfl rfl (fun b3 => ?_)
  refine RunL.val (Val.pure rfl) rfl rfl rfl ?_
  refine RunL.nil ?_
  refine RunE.next ?_
  refine RunC.seq ?_
  refine RunC.seq ?_
  refine RunC.region ?_
  refine RunL.val (Val.load_agg rfl (.head _) ty_25 rfl) rfl rfl rfl ?_
  refine RunL.callP (isCall_func rfl ent_12) rfl rfl rfl (fun w hm => far_calls m w (hM.mono0 hm)) ?_
  refine RunL.val (Val.pure rfl) rfl rfl rfl ?_
  refine RunL.sure (dj := 39) false rfl (by simp [hf]) ?_
  refine RunL.val (Val.load_agg rfl (.head _) ty_25 rfl) rfl rfl rfl ?_
  refine RunL.callP (isCall_func rfl ent_33) rfl rfl rfl (fun w hm => rMixed_calls m hsm w (hM.mono0 hm)) ?_
  refine RunL.val (Val.pure rfl) rfl rfl rfl ?_
  refine RunL.val (Val.pure rfl) rfl rfl rfl ?_
  refine RunL.nil ?_
  refine RunE.next ?_
  refine RunC.cond rfl ?_ (fun h => absurd h (by simp [hX]))
  intro c0
  clear c0
  refine RunC.seq ?_
  refine RunC.region ?_
  refine RunL.callP (isCall_func rfl ent_13) rfl rfl rfl (fun w hm => hawake_calls w) ?_
  refine RunL.val (Val.pure rfl) rfl rfl rfl ?_
  refine RunL.nil ?_
  refine RunE.next ?_
  refine RunC.ret ?_
  refine RunE.pass_ret ?_
  exact RunE.retP (.r1 rfl (.tmp rfl)) (by first | rfl | simp)
set_option maxHeartbeats 1000000 in
theorem hturn_ok (m : MxA) (c e : Int) (hc : -9223372036854775808 ≤ c ∧ c ≤ 9223372036854775807) (W : World) (hM : MOk W m) (hf : farX m.pl = false) (hX : mixedX m.pl = true) : Calls Tryd.prog 11 #[m.v, .int .i64 c, .int .i64 e] W (Pure (.bool true) W) := by
  have hsm := far_sm hf
  obtain ⟨h4, h8, h12⟩ := mixed_ok hX
  have hfl := fs_len m
  obtain ⟨s, e0, hI, hW⟩ := why_is hX
  obtain ⟨s2, e2, hI2, hW2⟩ := why_is (m := turnA m none) (by rw [turn_pl, mixed_rev]; exact hX)
  have hsl := hI.lt
  have hsl2 := hI2.lt
  rw [turn_pl, fs_rev, List.length_reverse, hfl] at hsl2
  rw [hfl] at hsl
  have hp8 : 2 ^ m.cards.length ≤ 2 ^ 8 := Nat.pow_le_pow_right (by decide) h8
  rw [turn_pl] at hW2
  rw [turn_pl, fs_rev] at hI2
  obtain ⟨he, hpc⟩ := why_rev h12 (fs_lt m) (by omega) hI hI2
  subst he
  obtain ⟨hc1, hc2⟩ := card_rev m.pl hX c hc
  have hc3 := hc2 e
  have hc1 : FitsX m.pl.rev (IntKind.i64.wrap ((m.cards.length : Int) - 1 - c)) = FitsX m.pl c := hc1
  have hc3 : ShareX m.pl.rev (IntKind.i64.wrap ((m.cards.length : Int) - 1 - c)) e = ShareX m.pl c e := hc3
  obtain ⟨hs1, hs2⟩ := Sure_rev m.pl
  have hsl8 : (SureX m.pl).1.length ≤ 8 := by unfold SureX; split; (simp [MxA.pl]; exact h8); simp
  refine calls_start Tryd.func11 rfl rfl ?_
  refine RunC.seq ?_
  refine RunC.region ?_
  refine RunL.new (New.box rfl) rfl rfl rfl (fun b3 => ?_)
  refine RunL.val (Val.pure rfl) rfl rfl rfl ?_
  refine RunL.nil ?_
  refine RunE.next ?_
  refine RunC.seq ?_
  refine RunC.seq ?_
  refine RunC.region ?_
  refine RunL.val (Val.load_agg rfl (.head _) ty_25 rfl) rfl rfl rfl ?_
  refine RunL.callP (isCall_func rfl ent_12) rfl rfl rfl (fun w hm => far_calls m w (hM.mono0 hm)) ?_
  refine RunL.val (Val.pure rfl) rfl rfl rfl ?_
  refine RunL.sure (dj := 39) false rfl (by simp [hf]) ?_
  refine RunL.val (Val.load_agg rfl (.head _) ty_25 rfl) rfl rfl rfl ?_
  refine RunL.callP (isCall_func rfl ent_33) rfl rfl rfl (fun w hm => rMixed_calls m hsm w (hM.mono0 hm)) ?_
  refine RunL.val (Val.pure rfl) rfl rfl rfl ?_
  refine RunL.val (Val.pure rfl) rfl rfl rfl ?_
  refine RunL.nil ?_
  refine RunE.next ?_
  refine RunC.cond rfl (fun h => absurd h (by simp [hX])) ?_
  intro c0
  clear c0
  refine RunC.skip ?_
  refine RunE.next ?_
  refine RunC.seq ?_
  refine RunC.region ?_
  refine RunL.val (Val.fieldAddr rfl fld_25_1) rfl rfl rfl ?_
  refine RunL.val (Val.load_one rfl (.head _) ty_23 rfl) rfl rfl rfl ?_
  refine RunL.val (Val.len_sl rfl sl_23) rfl rfl rfl ?_
  refine RunL.val (Val.pure rfl) rfl rfl rfl ?_
  refine RunL.nil ?_
  refine RunE.next ?_
  refine RunC.seq ?_
  refine RunC.region ?_
  refine RunL.val (Val.load_agg rfl (.head _) ty_25 rfl) rfl rfl rfl ?_
  refine RunL.new (New.alloc zero_25) rfl rfl rfl (fun b8 => ?_)
  refine RunL.sto (Sto.store rfl rfl .here ty_25 rfl rfl) rfl rfl ?_
  refine RunL.nil ?_
  refine RunE.next ?_
  refine RunC.seq ?_
  refine RunC.region ?_
  refine RunL.val (Val.fieldAddr rfl fld_25_1) rfl rfl rfl ?_
  refine RunL.sto (Sto.store rfl rfl .here ty_23 rfl rfl) rfl rfl ?_
  refine RunL.nil ?_
  refine RunE.next ?_
  refine RunC.seq ?_
  refine RunC.seq ?_
  refine RunC.region ?_
  refine RunL.val (Val.fieldAddr rfl fld_25_1) rfl rfl rfl ?_
  refine RunL.val (Val.load_one rfl (.tail _ (.head _)) ty_23 rfl) rfl rfl rfl ?_
  refine RunL.val (Val.len_sl rfl sl_23) rfl rfl rfl ?_
  refine RunL.val (Val.pure rfl) rfl rfl rfl ?_
  refine RunL.nil ?_
  refine RunE.next ?_
  refine RunC.block ?_
  refine RunC.loopX (X := Eng.Own) (n0 := [(b3, _)]) (m.cards.length) (fun k x q => (53, .int .i64 (k : Int)) :: q) (fun _ _ => _) (fun k x => [(b8, .cells [.slice m.q m.bxs.length m.cap, ownV x k].toArray 25 (0, 0))]) (fun k x => ownB 50 x ((m.cards.reverse.take k).map Tn.cells).flatten ++ []) (fun k x => OwnOk 3 x k ((m.cards.reverse.take k).map Tn.cells).flatten) none OwnOk.start rfl (Sub.consE (t := 53) rfl rfl (Sub.cons (t := 1) rfl (Sub.cons (t := 2) rfl (Sub.cons (t := 3) rfl (Sub.cons (t := 7) rfl (Sub.cons (t := 8) rfl (Sub.cons (t := 52) rfl (Sub.nil _)))))))) (.cons .here rfl (.cons .here rfl (Pick.same rfl))) ?_
  intro k x kN kI
  have hx1 := kI
  refine RunC.seq ?_
  refine RunC.region ?_
  refine RunL.val (Val.pure rfl) rfl rfl rfl ?_
  refine RunL.nil ?_
  refine RunE.next ?_
  refine RunC.seq ?_
  refine RunC.cond rfl ?_ ?_
  · intro c1
    have c1' := c1; clear c1
    try simp only [decide_eq_true_eq, decide_eq_false_iff_not, Bool.not_eq_true', Bool.not_eq_false', Bool.and_eq_true, Bool.or_eq_true, Bool.and_eq_false_iff, Bool.or_eq_false_iff, Int.not_le, Int.not_lt] at c1'
    have hk : k < m.cards.length := by omega
    have hk2 : m.cards.length - 1 - k < m.cards.length := by omega
    obtain ⟨t, ht⟩ : ∃ t, m.cards[m.cards.length - 1 - k] = t := ⟨_, rfl⟩
    have hrv := rev_snoc hk ht
    refine RunC.skip ?_
    refine RunE.next ?_
    refine RunC.seq ?_
    refine RunC.block ?_
    refine RunC.seq ?_
    refine RunC.region ?_
    refine RunL.val (Val.pure rfl) rfl rfl rfl ?_
    refine RunL.val (Val.pure rfl) rfl rfl rfl ?_
    refine RunL.nil ?_
    refine RunE.next ?_
    refine RunC.drawX (X := Eng.Own) 11 (n0 := [(b3, _)]) (fun z q => q) (fun z => []) (fun z => [(b8, .cells [.slice m.q m.bxs.length m.cap, ownV z (k + 1)].toArray 25 (0, 0))]) (fun z => ownB 50 z ((m.cards.reverse.take (k + 1)).map Tn.cells).flatten ++ []) (fun z => OwnOk 3 z (k + 1) ((m.cards.reverse.take (k + 1)).map Tn.cells).flatten) fol_ (.cons .here rfl (.cons .here rfl .nil)) (Sub.cons (t := 1) rfl (Sub.cons (t := 2) rfl (Sub.cons (t := 3) rfl (Sub.cons (t := 7) rfl (Sub.cons (t := 8) rfl (Sub.cons (t := 52) rfl (Sub.cons (t := 53) rfl (Sub.nil _)))))))) (.cons (.there .here) rfl .nil) ?_ ?_
    · refine RunA.val (i := 0) rfl (by kernel_rfl) (by kernel_rfl) (Val.fieldAddr rfl fld_25_1) rfl rfl rfl (fun _ _ _ h => h) (.cons .here rfl (.cons .here rfl .nil)) rfl ?_
      refine RunA.val (i := 1) rfl (by kernel_rfl) (by kernel_rfl) (Val.load_one rfl (.head _) ty_23 rfl) rfl rfl rfl (fun _ _ _ h => h) (.cons .here rfl (.cons .here rfl .nil)) rfl ?_
      refine RunA.val (i := 2) rfl (by kernel_rfl) (by kernel_rfl) (Val.fieldAddr rfl fld_25_1) rfl rfl rfl (fun _ _ _ h => h) (.cons .here rfl (.cons .here rfl .nil)) rfl ?_
      refine RunA.val (i := 3) rfl (by kernel_rfl) (by kernel_rfl) (Val.load_one rfl (.tail _ (.head _)) ty_23 rfl) rfl rfl rfl (fun _ _ _ h => h) (.cons .here rfl (.cons .here rfl .nil)) rfl ?_
      refine RunA.val (i := 4) rfl (by kernel_rfl) (by kernel_rfl) (Val.pure rfl) rfl rfl rfl (fun _ _ _ h => h) (.cons .here rfl (.cons .here rfl .nil)) rfl ?_
      refine RunA.val (i := 5) rfl (by kernel_rfl) (by kernel_rfl) (Val.subN (a := m.cards.length) (b := 1) (m.cards.length - 1) rfl rfl (by omega) (i64_inN (by omega))) rfl rfl rfl (fun _ _ _ h => h) (.cons .here rfl (.cons .here rfl .nil)) rfl ?_
      refine RunA.val (i := 6) rfl (by kernel_rfl) (by kernel_rfl) (Val.pure rfl) rfl rfl rfl (fun _ _ _ h => h) (.cons .here rfl (.cons .here rfl .nil)) rfl ?_
      refine RunA.val (i := 7) rfl (by kernel_rfl) (by kernel_rfl) (Val.subN (a := m.cards.length - 1) (b := k) (m.cards.length - 1 - k) rfl rfl (by omega) (i64_inN (by omega))) rfl rfl rfl (fun _ _ _ h => h) (.cons .here rfl (.cons .here rfl .nil)) rfl ?_
      refine RunA.val (i := 8) rfl (by kernel_rfl) (by kernel_rfl) (Val.indexAddr_slp rfl rfl sl_23 (by omega) (by omega) (hM.cd.ptrM hk2)) rfl rfl rfl (fun _ _ _ h => h) (.cons .here rfl (.cons .here rfl .nil)) rfl ?_
      refine RunA.val (i := 9) rfl (by kernel_rfl) (by kernel_rfl) (Val.load_gen rfl (fun w hm => hM.cd.loadX (by decide) hm (by simp) ty_50 hk2 ht)) rfl rfl rfl (fun _ _ _ h => h) (.cons .here rfl (.cons .here rfl .nil)) rfl ?_
      refine RunA.one (i := 10) (by kernel_rfl) (by kernel_rfl) ?_
      refine RunI.new rfl (New.buildSlice (parts := [(0, .tmp 65)]) rfl sl_23 zero_50 rfl rfl rfl rfl) rfl rfl rfl (fun b66 => (RunK.toA (.cons .here rfl (.cons .here rfl (.cons .here rfl .nil))) (.cons (.there .here) rfl (.cons (.there .here) rfl .nil)) rfl ?_))
      refine RunA.toB (by kernel_rfl) ?_
      refine RunB.one (i := 11) (by kernel_rfl) ?_
      refine RunI.append (A := [(b66, _), (b8, _), (b3, _)]) (B := _) (x := x) (ys := t.cells) rfl ap_23 rfl rfl rfl hx1 rfl (fun h => by cases h) (fun w hm => src_blk (hm.at (.head _))) (one_of rfl) (by simp only [maxLen]; omega) (by omega) rfl (fun z67 hz67 => (RunK.toB ?_))
      refine RunB.one (i := 12) (by kernel_rfl) ?_
      refine RunI.val rfl (Val.fieldAddr rfl fld_25_1) rfl rfl rfl (RunK.toB ?_)
      refine RunB.one (i := 13) (by kernel_rfl) ?_
      obtain ⟨bz67, cz67, rz67, rfl, lz671, lz672, lz673⟩ := hz67.has (by omega)
      refine RunI.sto rfl (Sto.store rfl rfl (.there .here) ty_23 rfl rfl) rfl rfl (RunK.toB ?_)
      refine RunB.done (by kernel_rfl) ?_
      exact RunE.joinX (some (bz67, cz67, rz67)) (by rw [hrv]; exact hz67) rfl (Sub.cons (t := 1) rfl (Sub.cons (t := 2) rfl (Sub.cons (t := 3) rfl (Sub.cons (t := 7) rfl (Sub.cons (t := 8) rfl (Sub.cons (t := 52) rfl (Sub.cons (t := 53) rfl (Sub.nil _)))))))) (.cons (.there .here) rfl (.cons (.there .here) rfl (.cons (.there .here) (by rw [hrv]) .nil)))
    · intro z zI
      have hx1 := zI
      refine RunE.block_normal ?_
      refine RunE.next ?_
      refine RunC.region ?_
      refine RunL.val (Val.add rfl rfl (IntWalk.i64_in _ ⟨by omega, by omega⟩)) rfl rfl rfl ?_
      refine RunL.val (Val.pure rfl) rfl rfl rfl ?_
      refine RunL.nil ?_
      exact RunE.roundX z (by omega) hx1 rfl (Sub.consE (t := 53) rfl rfl (Sub.cons (t := 1) rfl (Sub.cons (t := 2) rfl (Sub.cons (t := 3) rfl (Sub.cons (t := 7) rfl (Sub.cons (t := 8) rfl (Sub.cons (t := 52) rfl (Sub.nil _)))))))) (.cons .here rfl (.cons .here rfl (Pick.refl _)))
  · intro c1
    have c1' := c1; clear c1
    try simp only [decide_eq_true_eq, decide_eq_false_iff_not, Bool.not_eq_true', Bool.not_eq_false', Bool.and_eq_true, Bool.or_eq_true, Bool.and_eq_false_iff, Bool.or_eq_false_iff, Int.not_le, Int.not_lt] at c1'
    obtain rfl : k = m.cards.length := by omega
    rw [show m.cards.reverse.take m.cards.length = m.cards.reverse from List.take_of_length_le (by simp)] at hx1
    have hsmx := turn_sm x hsm
    have y1 : ownV x m.cards.length = .slice (ownQ x) (turnA m x).cards.length (ownC x) := by rw [ownV_slice hx1]; simp [turnA]
    simp only [y1, show m.cards.reverse.take m.cards.length = m.cards.reverse from List.take_of_length_le (by simp)]
    refine RunC.exit ?_
    refine RunE.pass_exit ?_
    refine RunE.pass_exit ?_
    refine RunE.block_here ?_
    refine RunE.next ?_
    refine RunC.seq ?_
    refine RunC.region ?_
    refine RunL.val (Val.load_agg rfl (.tail _ (.head _)) ty_25 rfl) rfl rfl rfl ?_
    refine RunL.callP (isCall_func rfl ent_19) rfl rfl rfl (fun w hm => counth_calls m hsm w (hM.mono0 hm)) ?_
    iterate 5 refine RunL.val (Val.pure rfl) rfl rfl rfl ?_
    refine RunL.nil ?_
    refine RunE.next ?_
    refine RunC.seq ?_
    refine RunC.region ?_
    refine RunL.val (Val.load_agg rfl (.head _) ty_25 rfl) rfl rfl rfl ?_
    refine RunL.callP (isCall_func rfl ent_19) rfl rfl rfl (fun w hm => (by have h9 := counth_calls (turnA m x) hsmx w (turn_ok hM hm hx1 (fun b o h => hm.at (.tail _ (.tail _ ((by first | exact List.mem_append_left _ h | exact List.mem_append_right _ (List.mem_append_left _ h))))))); rw [turn_pl, Count_rev] at h9; exact h9)) ?_
    iterate 5 refine RunL.val (Val.pure rfl) rfl rfl rfl ?_
    refine RunL.nil ?_
    refine RunE.next ?_
    refine RunC.seq ?_
    refine RunC.region ?_
    refine RunL.val (Val.load_agg rfl (.tail _ (.head _)) ty_25 rfl) rfl rfl rfl ?_
    refine RunL.callNA [(b8, _), (b3, _)] _ rfl (isCall_func rfl ent_25) rfl rfl rfl (fun w hm => sure_any m hsm w (hM.mono0 hm)) (fun z82 => ?_)
    obtain ⟨x82, hx82⟩ := z82
    dsimp only
    iterate 5 refine RunL.val (Val.pure rfl) rfl rfl rfl ?_
    refine RunL.nil ?_
    refine RunE.next ?_
    refine RunC.seq ?_
    refine RunC.region ?_
    refine RunL.val (Val.load_agg rfl (.head _) ty_25 rfl) rfl rfl rfl ?_
    refine RunL.callNA [(b8, _), (b3, _)] _ rfl (isCall_func rfl ent_25) rfl rfl rfl (fun w hm => sure_any (turnA m x) hsmx w (turn_ok hM hm hx1 (fun b o h => hm.at (.tail _ (.tail _ ((by first | exact List.mem_append_right _ (List.mem_append_left _ h) | exact List.mem_append_right _ (List.mem_append_right _ (List.mem_append_left _ h))))))))) (fun z87 => ?_)
    obtain ⟨x87, hx87⟩ := z87
    dsimp only
    iterate 5 refine RunL.val (Val.pure rfl) rfl rfl rfl ?_
    refine RunL.nil ?_
    refine RunE.next ?_
    refine RunC.seq ?_
    refine RunC.region ?_
    refine RunL.val (Val.load_agg rfl (.tail _ (.head _)) ty_25 rfl) rfl rfl rfl ?_
    refine RunL.callP (isCall_func rfl ent_27) rfl rfl rfl (fun w hm => lost_calls m hsm w (hM.mono0 hm)) ?_
    iterate 7 refine RunL.val (Val.pure rfl) rfl rfl rfl ?_
    refine RunL.nil ?_
    refine RunE.next ?_
    refine RunC.seq ?_
    refine RunC.region ?_
    refine RunL.val (Val.load_agg rfl (.head _) ty_25 rfl) rfl rfl rfl ?_
    refine RunL.callP (isCall_func rfl ent_27) rfl rfl rfl (fun w hm => (by have h9 := lost_calls (turnA m x) hsmx w (turn_ok hM hm hx1 (fun b o h => hm.at (.tail _ (.tail _ ((by first | exact List.mem_append_right _ (List.mem_append_right _ (List.mem_append_left _ h)) | exact List.mem_append_right _ (List.mem_append_right _ (List.mem_append_right _ (List.mem_append_left _ h))))))))); rw [turn_pl, Lost_rev] at h9; exact h9)) ?_
    iterate 7 refine RunL.val (Val.pure rfl) rfl rfl rfl ?_
    refine RunL.nil ?_
    refine RunE.next ?_
    refine RunC.seq ?_
    refine RunC.region ?_
    refine RunL.val (Val.load_agg rfl (.tail _ (.head _)) ty_25 rfl) rfl rfl rfl ?_
    refine RunL.callP (isCall_func rfl ent_16) rfl rfl rfl (fun w hm => (by have h9 := why_calls m hsm w (hM.mono0 hm); rw [hW] at h9; exact h9)) ?_
    iterate 5 refine RunL.val (Val.pure rfl) rfl rfl rfl ?_
    refine RunL.nil ?_
    refine RunE.next ?_
    refine RunC.seq ?_
    refine RunC.region ?_
    refine RunL.val (Val.load_agg rfl (.head _) ty_25 rfl) rfl rfl rfl ?_
    refine RunL.callP (isCall_func rfl ent_16) rfl rfl rfl (fun w hm => (by have h9 := why_calls (turnA m x) hsmx w (turn_ok hM hm hx1 (fun b o h => hm.at (.tail _ (.tail _ ((by first | exact List.mem_append_right _ (List.mem_append_right _ (List.mem_append_left _ h)) | exact List.mem_append_right _ (List.mem_append_right _ (List.mem_append_right _ (List.mem_append_left _ h))))))))); rw [turn_pl, hW2] at h9; exact h9)) ?_
    iterate 5 refine RunL.val (Val.pure rfl) rfl rfl rfl ?_
    refine RunL.nil ?_
    refine RunE.next ?_
    refine RunC.seq ?_
    refine RunC.seq ?_
    refine RunC.region ?_
    iterate 4 refine RunL.val (Val.pure rfl) rfl rfl rfl ?_
    refine RunL.sure (dj := 115) false rfl (by simp) ?_
    iterate 5 refine RunL.val (Val.pure rfl) rfl rfl rfl ?_
    refine RunL.sure (dj := 120) false rfl (by simp) ?_
    iterate 5 refine RunL.val (Val.pure rfl) rfl rfl rfl ?_
    refine RunL.sure (dj := 125) false rfl (by simp [turn_pl, hs1]) ?_
    refine RunL.val (Val.pure rfl) rfl rfl rfl ?_
    refine RunL.val (Val.len_sl rfl sl_34) rfl rfl rfl ?_
    refine RunL.val (Val.pure rfl) rfl rfl rfl ?_
    refine RunL.val (Val.len_sl rfl sl_34) rfl rfl rfl ?_
    iterate 3 refine RunL.val (Val.pure rfl) rfl rfl rfl ?_
    refine RunL.sure (dj := 132) false rfl (by simp [turn_pl, hs2]) ?_
    iterate 5 refine RunL.val (Val.pure rfl) rfl rfl rfl ?_
    refine RunL.sure (dj := 137) false rfl (by simp) ?_
    iterate 5 refine RunL.val (Val.pure rfl) rfl rfl rfl ?_
    refine RunL.sure (dj := 142) false rfl (by simp) ?_
    iterate 5 refine RunL.val (Val.pure rfl) rfl rfl rfl ?_
    refine RunL.sure (dj := 147) false rfl (by simp) ?_
    iterate 5 refine RunL.val (Val.pure rfl) rfl rfl rfl ?_
    refine RunL.sure (dj := 152) false rfl (by simp) ?_
    refine RunL.val (Val.pure rfl) rfl rfl rfl ?_
    refine RunL.val (Val.max rfl rfl) rfl rfl rfl ?_
    refine RunL.callP (isCall_func rfl ent_36) rfl rfl rfl (fun w hm => (by have h9 := rSize_calls s (by omega) w; rw [show (max (0 : Int) ((s : Nat) : Int)) = ((s : Nat) : Int) by omega]; exact h9)) ?_
    refine RunL.val (Val.pure rfl) rfl rfl rfl ?_
    refine RunL.val (Val.max rfl rfl) rfl rfl rfl ?_
    refine RunL.callP (isCall_func rfl ent_36) rfl rfl rfl (fun w hm => (by have h9 := rSize_calls s2 (by omega) w; rw [show (max (0 : Int) ((s2 : Nat) : Int)) = ((s2 : Nat) : Int) by omega]; exact h9)) ?_
    refine RunL.val (Val.pure rfl) rfl rfl rfl ?_
    refine RunL.val (Val.pure rfl) rfl rfl rfl ?_
    refine RunL.nil ?_
    refine RunE.next ?_
    refine RunC.cond rfl (fun h => absurd h (by simp [hpc])) ?_
    intro c2
    clear c2
    refine RunC.skip ?_
    refine RunE.next ?_
    refine RunC.seq ?_
    refine RunC.seq ?_
    refine RunC.region ?_
    refine RunL.val (Val.pure rfl) rfl rfl rfl ?_
    refine RunL.val (Val.len_sl rfl sl_34) rfl rfl rfl ?_
    refine RunL.val (Val.pure rfl) rfl rfl rfl ?_
    refine RunL.nil ?_
    refine RunE.next ?_
    refine RunC.block ?_
    refine RunC.loopK ((SureX m.pl).1.length) (fun j q => (163, .int .i64 (j : Int)) :: q) (fun _ => _) (fun _ => []) (fun _ => True) trivial rfl (Sub.consE (t := 163) rfl rfl (Sub.cons (t := 1) rfl (Sub.cons (t := 2) rfl (Sub.cons (t := 3) rfl (Sub.cons (t := 7) rfl (Sub.cons (t := 8) rfl (Sub.cons (t := 14) rfl (Sub.cons (t := 16) rfl (Sub.cons (t := 162) rfl (Sub.nil _)))))))))) (.cons .here rfl (.cons .here rfl (Pick.refl _))) ?_
    intro j jN jI
    clear jI
    refine RunC.seq ?_
    refine RunC.region ?_
    refine RunL.val (Val.pure rfl) rfl rfl rfl ?_
    refine RunL.nil ?_
    refine RunE.next ?_
    refine RunC.seq ?_
    refine RunC.cond rfl ?_ ?_
    · intro c3
      have c3' := c3; clear c3
      try simp only [decide_eq_true_eq, decide_eq_false_iff_not, Bool.not_eq_true', Bool.not_eq_false', Bool.and_eq_true, Bool.or_eq_true, Bool.and_eq_false_iff, Bool.or_eq_false_iff, Int.not_le, Int.not_lt] at c3'
      have hj : j < (SureX m.pl).1.length := by omega
      have hj2 : (SureX m.pl).1.length - 1 - j < (SureX m.pl.rev).1.length := by omega
      obtain ⟨y, hy⟩ : ∃ y, (SureX m.pl).1[j] = y := ⟨_, rfl⟩
      obtain ⟨y2, hy2⟩ : ∃ y2, (SureX m.pl.rev).1[(SureX m.pl).1.length - 1 - j] = y2 := ⟨_, rfl⟩
      have hxy := Sure_at m.pl hj hj2 hy hy2
      refine RunC.skip ?_
      refine RunE.next ?_
      refine RunC.seq ?_
      refine RunC.block ?_
      refine RunC.seq ?_
      refine RunC.region ?_
      refine RunL.val (Val.pure rfl) rfl rfl rfl ?_
      refine RunL.val (Val.pure rfl) rfl rfl rfl ?_
      refine RunL.nil ?_
      refine RunE.next ?_
      refine RunC.seq ?_
      obtain ⟨bx87, cx87, rx87, rfl, lx871, lx872, lx873⟩ := hx87.has (by rw [turn_pl]; omega)
      obtain ⟨bx82, cx82, rx82, rfl, lx821, lx822, lx823⟩ := hx82.has (by omega)
      refine RunC.draw 12 fol_ (.cons .here rfl (.cons .here rfl (.cons .here rfl (.cons .here rfl .nil)))) ?_
      refine RunA.val (i := 0) rfl (by kernel_rfl) (by kernel_rfl) (Val.pure rfl) rfl rfl rfl (fun _ _ _ h => h) (.cons .here rfl (.cons .here rfl (.cons .here rfl (.cons .here rfl .nil)))) rfl ?_
      refine RunA.val (i := 1) rfl (by kernel_rfl) (by kernel_rfl) (Val.pure rfl) rfl rfl rfl (fun _ _ _ h => h) (.cons .here rfl (.cons .here rfl (.cons .here rfl (.cons .here rfl .nil)))) rfl ?_
      refine RunA.val (i := 2) rfl (by kernel_rfl) (by kernel_rfl) (Val.indexAddr_slp rfl rfl sl_34 (by omega) (by omega) rfl) rfl rfl rfl (fun _ _ _ h => h) (.cons .here rfl (.cons .here rfl (.cons .here rfl (.cons .here rfl .nil)))) rfl ?_
      refine RunA.val (i := 3) rfl (by kernel_rfl) (by kernel_rfl) (Val.load_gen rfl (fun w hm => (Sl.rowsR (xs := intsW (SureX m.pl).1) (t := rx82) (hm.at (.tail _ (.tail _ (.tail _ (.head _))))) (ints_row _)).loadM1 (by decide) (Mem.refl w) (by simp) ty_3 hj (v := .int .i64 y) (by simp [hy]))) rfl rfl rfl (fun _ _ _ h => h) (.cons .here rfl (.cons .here rfl (.cons .here rfl (.cons .here rfl .nil)))) rfl ?_
      refine RunA.val (i := 4) rfl (by kernel_rfl) (by kernel_rfl) (Val.pure rfl) rfl rfl rfl (fun _ _ _ h => h) (.cons .here rfl (.cons .here rfl (.cons .here rfl (.cons .here rfl .nil)))) rfl ?_
      refine RunA.val (i := 5) rfl (by kernel_rfl) (by kernel_rfl) (Val.pure rfl) rfl rfl rfl (fun _ _ _ h => h) (.cons .here rfl (.cons .here rfl (.cons .here rfl (.cons .here rfl .nil)))) rfl ?_
      refine RunA.val (i := 6) rfl (by kernel_rfl) (by kernel_rfl) (Val.len_sl rfl sl_34) rfl rfl rfl (fun _ _ _ h => h) (.cons .here rfl (.cons .here rfl (.cons .here rfl (.cons .here rfl .nil)))) rfl ?_
      refine RunA.val (i := 7) rfl (by kernel_rfl) (by kernel_rfl) (Val.subN (a := (SureX m.pl).1.length) (b := 1) ((SureX m.pl).1.length - 1) rfl rfl (by omega) (i64_inN (by omega))) rfl rfl rfl (fun _ _ _ h => h) (.cons .here rfl (.cons .here rfl (.cons .here rfl (.cons .here rfl .nil)))) rfl ?_
      refine RunA.val (i := 8) rfl (by kernel_rfl) (by kernel_rfl) (Val.pure rfl) rfl rfl rfl (fun _ _ _ h => h) (.cons .here rfl (.cons .here rfl (.cons .here rfl (.cons .here rfl .nil)))) rfl ?_
      refine RunA.val (i := 9) rfl (by kernel_rfl) (by kernel_rfl) (Val.subN (a := (SureX m.pl).1.length - 1) (b := j) ((SureX m.pl).1.length - 1 - j) rfl rfl (by omega) (i64_inN (by omega))) rfl rfl rfl (fun _ _ _ h => h) (.cons .here rfl (.cons .here rfl (.cons .here rfl (.cons .here rfl .nil)))) rfl ?_
      refine RunA.val (i := 10) rfl (by kernel_rfl) (by kernel_rfl) (Val.indexAddr_slp rfl rfl sl_34 (by omega) (by rw [turn_pl]; omega) rfl) rfl rfl rfl (fun _ _ _ h => h) (.cons .here rfl (.cons .here rfl (.cons .here rfl (.cons .here rfl .nil)))) rfl ?_
      refine RunA.val (i := 11) rfl (by kernel_rfl) (by kernel_rfl) (Val.load_gen rfl (fun w hm => (Sl.rowsR (xs := intsW (SureX (turnA m x).pl).1) (t := rx87) (hm.at (.tail _ (.tail _ (.head _)))) (ints_row _)).loadM1 (by decide) (Mem.refl w) (by simp) ty_3 (by rw [turn_pl]; exact hj2) (v := .int .i64 y2) (by simp [turn_pl, hy2]))) rfl rfl rfl (fun _ _ _ h => h) (.cons .here rfl (.cons .here rfl (.cons .here rfl (.cons .here rfl .nil)))) rfl ?_
      refine RunA.toB (by kernel_rfl) ?_
      refine RunB.one (i := 12) (by kernel_rfl) ?_
      refine RunI.val rfl (Val.pure rfl) rfl rfl rfl (RunK.toB ?_)
      refine RunB.done (by kernel_rfl) ?_
      refine RunE.next ?_
      refine RunC.cond rfl (fun h => absurd h (by simp [hxy])) ?_
      intro c4
      clear c4
      refine RunC.skip ?_
      refine RunE.block_normal ?_
      refine RunE.next ?_
      refine RunC.region ?_
      refine RunL.val (Val.add rfl rfl (IntWalk.i64_in _ ⟨by omega, by omega⟩)) rfl rfl rfl ?_
      refine RunL.val (Val.pure rfl) rfl rfl rfl ?_
      refine RunL.nil ?_
      exact RunE.round (by omega) trivial rfl (Sub.consE (t := 163) rfl rfl (Sub.cons (t := 1) rfl (Sub.cons (t := 2) rfl (Sub.cons (t := 3) rfl (Sub.cons (t := 7) rfl (Sub.cons (t := 8) rfl (Sub.cons (t := 14) rfl (Sub.cons (t := 16) rfl (Sub.cons (t := 162) rfl (Sub.nil _)))))))))) (.cons .here rfl (.cons .here rfl (.cons .here rfl (.cons .here rfl (Pick.refl _)))))
    · intro c3
      have c3' := c3; clear c3
      try simp only [decide_eq_true_eq, decide_eq_false_iff_not, Bool.not_eq_true', Bool.not_eq_false', Bool.and_eq_true, Bool.or_eq_true, Bool.and_eq_false_iff, Bool.or_eq_false_iff, Int.not_le, Int.not_lt] at c3'
      refine RunC.exit ?_
      refine RunE.pass_exit ?_
      refine RunE.pass_exit ?_
      refine RunE.block_here ?_
      refine RunE.next ?_
      refine RunC.seq ?_
      refine RunC.region ?_
      refine RunL.val (Val.load_agg rfl (.tail _ (.head _)) ty_25 rfl) rfl rfl rfl ?_
      refine RunL.val (Val.pure rfl) rfl rfl rfl ?_
      refine RunL.callP (isCall_func rfl ent_14) rfl rfl rfl (fun w hm => fits_calls m hsm c w (hM.mono0 hm)) ?_
      iterate 5 refine RunL.val (Val.pure rfl) rfl rfl rfl ?_
      refine RunL.nil ?_
      refine RunE.next ?_
      refine RunC.seq ?_
      refine RunC.region ?_
      refine RunL.val (Val.load_agg rfl (.head _) ty_25 rfl) rfl rfl rfl ?_
      refine RunL.val (Val.pure rfl) rfl rfl rfl ?_
      refine RunL.val (Val.sub' rfl rfl (IntWalk.i64_in _ ⟨by omega, by omega⟩)) rfl rfl rfl ?_
      refine RunL.val (Val.pure rfl) rfl rfl rfl ?_
      refine RunL.val (Val.sub_wrap rfl rfl) rfl rfl rfl ?_
      refine RunL.callP (isCall_func rfl ent_14) rfl rfl rfl (fun w hm => (by have h9 := fits_calls (turnA m x) hsmx (IntKind.i64.wrap ((m.cards.length : Int) - 1 - c)) w (turn_ok hM hm hx1 (fun b o h => hm.at (.tail _ (.tail _ ((by first | exact List.mem_append_right _ (List.mem_append_right _ (List.mem_append_left _ h)) | exact List.mem_append_right _ (List.mem_append_right _ (List.mem_append_right _ (List.mem_append_left _ h))))))))); rw [turn_pl, hc1] at h9; exact h9)) ?_
      iterate 5 refine RunL.val (Val.pure rfl) rfl rfl rfl ?_
      refine RunL.nil ?_
      refine RunE.next ?_
      refine RunC.seq ?_
      refine RunC.region ?_
      refine RunL.val (Val.load_agg rfl (.tail _ (.head _)) ty_25 rfl) rfl rfl rfl ?_
      refine RunL.val (Val.pure rfl) rfl rfl rfl ?_
      refine RunL.val (Val.pure rfl) rfl rfl rfl ?_
      refine RunL.callP (isCall_func rfl ent_21) rfl rfl rfl (fun w hm => shareh_calls m hsm c e w (hM.mono0 hm)) ?_
      iterate 5 refine RunL.val (Val.pure rfl) rfl rfl rfl ?_
      refine RunL.nil ?_
      refine RunE.next ?_
      refine RunC.seq ?_
      refine RunC.region ?_
      refine RunL.val (Val.load_agg rfl (.head _) ty_25 rfl) rfl rfl rfl ?_
      refine RunL.val (Val.pure rfl) rfl rfl rfl ?_
      refine RunL.val (Val.sub' rfl rfl (IntWalk.i64_in _ ⟨by omega, by omega⟩)) rfl rfl rfl ?_
      refine RunL.val (Val.pure rfl) rfl rfl rfl ?_
      refine RunL.val (Val.sub_wrap rfl rfl) rfl rfl rfl ?_
      refine RunL.val (Val.pure rfl) rfl rfl rfl ?_
      refine RunL.callP (isCall_func rfl ent_21) rfl rfl rfl (fun w hm => (by have h9 := shareh_calls (turnA m x) hsmx (IntKind.i64.wrap ((m.cards.length : Int) - 1 - c)) e w (turn_ok hM hm hx1 (fun b o h => hm.at (.tail _ (.tail _ ((by first | exact List.mem_append_right _ (List.mem_append_right _ (List.mem_append_left _ h)) | exact List.mem_append_right _ (List.mem_append_right _ (List.mem_append_right _ (List.mem_append_left _ h))))))))); rw [turn_pl, hc3] at h9; exact h9)) ?_
      iterate 5 refine RunL.val (Val.pure rfl) rfl rfl rfl ?_
      refine RunL.nil ?_
      refine RunE.next ?_
      refine RunC.seq ?_
      refine RunC.region ?_
      iterate 4 refine RunL.val (Val.pure rfl) rfl rfl rfl ?_
      refine RunL.sure (dj := 215) true rfl (by simp) ?_
      iterate 5 refine RunL.val (Val.pure rfl) rfl rfl rfl ?_
      refine RunL.sure (dj := 220) true rfl (by simp) ?_
      iterate 5 refine RunL.val (Val.pure rfl) rfl rfl rfl ?_
      refine RunL.sure (dj := 225) true rfl (by simp) ?_
      iterate 5 refine RunL.val (Val.pure rfl) rfl rfl rfl ?_
      refine RunL.sure (dj := 230) true rfl (by simp) ?_
      refine RunL.callP (isCall_func rfl ent_13) rfl rfl rfl (fun w hm => hawake_calls w) ?_
      refine RunL.val (Val.pure rfl) rfl rfl rfl ?_
      refine RunL.val (Val.pure rfl) rfl rfl rfl ?_
      refine RunL.nil ?_
      refine RunE.next ?_
      refine RunC.ret ?_
      exact RunE.retP (.r1 rfl (.tmp rfl)) (by first | rfl | simp)
theorem hturn_calls (m : MxA) (c e : Int) (hc : -9223372036854775808 ≤ c ∧ c ≤ 9223372036854775807) (W : World) (hM : MOk W m) : Calls Tryd.prog 11 #[m.v, .int .i64 c, .int .i64 e] W (Pure (.bool true) W) := by
  cases hf : farX m.pl with
  | true => exact hturn_far m c e W hM hf
  | false =>
    cases hX : mixedX m.pl with
    | false => exact hturn_bad m c e W hM hf hX
    | true => exact hturn_ok m c e hc W hM hf hX
end Go.Proofs.YtlhdalcipflblaaDoor
