/- Walks of package mount: Hurts, two things too far apart, eyes and rooms. -/
import Derived.Test.YthoheicppmbepaaGreatMd
set_option linter.unusedSimpArgs false
set_option linter.unusedVariables false
namespace Go.Proofs.YthoheicppmbepaaGreat
open Go Go.Eng Go.Pw1

theorem openOk {c : Cd} {l : List Tr} (h : openM c l = 0) : c.Ok ∧ c.p.Ok := by
  obtain ⟨h1, h2, h3⟩ := openM_ok h
  have hp : isPair c.p = true := by
    cases hi : isPair c.p with
    | true => rfl
    | false => rw [power_err, hi] at h3; simp at h3
  exact ⟨(cardIs_ok h1).1, isPair_ok hp⟩
theorem openOne {c : Cd} {t : Tr} (h : openM c [t] = 0) : t.Ok c.cuts ∧ t.ll + t.lr = t.rl + t.rr := by
  obtain ⟨h1, h2, h3⟩ := openM_ok h
  exact trIs_ok (by simpa using h2)
theorem Hurts_calls (c : Cd) (t : Tr) (q : Option Addr) (b o cap : Nat) (W : World) (hS : Sl W q b o 9 (c.p.things.map Th.cells)) (hl : c.p.things.length ≤ 100000000000) :
    Calls Tryz.prog 8 #[c.v q cap, t.v] W (Pure (.tuple #[.int .i64 (hurtsX c t).1, .int .i64 (hurtsX c t).2.1, .int .i64 (hurtsX c t).2.2]) W) := by
  by_cases h0 : openM c [t] = 0
  · obtain ⟨hc, hpk⟩ := openOk h0
    obtain ⟨ht, _⟩ := openOne h0
    refine calls_start Tryz.func8 rfl rfl ?_
    refine RunC.seq ?_
    refine RunC.region ?_
    refine RunL.new (New.box rfl) rfl rfl rfl (fun b2 => ?_)
    refine RunL.new (New.box rfl) rfl rfl rfl (fun b3 => ?_)
    iterate 3 refine RunL.val (Val.pure rfl) rfl rfl rfl ?_
    refine RunL.nil ?_
    refine RunE.next ?_
    refine RunC.seq ?_
    refine RunC.region ?_
    refine RunL.val (Val.load_agg rfl (.tail _ (.head _)) ty_28 rfl) rfl rfl rfl ?_
    refine RunL.val (Val.load_agg rfl (.head _) ty_30 rfl) rfl rfl rfl ?_
    refine RunL.new (New.buildSlice (parts := [(0, .tmp 10)]) rfl sl_96 zero_30 rfl rfl rfl rfl) rfl rfl rfl (fun b11 => ?_)
    refine RunL.callN (isCall_func rfl ent_24) rfl rfl rfl (fun w hm => open_calls3 c [t] h0 q b o cap (some ⟨b11, 0, none⟩) b11 0 1 w (hS.mono (by decide) hm (by simp)) hl (Sl.one (hm.at (.head _)) rfl) (by simp)) (fun b12 => ?_)
    iterate 5 refine RunL.val (Val.pure rfl) rfl rfl rfl ?_
    refine RunL.nil ?_
    refine RunE.next ?_
    refine RunC.seq ?_
    refine RunC.seq ?_
    refine RunC.region ?_
    refine RunL.val (Val.pure rfl) rfl rfl rfl ?_
    refine RunL.val (Val.pure rfl) rfl rfl rfl ?_
    refine RunL.nil ?_
    refine RunE.next ?_
    refine RunC.cond rfl (fun h => absurd h (by decide)) ?_
    intro c0
    clear c0
    refine RunC.skip ?_
    refine RunE.next ?_
    refine RunC.seq ?_
    refine RunC.seq ?_
    refine RunC.region ?_
    refine RunL.val (Val.pure rfl) rfl rfl rfl ?_
    refine RunL.val (Val.load_agg rfl (.tail _ (.tail _ (.tail _ (.head _)))) ty_30 rfl) rfl rfl rfl ?_
    refine RunL.callP (isCall_func rfl ent_28) rfl rfl rfl (fun w hm => edgesOf_calls _ _ _ _ w) ?_
    refine RunL.val (Val.build (parts := [(0, .tmp 19), (1, .tmp 21)]) rfl zero_63 places_63 rfl) rfl rfl rfl ?_
    refine RunL.callP (isCall_func rfl ent_29) rfl rfl rfl (fun w hm => hurt_calls c t ht q b o cap b12.1 b12.2 w ⟨hm.at (.head _), hm.at (.tail _ (.head _)), hS.mono (by decide) hm (by simp), hc, hpk⟩) ?_
    iterate 5 refine RunL.val (Val.pure rfl) rfl rfl rfl ?_
    refine RunL.nil ?_
    refine RunE.next ?_
    refine RunC.seq ?_
    refine RunC.region ?_
    refine RunL.val (Val.pure rfl) rfl rfl rfl ?_
    refine RunL.val (Val.pure rfl) rfl rfl rfl ?_
    refine RunL.nil ?_
    refine RunE.next ?_
    refine RunC.cond rfl ?_ ?_
    · intro c1
      have c1' := c1; clear c1
      try simp only [decide_eq_true_eq, decide_eq_false_iff_not, Bool.not_eq_true', Bool.not_eq_false', Bool.and_eq_true, Bool.or_eq_true, Bool.and_eq_false_iff, Bool.or_eq_false_iff, Int.not_le, Int.not_lt] at c1'
      refine RunC.seq ?_
      refine RunC.region ?_
      iterate 5 refine RunL.val (Val.pure rfl) rfl rfl rfl ?_
      refine RunL.nil ?_
      refine RunE.next ?_
      refine RunC.ret ?_
      refine RunE.pass_ret ?_
      exact RunE.retP (.r3 rfl (.tmp rfl) (.tmp rfl) (.tmp rfl)) (by simp_all [hurtsX])
    · intro c1
      have c1' := c1; clear c1
      try simp only [decide_eq_true_eq, decide_eq_false_iff_not, Bool.not_eq_true', Bool.not_eq_false', Bool.and_eq_true, Bool.or_eq_true, Bool.and_eq_false_iff, Bool.or_eq_false_iff, Int.not_le, Int.not_lt] at c1'
      refine RunC.skip ?_
      refine RunE.next ?_
      refine RunC.seq ?_
      refine RunC.region ?_
      iterate 3 refine RunL.val (Val.pure rfl) rfl rfl rfl ?_
      refine RunL.nil ?_
      refine RunE.next ?_
      refine RunC.ret ?_
      exact RunE.retP (.r3 rfl (.tmp rfl) (.tmp rfl) (.tmp rfl)) (by simp_all [hurtsX])
  · refine calls_start Tryz.func8 rfl rfl ?_
    refine RunC.seq ?_
    refine RunC.region ?_
    refine RunL.new (New.box rfl) rfl rfl rfl (fun b2 => ?_)
    refine RunL.new (New.box rfl) rfl rfl rfl (fun b3 => ?_)
    iterate 3 refine RunL.val (Val.pure rfl) rfl rfl rfl ?_
    refine RunL.nil ?_
    refine RunE.next ?_
    refine RunC.seq ?_
    refine RunC.region ?_
    refine RunL.val (Val.load_agg rfl (.tail _ (.head _)) ty_28 rfl) rfl rfl rfl ?_
    refine RunL.val (Val.load_agg rfl (.head _) ty_30 rfl) rfl rfl rfl ?_
    refine RunL.new (New.buildSlice (parts := [(0, .tmp 10)]) rfl sl_96 zero_30 rfl rfl rfl rfl) rfl rfl rfl (fun b11 => ?_)
    refine RunL.callP (isCall_func rfl ent_24) rfl rfl rfl (fun w hm => open_err_calls c [t] _ rfl h0 q b o cap (some ⟨b11, 0, none⟩) b11 0 1 w (hS.mono (by decide) hm (by simp)) hl (Sl.one (hm.at (.head _)) rfl) (by simp)) ?_
    iterate 5 refine RunL.val (Val.pure rfl) rfl rfl rfl ?_
    refine RunL.nil ?_
    refine RunE.next ?_
    refine RunC.seq ?_
    refine RunC.seq ?_
    refine RunC.region ?_
    refine RunL.val (Val.pure rfl) rfl rfl rfl ?_
    refine RunL.val (Val.pure rfl) rfl rfl rfl ?_
    refine RunL.nil ?_
    refine RunE.next ?_
    refine RunC.cond rfl ?_ (fun h => absurd h (by simp [h0]))
    intro c0
    clear c0
    refine RunC.seq ?_
    refine RunC.region ?_
    iterate 4 refine RunL.val (Val.pure rfl) rfl rfl rfl ?_
    refine RunL.nil ?_
    refine RunE.next ?_
    refine RunC.ret ?_
    refine RunE.pass_ret ?_
    exact RunE.retP (.r3 rfl (.tmp rfl) (.tmp rfl) (.tmp rfl)) (by simp [hurtsX, h0])
/-- The seen things, if there are any: a block. -/
theorem things_some (c : Cd) (hn : 0 < (seenN c.p).length) (q : Option Addr) (b o cap bc bm : Nat) (W : World) (h : CdAt c q b o cap bc bm W) :
    Calls Tryz.prog 62 #[.pointer (some ⟨bc, 0, none⟩)] W (News (β := Nat × Nat × List Value) (fun x => .slice (some ⟨x.1, 0, none⟩) (seenN c.p).length x.2.1) (fun x => [(x.1, .cells (((seenN c.p).map fun n => [Value.int .i64 n]).flatten ++ x.2.2).toArray 3 (0, 0))]) W) := (things_calls c q b o cap bc bm W h).mono fun e w hR => by
  obtain ⟨⟨x, hx⟩, rfl, hm⟩ := hR
  obtain ⟨b1, c1, r1, rfl, _⟩ := hx.has hn
  exact ⟨(b1, c1, r1), rfl, hm⟩
theorem some_sl {l : List Int} {x : Nat} {r : List Value} {w : World} (h : w.heap[x]? = some (.cells ((l.map fun n => [Value.int .i64 n]).flatten ++ r).toArray 3 (0, 0))) : Sl w (some ⟨x, 0, none⟩) x 0 1 (l.map fun n => [Value.int .i64 n]) := Sl.rowsR h (fun y hy => by obtain ⟨a, _, rfl⟩ := List.mem_map.1 hy; rfl)
theorem wide_calls (c : Cd) (most : Int) (q : Option Addr) (b o cap bc bm : Nat) (W : World) (h : CdAt c q b o cap bc bm W) :
    Calls Tryz.prog 52 #[.pointer (some ⟨bc, 0, none⟩), .int .i64 most] W (Pure (wideV (wideM c.p most)) W) := by
  have hv := h.v
  have hM := h.m
  have hl := h.pk.len
  have hsl := seenN_len c.p
  rcases Nat.eq_zero_or_pos (seenN c.p).length with hn | hn
  · refine calls_start Tryz.func52 rfl rfl ?_
    refine RunC.seq ?_
    refine RunC.region ?_
    iterate 3 refine RunL.val (Val.pure rfl) rfl rfl rfl ?_
    refine RunL.nil ?_
    refine RunE.next ?_
    refine RunC.seq ?_
    refine RunC.seq ?_
    refine RunC.region ?_
    refine RunL.val (Val.pure rfl) rfl rfl rfl ?_
    refine RunL.callNT (isCall_func rfl ent_62) rfl rfl rfl (fun w hm => things_calls c q b o cap bc bm w (h.mem hm)) (fun b12 => ?_)
    simp only [hn]
    refine RunL.val (Val.len_sl rfl sl_55) rfl rfl rfl ?_
    refine RunL.val (Val.pure rfl) rfl rfl rfl ?_
    refine RunL.nil ?_
    refine RunE.next ?_
    refine RunC.block ?_
    refine RunC.loopK (0) (fun k q => (14, .int .i64 (k : Int)) :: (13, .int .i64 0) :: q) (fun _ => _) (fun _ => []) (fun _ => True) trivial rfl (Sub.consE (t := 14) rfl rfl (Sub.consE (t := 13) rfl rfl (Sub.nil _))) .nil ?_
    intro k kN kI
    clear kI
    refine RunC.seq ?_
    refine RunC.region ?_
    refine RunL.val (Val.pure rfl) rfl rfl rfl ?_
    refine RunL.nil ?_
    refine RunE.next ?_
    refine RunC.seq ?_
    refine RunC.cond rfl (fun h => absurd h (by simp)) ?_
    intro c0
    clear c0
    refine RunC.exit ?_
    refine RunE.pass_exit ?_
    refine RunE.pass_exit ?_
    refine RunE.block_here ?_
    refine RunE.next ?_
    refine RunC.seq ?_
    refine RunC.region ?_
    iterate 3 refine RunL.val (Val.pure rfl) rfl rfl rfl ?_
    refine RunL.nil ?_
    refine RunE.next ?_
    refine RunC.ret ?_
    exact RunE.retP (.r3 rfl (.tmp rfl) (.tmp rfl) (.tmp rfl)) (by have e : seenN c.p = [] := List.length_eq_zero_iff.1 hn; simp [wideM, wideL, wideV, e])
  · refine calls_start Tryz.func52 rfl rfl ?_
    refine RunC.seq ?_
    refine RunC.region ?_
    iterate 3 refine RunL.val (Val.pure rfl) rfl rfl rfl ?_
    refine RunL.nil ?_
    refine RunE.next ?_
    refine RunC.seq ?_
    refine RunC.seq ?_
    refine RunC.region ?_
    refine RunL.val (Val.pure rfl) rfl rfl rfl ?_
    refine RunL.callN (isCall_func rfl ent_62) rfl rfl rfl (fun w hm => things_some c hn q b o cap bc bm w (h.mem hm)) (fun b12 => ?_)
    refine RunL.val (Val.len_sl rfl sl_55) rfl rfl rfl ?_
    refine RunL.val (Val.pure rfl) rfl rfl rfl ?_
    refine RunL.nil ?_
    refine RunE.next ?_
    refine RunC.block ?_
    refine RunC.loopK ((seenN c.p).length) (fun k q => (14, .int .i64 (k : Int)) :: q) (fun _ => _) (fun _ => []) (fun k => ∀ j (h : j < k) (h2 : j < (seenN c.p).length), wideR c.p most (seenN c.p)[j] (seenN c.p) = none) (fun j h => absurd h (by omega)) rfl (Sub.consE (t := 14) rfl rfl (Sub.cons (t := 0) rfl (Sub.cons (t := 1) rfl (Sub.cons (t := 12) rfl (Sub.cons (t := 13) rfl (Sub.nil _)))))) (.cons .here rfl .nil) ?_
    intro k kN kI
    refine RunC.seq ?_
    refine RunC.region ?_
    refine RunL.val (Val.pure rfl) rfl rfl rfl ?_
    refine RunL.nil ?_
    refine RunE.next ?_
    refine RunC.seq ?_
    refine RunC.cond rfl ?_ ?_
    · intro c0
      have c0' := c0; clear c0
      try simp only [decide_eq_true_eq, decide_eq_false_iff_not, Bool.not_eq_true', Bool.not_eq_false', Bool.and_eq_true, Bool.or_eq_true, Bool.and_eq_false_iff, Bool.or_eq_false_iff, Int.not_le, Int.not_lt] at c0'
      have hk : k < (seenN c.p).length := by omega
      obtain ⟨j, hi, hj, hw⟩ := seenN_in (List.getElem_mem hk)
      have sb1 := shiftX_bd h.pk j
      refine RunC.skip ?_
      refine RunE.next ?_
      refine RunC.seq ?_
      refine RunC.block ?_
      refine RunC.seq ?_
      refine RunC.region ?_
      refine RunL.val (Val.indexAddr_slp rfl rfl sl_55 (by omega) (by omega) rfl) rfl rfl rfl ?_
      refine RunL.val (Val.load_gen rfl (fun w hm => (some_sl (hm.at (.head _))).loadM1 (by decide) (Mem.refl w) (by simp) ty_3 hk (v := .int .i64 (j : Int)) (by rw [hi]; rfl))) rfl rfl rfl ?_
      refine RunL.val (Val.pure rfl) rfl rfl rfl ?_
      refine RunL.nil ?_
      refine RunE.next ?_
      refine RunC.seq ?_
      refine RunC.region ?_
      refine RunL.val (Val.pure rfl) rfl rfl rfl ?_
      refine RunL.callN (isCall_func rfl ent_62) rfl rfl rfl (fun w hm => things_some c hn q b o cap bc bm w (h.mem hm.drop)) (fun b19 => ?_)
      refine RunL.val (Val.len_sl rfl sl_55) rfl rfl rfl ?_
      refine RunL.val (Val.pure rfl) rfl rfl rfl ?_
      refine RunL.nil ?_
      refine RunE.next ?_
      refine RunC.block ?_
      refine RunC.loopK ((seenN c.p).length) (fun m q => (21, .int .i64 (m : Int)) :: q) (fun _ => _) (fun _ => []) (fun m => ∀ j2 (h : j2 < m) (h2 : j2 < (seenN c.p).length), ¬ most < (shiftX c.p (j : Int)).1.2 - (shiftX c.p (seenN c.p)[j2]).1.1) (fun j h => absurd h (by omega)) rfl (Sub.consE (t := 21) rfl rfl (Sub.cons (t := 0) rfl (Sub.cons (t := 1) rfl (Sub.cons (t := 8) rfl (Sub.cons (t := 12) rfl (Sub.cons (t := 13) rfl (Sub.cons (t := 14) rfl (Sub.cons (t := 19) rfl (Sub.cons (t := 20) rfl (Sub.nil _)))))))))) (.cons (.there .here) rfl (.cons .here rfl .nil)) ?_
      intro m mN mI
      refine RunC.seq ?_
      refine RunC.region ?_
      refine RunL.val (Val.pure rfl) rfl rfl rfl ?_
      refine RunL.nil ?_
      refine RunE.next ?_
      refine RunC.seq ?_
      refine RunC.cond rfl ?_ ?_
      · intro c1
        have c1' := c1; clear c1
        try simp only [decide_eq_true_eq, decide_eq_false_iff_not, Bool.not_eq_true', Bool.not_eq_false', Bool.and_eq_true, Bool.or_eq_true, Bool.and_eq_false_iff, Bool.or_eq_false_iff, Int.not_le, Int.not_lt] at c1'
        have hm3 : m < (seenN c.p).length := by omega
        obtain ⟨j3, hi3, hj3, hw3⟩ := seenN_in (List.getElem_mem hm3)
        have sb3 := shiftX_bd h.pk j3
        refine RunC.skip ?_
        refine RunE.next ?_
        refine RunC.seq ?_
        refine RunC.block ?_
        refine RunC.seq ?_
        refine RunC.region ?_
        refine RunL.val (Val.indexAddr_slp rfl rfl sl_55 (by omega) (by omega) rfl) rfl rfl rfl ?_
        refine RunL.val (Val.load_gen rfl (fun w hm => (some_sl (hm.at (.tail _ (.head _)))).loadM1 (by decide) (Mem.refl w) (by simp) ty_3 hm3 (v := .int .i64 (j3 : Int)) (by rw [hi3]; rfl))) rfl rfl rfl ?_
        refine RunL.val (Val.pure rfl) rfl rfl rfl ?_
        refine RunL.nil ?_
        refine RunE.next ?_
        refine RunC.seq ?_
        apply RunC.drawJ (J := J0 _ _ _ _ _ _) 16 fol_ (.cons .here rfl (.cons .here rfl .nil))
        · refine RunA.val (i := 0) rfl (by kernel_rfl) (by kernel_rfl) (Val.pure rfl) rfl rfl rfl (fun _ _ _ h => h) (.cons .here rfl (.cons .here rfl .nil)) rfl ?_
          refine RunA.val (i := 1) rfl (by kernel_rfl) (by kernel_rfl) (Val.pure rfl) rfl rfl rfl (fun _ _ _ h => h) (.cons .here rfl (.cons .here rfl .nil)) rfl ?_
          refine RunA.val (i := 2) rfl (by kernel_rfl) (by kernel_rfl) (Val.fieldAddr rfl fld_53_1) rfl rfl rfl (fun _ _ _ h => h) (.cons .here rfl (.cons .here rfl .nil)) rfl ?_
          refine RunA.val (i := 3) rfl (by kernel_rfl) (by kernel_rfl) (Val.oload_one rfl hv (by simp) ty_51 rfl) rfl rfl rfl (fun _ _ _ h => h) (.cons .here rfl (.cons .here rfl .nil)) rfl ?_
          refine RunA.val (i := 4) rfl (by kernel_rfl) (by kernel_rfl) (Val.pure rfl) rfl rfl rfl (fun _ _ _ h => h) (.cons .here rfl (.cons .here rfl .nil)) rfl ?_
          refine RunA.val (i := 7) rfl (by kernel_rfl) (by kernel_rfl) (Val.pure rfl) rfl rfl rfl (fun _ _ _ h => h) (.cons .here rfl (.cons .here rfl .nil)) rfl ?_
          refine RunA.val (i := 8) rfl (by kernel_rfl) (by kernel_rfl) (Val.pure rfl) rfl rfl rfl (fun _ _ _ h => h) (.cons .here rfl (.cons .here rfl .nil)) rfl ?_
          refine RunA.val (i := 9) rfl (by kernel_rfl) (by kernel_rfl) (Val.fieldAddr rfl fld_53_1) rfl rfl rfl (fun _ _ _ h => h) (.cons .here rfl (.cons .here rfl .nil)) rfl ?_
          refine RunA.val (i := 10) rfl (by kernel_rfl) (by kernel_rfl) (Val.oload_one rfl hv (by simp) ty_51 rfl) rfl rfl rfl (fun _ _ _ h => h) (.cons .here rfl (.cons .here rfl .nil)) rfl ?_
          refine RunA.val (i := 11) rfl (by kernel_rfl) (by kernel_rfl) (Val.pure rfl) rfl rfl rfl (fun _ _ _ h => h) (.cons .here rfl (.cons .here rfl .nil)) rfl ?_
          refine RunA.val (i := 15) rfl (by kernel_rfl) (by kernel_rfl) (Val.pure rfl) rfl rfl rfl (fun _ _ _ h => h) (.cons .here rfl (.cons .here rfl .nil)) rfl ?_
          refine RunA.all (rs := [5, 12]) (by kernel_rfl) (by simp) (by kernel_rfl) (fun m hm => ?_)
          simp only [List.mem_cons, List.not_mem_nil, or_false] at hm
          rcases hm with rfl | rfl
          · refine RunI.val rfl (Val.lookupE rfl rfl (fun w hm => hm.old_at hM (by simp)) mapB_51 zeroV_68 (by rw [mFind_M hj, if_pos hw])) rfl rfl rfl (RunK.toA (.cons .here rfl (.cons .here rfl .nil)) (.cons .here rfl (.cons .here rfl .nil)) rfl ?_)
            refine RunA.val (i := 6) rfl (by kernel_rfl) (by kernel_rfl) (Val.field rfl field1_68_1 rfl) rfl rfl rfl (fun _ _ _ h => h) (.cons .here rfl (.cons .here rfl .nil)) rfl ?_
            refine RunA.one (i := 12) (by kernel_rfl) (by kernel_rfl) ?_
            refine RunI.val rfl (Val.lookupE rfl rfl (fun w hm => hm.old_at hM (by simp)) mapB_51 zeroV_68 (by rw [mFind_M hj3, if_pos hw3])) rfl rfl rfl (RunK.toA (.cons .here rfl (.cons .here rfl .nil)) (.cons .here rfl (.cons .here rfl .nil)) rfl ?_)
            refine RunA.val (i := 13) rfl (by kernel_rfl) (by kernel_rfl) (Val.field rfl field1_68_0 rfl) rfl rfl rfl (fun _ _ _ h => h) (.cons .here rfl (.cons .here rfl .nil)) rfl ?_
            refine RunA.val (i := 14) rfl (by kernel_rfl) (by kernel_rfl) (Val.sub' rfl rfl (IntWalk.i64_in _ ⟨by omega, by omega⟩)) rfl rfl rfl (fun _ _ _ h => h) (.cons .here rfl (.cons .here rfl .nil)) rfl ?_
            refine RunA.toB (by kernel_rfl) ?_
            refine RunB.one (i := 16) (by kernel_rfl) ?_
            refine RunI.val rfl (Val.pure rfl) rfl rfl rfl (RunK.toB ?_)
            refine RunB.done (by kernel_rfl) ?_
            exact RunE.join0  (Sub.refl _) (Pick.refl _)
          · refine RunI.val rfl (Val.lookupE rfl rfl (fun w hm => hm.old_at hM (by simp)) mapB_51 zeroV_68 (by rw [mFind_M hj3, if_pos hw3])) rfl rfl rfl (RunK.toA (.cons .here rfl (.cons .here rfl .nil)) (.cons .here rfl (.cons .here rfl .nil)) rfl ?_)
            refine RunA.val (i := 13) rfl (by kernel_rfl) (by kernel_rfl) (Val.field rfl field1_68_0 rfl) rfl rfl rfl (fun _ _ _ h => h) (.cons .here rfl (.cons .here rfl .nil)) rfl ?_
            refine RunA.one (i := 5) (by kernel_rfl) (by kernel_rfl) ?_
            refine RunI.val rfl (Val.lookupE rfl rfl (fun w hm => hm.old_at hM (by simp)) mapB_51 zeroV_68 (by rw [mFind_M hj, if_pos hw])) rfl rfl rfl (RunK.toA (.cons .here rfl (.cons .here rfl .nil)) (.cons .here rfl (.cons .here rfl .nil)) rfl ?_)
            refine RunA.val (i := 6) rfl (by kernel_rfl) (by kernel_rfl) (Val.field rfl field1_68_1 rfl) rfl rfl rfl (fun _ _ _ h => h) (.cons .here rfl (.cons .here rfl .nil)) rfl ?_
            refine RunA.val (i := 14) rfl (by kernel_rfl) (by kernel_rfl) (Val.sub' rfl rfl (IntWalk.i64_in _ ⟨by omega, by omega⟩)) rfl rfl rfl (fun _ _ _ h => h) (.cons .here rfl (.cons .here rfl .nil)) rfl ?_
            refine RunA.toB (by kernel_rfl) ?_
            refine RunB.one (i := 16) (by kernel_rfl) ?_
            refine RunI.val rfl (Val.pure rfl) rfl rfl rfl (RunK.toB ?_)
            refine RunB.done (by kernel_rfl) ?_
            exact RunE.join0  (Sub.cons (t := 41) rfl (Sub.cons (t := 39) rfl (Sub.cons (t := 38) rfl (Sub.cons (t := 37) rfl (Sub.cons (t := 31) rfl (Sub.cons (t := 30) rfl (Sub.cons (t := 40) rfl (Sub.cons (t := 36) rfl (Sub.cons (t := 35) rfl (Sub.cons (t := 34) rfl (Sub.cons (t := 33) rfl (Sub.cons (t := 32) rfl (Sub.cons (t := 29) rfl (Sub.cons (t := 28) rfl (Sub.cons (t := 27) rfl (Sub.cons (t := 26) rfl (Sub.cons (t := 25) rfl (Sub.skip rfl (Sub.skip rfl (Sub.skip rfl (Sub.skip rfl (Sub.skip rfl (Sub.skip rfl (Sub.skip rfl (Sub.skip rfl (Sub.skip rfl (Sub.skip rfl (Sub.skip rfl (Sub.skip rfl (Sub.skip rfl (Sub.skip rfl (Sub.skip rfl (Sub.skip rfl (Sub.skip rfl (Sub.refl _))))))))))))))))))))))))))))))))))) (.cons .here rfl (.cons .here rfl .nil))
        refine J0.out ?_
        refine RunE.next ?_
        refine RunC.cond rfl ?_ ?_
        · intro c2
          have c2' := c2; clear c2
          try simp only [decide_eq_true_eq, decide_eq_false_iff_not, Bool.not_eq_true', Bool.not_eq_false', Bool.and_eq_true, Bool.or_eq_true, Bool.and_eq_false_iff, Bool.or_eq_false_iff, Int.not_le, Int.not_lt] at c2'
          refine RunC.seq ?_
          refine RunC.region ?_
          iterate 5 refine RunL.val (Val.pure rfl) rfl rfl rfl ?_
          refine RunL.nil ?_
          refine RunE.next ?_
          refine RunC.ret ?_
          refine RunE.block_ret ?_
          refine RunE.pass_ret ?_
          refine RunE.pass_ret ?_
          refine RunE.block_ret ?_
          refine RunE.block_ret ?_
          refine RunE.pass_ret ?_
          refine RunE.pass_ret ?_
          refine RunE.block_ret ?_
          refine RunE.pass_ret ?_
          exact RunE.retP (.r3 rfl (.tmp rfl) (.tmp rfl) (.tmp rfl)) (by have e1 := wideR_hit (p := c.p) (most := most) (i := (j : Int)) hm3 (fun j4 h4 => mI j4 h4 (by omega)) (by rw [hi3]; exact c2'); have e2 := wideL_hit (k0 := (j3 : Int)) (all := seenN c.p) hk (fun j4 h4 => kI j4 h4 (by omega)) (by rw [hi, e1, hi3]); simp [wideM, wideV, e2, hi])
        · intro c2
          have c2' := c2; clear c2
          try simp only [decide_eq_true_eq, decide_eq_false_iff_not, Bool.not_eq_true', Bool.not_eq_false', Bool.and_eq_true, Bool.or_eq_true, Bool.and_eq_false_iff, Bool.or_eq_false_iff, Int.not_le, Int.not_lt] at c2'
          refine RunC.skip ?_
          refine RunE.block_normal ?_
          refine RunE.next ?_
          refine RunC.region ?_
          refine RunL.val (Val.add rfl rfl (IntWalk.i64_in _ ⟨by omega, by omega⟩)) rfl rfl rfl ?_
          refine RunL.val (Val.pure rfl) rfl rfl rfl ?_
          refine RunL.nil ?_
          exact RunE.round (by omega) (fun j2 h2 h3 => by (rcases Nat.lt_or_ge j2 m with h4 | h4; exact mI j2 h4 h3; have e : j2 = m := (by omega); subst e; rw [hi3]; exact Int.not_lt.2 c2')) rfl (Sub.consE (t := 21) rfl rfl (Sub.cons (t := 0) rfl (Sub.cons (t := 1) rfl (Sub.cons (t := 8) rfl (Sub.cons (t := 12) rfl (Sub.cons (t := 13) rfl (Sub.cons (t := 14) rfl (Sub.cons (t := 19) rfl (Sub.cons (t := 20) rfl (Sub.nil _)))))))))) (.cons .here rfl (.cons .here rfl .nil))
      · intro c1
        have c1' := c1; clear c1
        try simp only [decide_eq_true_eq, decide_eq_false_iff_not, Bool.not_eq_true', Bool.not_eq_false', Bool.and_eq_true, Bool.or_eq_true, Bool.and_eq_false_iff, Bool.or_eq_false_iff, Int.not_le, Int.not_lt] at c1'
        obtain rfl : m = (seenN c.p).length := by omega
        have hr : wideR c.p most (j : Int) (seenN c.p) = none := wideR_none (fun i hi4 => by (obtain ⟨j4, hj4, rfl⟩ := List.getElem_of_mem hi4; exact mI j4 hj4 hj4))
        refine RunC.exit ?_
        refine RunE.pass_exit ?_
        refine RunE.pass_exit ?_
        refine RunE.block_here ?_
        refine RunE.block_normal ?_
        refine RunE.next ?_
        refine RunC.region ?_
        refine RunL.val (Val.add rfl rfl (IntWalk.i64_in _ ⟨by omega, by omega⟩)) rfl rfl rfl ?_
        refine RunL.val (Val.pure rfl) rfl rfl rfl ?_
        refine RunL.nil ?_
        exact RunE.round (by omega) (fun j2 h2 h3 => by (rcases Nat.lt_or_ge j2 k with h4 | h4; exact kI j2 h4 h3; have e : j2 = k := (by omega); subst e; rw [hi]; exact hr)) rfl (Sub.consE (t := 14) rfl rfl (Sub.cons (t := 0) rfl (Sub.cons (t := 1) rfl (Sub.cons (t := 12) rfl (Sub.cons (t := 13) rfl (Sub.nil _)))))) (.cons .here rfl .nil)
    · intro c0
      have c0' := c0; clear c0
      try simp only [decide_eq_true_eq, decide_eq_false_iff_not, Bool.not_eq_true', Bool.not_eq_false', Bool.and_eq_true, Bool.or_eq_true, Bool.and_eq_false_iff, Bool.or_eq_false_iff, Int.not_le, Int.not_lt] at c0'
      obtain rfl : k = (seenN c.p).length := by omega
      refine RunC.exit ?_
      refine RunE.pass_exit ?_
      refine RunE.pass_exit ?_
      refine RunE.block_here ?_
      refine RunE.next ?_
      refine RunC.seq ?_
      refine RunC.region ?_
      iterate 3 refine RunL.val (Val.pure rfl) rfl rfl rfl ?_
      refine RunL.nil ?_
      refine RunE.next ?_
      refine RunC.ret ?_
      exact RunE.retP (.r3 rfl (.tmp rfl) (.tmp rfl) (.tmp rfl)) (by have e : wideL c.p most (seenN c.p) (seenN c.p) = none := wideL_none (fun i hi4 => by (obtain ⟨j4, hj4, rfl⟩ := List.getElem_of_mem hi4; exact kI j4 hj4 hj4)); simp [wideM, wideV, e])
end Go.Proofs.YthoheicppmbepaaGreat
