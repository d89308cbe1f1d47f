/- Walk of package years: Stays. -/
import Derived.Test.YtjijeeadmhpfcaaYi
set_option linter.unusedSimpArgs false
set_option linter.unusedVariables false
namespace Go.Proofs.Ytjijeeadmhpfcaa
open Go Go.Eng Go.Pw1

theorem yonly_calls (s : Int × Int) (W : World) : Calls Try.prog 63 #[b2v s, .int .i64 0] W (Pure (.bool (only0 s)) W) := by
  refine calls_start Try.func63 rfl rfl ?_
  refine RunC.seq ?_
  refine RunC.region ?_
  refine RunL.new (New.box rfl) rfl rfl rfl (fun b2 => ?_)
  refine RunL.val (Val.pure rfl) rfl rfl rfl ?_
  refine RunL.nil ?_
  refine RunE.next ?_
  refine RunC.seq ?_
  refine RunC.region ?_
  refine RunL.val (Val.fieldAddr rfl fld_64_0) rfl rfl rfl ?_
  refine RunL.val (Val.load_one rfl (.head _) ty_3 rfl) rfl rfl rfl ?_
  iterate 3 refine RunL.val (Val.pure rfl) rfl rfl rfl ?_
  refine RunL.andPart (dj := 9) (dp := 14) 5 rfl (fun g9 => by
    have g9' := g9
    try simp only [decide_eq_true_eq, decide_eq_false_iff_not, Bool.not_eq_true', Bool.not_eq_false', Bool.and_eq_true, Bool.or_eq_true, Bool.and_eq_false_iff, Bool.or_eq_false_iff, Int.not_le, Int.not_lt] at g9'
    refine RunL.val (Val.fieldAddr rfl fld_64_1) rfl rfl rfl ?_
    refine RunL.val (Val.load_one rfl (.head _) ty_3 rfl) rfl rfl rfl ?_
    iterate 3 refine RunL.val (Val.pure rfl) rfl rfl rfl ?_
    exact RunL.segEnd (Sub.cons rfl (Sub.skip rfl (Sub.skip rfl (Sub.skip rfl (Sub.skip rfl (Sub.skip rfl (Sub.same rfl (by rw [g9]) (Sub.refl _)))))))) (List.Sublist.refl _)
  ) (fun g9 => by
    have g9' := g9
    try simp only [decide_eq_true_eq, decide_eq_false_iff_not, Bool.not_eq_true', Bool.not_eq_false', Bool.and_eq_true, Bool.or_eq_true, Bool.and_eq_false_iff, Bool.or_eq_false_iff, Int.not_le, Int.not_lt] at g9'
    iterate 4 refine RunL.no rfl rfl rfl ?_
    refine RunL.val (Val.pure rfl) rfl rfl rfl ?_
    exact RunL.segEnd (Sub.cons rfl (Sub.skip rfl (Sub.skip rfl (Sub.skip rfl (Sub.skip rfl (Sub.skip rfl (Sub.same rfl (by rw [g9]) (Sub.refl _)))))))) (List.Sublist.refl _)
  ) ?_
  refine RunL.val (Val.pure rfl) rfl rfl rfl ?_
  refine RunL.nil ?_
  refine RunE.next ?_
  refine RunC.ret ?_
  exact RunE.retP (.r1 rfl (.tmp rfl)) (by first | rfl | simp)
theorem yhas_calls (s : Int × Int) (W : World) : Calls Try.prog 64 #[b2v s, .int .i64 0] W (Pure (.bool (has0 s)) W) := by
  refine calls_start Try.func64 rfl rfl ?_
  refine RunC.seq ?_
  refine RunC.region ?_
  refine RunL.new (New.box rfl) rfl rfl rfl (fun b2 => ?_)
  refine RunL.val (Val.pure rfl) rfl rfl rfl ?_
  refine RunL.nil ?_
  refine RunE.next ?_
  refine RunC.seq ?_
  refine RunC.region ?_
  refine RunL.val (Val.fieldAddr rfl fld_64_0) rfl rfl rfl ?_
  refine RunL.val (Val.load_one rfl (.head _) ty_3 rfl) rfl rfl rfl ?_
  iterate 3 refine RunL.val (Val.pure rfl) rfl rfl rfl ?_
  refine RunL.andPart (dj := 9) (dp := 14) 5 rfl (fun g9 => by
    have g9' := g9
    try simp only [decide_eq_true_eq, decide_eq_false_iff_not, Bool.not_eq_true', Bool.not_eq_false', Bool.and_eq_true, Bool.or_eq_true, Bool.and_eq_false_iff, Bool.or_eq_false_iff, Int.not_le, Int.not_lt] at g9'
    refine RunL.val (Val.pure rfl) rfl rfl rfl ?_
    refine RunL.val (Val.fieldAddr rfl fld_64_1) rfl rfl rfl ?_
    refine RunL.val (Val.load_one rfl (.head _) ty_3 rfl) rfl rfl rfl ?_
    refine RunL.val (Val.pure rfl) rfl rfl rfl ?_
    refine RunL.val (Val.pure rfl) rfl rfl rfl ?_
    exact RunL.segEnd (Sub.cons rfl (Sub.skip rfl (Sub.skip rfl (Sub.skip rfl (Sub.skip rfl (Sub.skip rfl (Sub.same rfl (by rw [g9]) (Sub.refl _)))))))) (List.Sublist.refl _)
  ) (fun g9 => by
    have g9' := g9
    try simp only [decide_eq_true_eq, decide_eq_false_iff_not, Bool.not_eq_true', Bool.not_eq_false', Bool.and_eq_true, Bool.or_eq_true, Bool.and_eq_false_iff, Bool.or_eq_false_iff, Int.not_le, Int.not_lt] at g9'
    iterate 4 refine RunL.no rfl rfl rfl ?_
    refine RunL.val (Val.pure rfl) rfl rfl rfl ?_
    exact RunL.segEnd (Sub.cons rfl (Sub.skip rfl (Sub.skip rfl (Sub.skip rfl (Sub.skip rfl (Sub.skip rfl (Sub.same rfl (by rw [g9]) (Sub.refl _)))))))) (List.Sublist.refl _)
  ) ?_
  refine RunL.val (Val.pure rfl) rfl rfl rfl ?_
  refine RunL.nil ?_
  refine RunE.next ?_
  refine RunC.ret ?_
  exact RunE.retP (.r1 rfl (.tmp rfl)) (by first | rfl | simp)
theorem setL_lt12 {g : Gl} {p : Nat → Bool} (hlen : g.f.things.length ≤ 12) (pre : List (Sn g)) : setL p (vals pre) < 4096 := by
  refine setL_lt (m := 12) (fun i hi => ?_)
  obtain ⟨x, hx, rfl⟩ := List.mem_map.1 hi
  obtain ⟨_, _, k, hk, h1, _⟩ := seen_in x.2
  have : x.1 = k := by omega
  omega
theorem sn_lt {g : Gl} (hlen : g.f.things.length ≤ 12) (x : Sn g) : x.1 < 12 := by
  obtain ⟨_, _, k, hk, h1, _⟩ := seen_in x.2
  have : x.1 = k := by omega
  omega
theorem or_lt12 {s i : Nat} (hs : s < 4096) (hi : i < 12) : s ||| 2 ^ i < 4096 := Nat.or_lt_two_pow (n := 12) hs (Nat.pow_lt_pow_right (by decide) hi)
theorem yStays_calls (g : Gl) (a : Ga) (W : World) (hG : GIn W g a) : Calls Try.prog 24 #[g.v a] W (Pure (.tuple #[.int .i64 (gStays g).1.1, .int .i64 (gStays g).1.2, .int .i64 (gStays g).2]) W) := by
  refine calls_start_marks Try.func24 rfl rfl ?_
  refine RunC.seq ?_
  refine RunC.region ?_
  refine RunL.new (New.box rfl) rfl rfl rfl (fun b1 => ?_)
  refine RunL.new (New.alloc zero_3) rfl rfl rfl (fun b2 => ?_)
  refine RunL.new (New.alloc zero_3) rfl rfl rfl (fun b3 => ?_)
  refine RunL.new (New.alloc zero_31) rfl rfl rfl (fun b4 => ?_)
  refine RunL.nil ?_
  refine RunE.next ?_
  refine RunC.seq ?_
  refine RunC.region ?_
  refine RunL.val (Val.pure rfl) rfl rfl rfl ?_
  refine RunL.deferC rfl ?_
  refine RunL.nil ?_
  refine RunE.next ?_
  refine RunC.seq ?_
  refine RunC.region ?_
  refine RunL.val (Val.load_agg rfl (.tail _ (.tail _ (.tail _ (.head _)))) ty_28 rfl) rfl rfl rfl ?_
  refine RunL.callTN (isCall_func rfl ent_35) rfl rfl rfl (fun w hm => yopen_calls g a _ w (hG.mono hm)) (fun e15 he15 => ?_) (fun a15 ha15 b15 => ?_)
  · refine RunE.pass_panic ?_
    exact RunE.panMC yStays_catches ent_62 .here (.r3 rfl (.one rfl (.tail _ (.tail _ (.head _))) ty_3 rfl) (.one rfl (.tail _ (.head _)) ty_3 rfl) (.one rfl (.head _) ty_31 rfl)) (by simp [gStays, he15])
  obtain ⟨hpf, hps, hll⟩ := openG_pairs ha15
  have hlen := hpf.len
  refine RunL.new (New.alloc zero_65) rfl rfl rfl (fun b5 => ?_)
  refine RunL.sto (Sto.store rfl rfl .here ty_65 rfl rfl) rfl rfl ?_
  refine RunL.nil ?_
  refine RunE.next ?_
  refine RunC.seq ?_
  refine RunC.seq ?_
  refine RunC.region ?_
  refine RunL.val (Val.load_one rfl (.head _) ty_65 rfl) rfl rfl rfl ?_
  refine RunL.callN (isCall_func rfl ent_56) rfl rfl rfl (fun w hm => yseen_calls b15 w) (fun b17 => ?_)
  refine RunL.nil ?_
  refine RunE.next ?_
  refine RunC.block ?_
  refine RunC.rangeH (α := Sn g) (Y := Nat) (N := 100) (S := fun xs => xs = seenA g g.f.things.length) (Sp := fun _ => True) [(b17, _), (b5, _), (b15, _), (b4, _), (b1, _)] (fun x => [.int .i64 (x.1 : Int), z2v (farG g x.1)]) (fun pre => [(b2, .cells [.int .i64 ((setL (sureB g) (vals pre) : Nat) : Int)].toArray 3 (0, 0)), (b3, .cells [.int .i64 ((setL (canB g) (vals pre) : Nat) : Int)].toArray 3 (0, 0))]) (fun x y q => (6, .int .i64 (x.1 : Int)) :: (7, .pointer (some ⟨y, 0, none⟩)) :: q) (fun x y => [(y, .cells (z2c (farG g x.1)).toArray 72 (0, 0))]) (fun _ _ _ => False) (Sub.cons (t := 2) rfl (Sub.cons (t := 3) rfl (Sub.cons (t := 4) rfl (Sub.cons (t := 5) rfl (Sub.nil _))))) (.cons (.there (.there (.there (.there (.there .here))))) rfl (.cons (.there (.there (.there (.there .here)))) rfl (.cons .here rfl (.cons .here rfl (.cons .here rfl (.cons .here rfl (.cons .here rfl .nil))))))) (fun _ => rfl) (fun _ _ _ hb => by simp only [List.mem_cons, List.not_mem_nil, or_false, Prod.mk.injEq] at hb; rcases hb with ⟨_, rfl⟩ | ⟨_, rfl⟩ <;> rfl) (fun _ _ _ _ hb => by simp only [List.mem_cons, List.not_mem_nil, or_false, Prod.mk.injEq] at hb; obtain ⟨_, rfl⟩ := hb; rfl) (fun _ => rfl) rfl rfl ent_81 (fun w hm => seen_stops g a b15 b17 w _ hlen ⟨hm.at (.tail _ (.tail _ (.tail _ (.tail _ (.head _))))), hm.at (.tail _ (.tail _ (.head _))), hG.mono hm⟩ ⟨hm.apart (.tail _ (.tail _ (.head _))), hm.apart (.head _), fun hx => hm.oldApart (hG.s1.lt0 (by decide) hx), fun hx => hm.oldApart (hG.s2.lt0 (by decide) hx)⟩) ?_ ?_ ?_ ?_
  · intro l1 pre x V1 hV1
    refine RunCR.seq ?_
    refine RunCR.regionP ?_
    refine RunL.val (Val.pure rfl) rfl rfl rfl ?_
    refine RunL.nil ?_
    refine RunER.next ?_
    refine RunCR.regionP ?_
    refine RunL.new (New.alloc zero_72) rfl rfl rfl (fun b7 => ?_)
    refine RunL.sto (Sto.store rfl rfl .here ty_72 rfl rfl) rfl rfl ?_
    refine RunL.nil ?_
    exact RunE.asg b7 rfl (Sub.consE (t := 6) rfl rfl (Sub.consE (t := 7) rfl rfl (Sub.cons (t := 2) rfl (Sub.cons (t := 3) rfl (Sub.cons (t := 4) rfl (Sub.cons (t := 5) rfl (Sub.nil _))))))) (.cons .here rfl .nil)
  · intro l1 pre x y W1 hlen1 hI1 hL1 hAp1
    have hv1_b17 := hI1.at (.tail _ (.tail _ (.head _)))
    have hn1_b17 := hAp1 _ (.inl ⟨_, (.head _)⟩)
    have hv1_b5 := hI1.at (.tail _ (.tail _ (.tail _ (.head _))))
    have hn1_b5 := hAp1 _ (.inl ⟨_, (.tail _ (.head _))⟩)
    have hv1_b15 := hI1.at (.tail _ (.tail _ (.tail _ (.tail _ (.head _)))))
    have hn1_b15 := hAp1 _ (.inl ⟨_, (.tail _ (.tail _ (.head _)))⟩)
    have hv1_b4 := hI1.at (.tail _ (.tail _ (.tail _ (.tail _ (.tail _ (.head _))))))
    have hn1_b4 := hAp1 _ (.inl ⟨_, (.tail _ (.tail _ (.tail _ (.head _))))⟩)
    have hv1_b1 := hI1.at (.tail _ (.tail _ (.tail _ (.tail _ (.tail _ (.tail _ (.head _)))))))
    have hn1_b1 := hAp1 _ (.inl ⟨_, (.tail _ (.tail _ (.tail _ (.tail _ (.head _)))))⟩)
    have hx12 := sn_lt hlen x
    have hp1 := setL_lt12 (p := sureB g) hlen pre
    have hp2 := setL_lt12 (p := canB g) hlen pre
    have h2x : 2 ^ x.1 < 2 ^ 12 := Nat.pow_lt_pow_right (by decide) hx12
    have hG1 : ∀ {c nw : Blks} {w : World}, Mem W1 c nw w → c.map (·.1) = _ → GIn w g a := fun hm hc => hG.mono (hI1.flat hm (fun b hb => by rw [hc]; exact hAp1 b (.inr hb)))
    refine RunCR.block ?_
    refine RunCR.seq ?_
    refine RunCR.regionP ?_
    refine RunL.val (Val.pure rfl) rfl rfl rfl ?_
    refine RunL.val (Val.pure rfl) rfl rfl rfl ?_
    refine RunL.nil ?_
    refine RunER.next ?_
    refine RunCR.seq ?_
    refine RunCR.seq ?_
    refine RunCR.regionP ?_
    refine RunL.val (Val.build (parts := []) rfl zero_69 places_69 rfl) rfl rfl rfl ?_
    refine RunL.val (Val.makeInterface rfl noif_69) rfl rfl rfl ?_
    refine RunL.val (Val.build (parts := []) rfl zero_78 places_78 rfl) rfl rfl rfl ?_
    refine RunL.val (Val.makeInterface rfl noif_78) rfl rfl rfl ?_
    refine RunL.new (New.buildSlice (parts := [(0, .tmp 21), (1, .tmp 23)]) rfl sl_90 zero_92 rfl rfl rfl rfl) rfl rfl rfl (fun b24 => ?_)
    refine RunL.val (Val.len_sl rfl sl_90) rfl rfl rfl ?_
    refine RunL.val (Val.pure rfl) rfl rfl rfl ?_
    refine RunL.nil ?_
    refine RunER.next ?_
    refine RunCR.block ?_
    refine RunCR.unroll 2 ?_
    refine RunCR.seq ?_
    refine RunCR.regionP ?_
    refine RunL.val (Val.pure rfl) rfl rfl rfl ?_
    refine RunL.nil ?_
    refine RunER.next ?_
    refine RunCR.seq ?_
    refine RunCR.cond rfl ?_ (fun h => absurd h (by decide))
    intro c0
    clear c0
    refine RunCR.skip ?_
    refine RunER.next ?_
    refine RunCR.seq ?_
    refine RunCR.block ?_
    refine RunCR.seq ?_
    refine RunCR.regionP ?_
    refine RunL.val (Val.indexAddr_sl rfl rfl sl_90 (by omega) (by omega)) rfl rfl rfl ?_
    refine RunL.val (Val.load_one rfl (.tail _ (.tail _ (.tail _ (.head _)))) ty_92 rfl) rfl rfl rfl ?_
    refine RunL.val (Val.pure rfl) rfl rfl rfl ?_
    refine RunL.nil ?_
    refine RunER.next ?_
    refine RunCR.seq ?_
    refine RunCR.regionP ?_
    refine RunL.val (Val.pure rfl) rfl rfl rfl ?_
    refine RunL.val (Val.oload_one rfl hv1_b5 (notin_of rfl hn1_b5) ty_65 rfl) rfl rfl rfl ?_
    refine RunL.val (Val.pure rfl) rfl rfl rfl ?_
    refine RunL.val (Val.load_agg rfl (.tail _ (.tail _ (.head _))) ty_72 rfl) rfl rfl rfl ?_
    refine RunL.callP (isCall_invoke rfl rfl (fun w => meth_69_pairworks_years_answer _ w) ent_125) rfl rfl rfl (fun w hm => yanswerM_calls x.1 b15 _ (farG_ok g x.1) w) ?_
    refine RunL.new (New.alloc zero_64) rfl rfl rfl (fun b12 => ?_)
    refine RunL.sto (Sto.store rfl rfl .here ty_64 rfl rfl) rfl rfl ?_
    refine RunL.nil ?_
    refine RunER.next ?_
    refine RunCR.regionP ?_
    refine RunL.val (Val.pure rfl) rfl rfl rfl ?_
    refine RunL.val (Val.pure rfl) rfl rfl rfl ?_
    refine RunL.andPart (dj := 36) (dp := 39) 3 rfl (fun g36 => by
      have g36' := g36
      try simp only [decide_eq_true_eq, decide_eq_false_iff_not, Bool.not_eq_true', Bool.not_eq_false', Bool.and_eq_true, Bool.or_eq_true, Bool.and_eq_false_iff, Bool.or_eq_false_iff, Int.not_le, Int.not_lt] at g36'
      refine RunL.val (Val.load_agg rfl (.tail _ (.tail _ (.tail _ (.head _)))) ty_64 rfl) rfl rfl rfl ?_
      refine RunL.callP (isCall_func rfl ent_63) rfl rfl rfl (fun w hm => yonly_calls _ w) ?_
      refine RunL.val (Val.pure rfl) rfl rfl rfl ?_
      exact RunL.segEnd (Sub.cons rfl (Sub.skip rfl (Sub.skip rfl (Sub.skip rfl (Sub.same rfl (by rw [g36]) (Sub.refl _)))))) (List.Sublist.refl _)
    ) (fun g36 => by
      have g36' := g36
      try simp only [decide_eq_true_eq, decide_eq_false_iff_not, Bool.not_eq_true', Bool.not_eq_false', Bool.and_eq_true, Bool.or_eq_true, Bool.and_eq_false_iff, Bool.or_eq_false_iff, Int.not_le, Int.not_lt] at g36'
      refine RunL.no rfl rfl rfl ?_
      refine RunL.no rfl rfl rfl ?_
      refine RunL.val (Val.pure rfl) rfl rfl rfl ?_
      exact RunL.segEnd (Sub.cons rfl (Sub.skip rfl (Sub.skip rfl (Sub.skip rfl (Sub.same rfl (by rw [g36]) (Sub.refl _)))))) (List.Sublist.refl _)
    ) ?_
    refine RunL.val (Val.pure rfl) rfl rfl rfl ?_
    refine RunL.val (Val.pure rfl) rfl rfl rfl ?_
    refine RunL.andPart (dj := 41) (dp := 44) 3 rfl (fun g41 => by
      have g41' := g41
      try simp only [decide_eq_true_eq, decide_eq_false_iff_not, Bool.not_eq_true', Bool.not_eq_false', Bool.and_eq_true, Bool.or_eq_true, Bool.and_eq_false_iff, Bool.or_eq_false_iff, Int.not_le, Int.not_lt] at g41'
      refine RunL.val (Val.load_agg rfl (.tail _ (.tail _ (.tail _ (.head _)))) ty_64 rfl) rfl rfl rfl ?_
      refine RunL.callP (isCall_func rfl ent_64) rfl rfl rfl (fun w hm => yhas_calls _ w) ?_
      refine RunL.val (Val.pure rfl) rfl rfl rfl ?_
      exact RunL.segEnd (Sub.cons rfl (Sub.skip rfl (Sub.skip rfl (Sub.skip rfl (Sub.same rfl (by rw [g41]) (Sub.refl _)))))) (List.Sublist.refl _)
    ) (fun g41 => by
      have g41' := g41
      try simp only [decide_eq_true_eq, decide_eq_false_iff_not, Bool.not_eq_true', Bool.not_eq_false', Bool.and_eq_true, Bool.or_eq_true, Bool.and_eq_false_iff, Bool.or_eq_false_iff, Int.not_le, Int.not_lt] at g41'
      refine RunL.no rfl rfl rfl ?_
      refine RunL.no rfl rfl rfl ?_
      refine RunL.val (Val.pure rfl) rfl rfl rfl ?_
      exact RunL.segEnd (Sub.cons rfl (Sub.skip rfl (Sub.skip rfl (Sub.skip rfl (Sub.same rfl (by rw [g41]) (Sub.refl _)))))) (List.Sublist.refl _)
    ) ?_
    refine RunL.val (Val.pure rfl) rfl rfl rfl ?_
    refine RunL.val (Val.pure rfl) rfl rfl rfl ?_
    refine RunL.nil ?_
    refine RunE.block_normal ?_
    refine RunER.next ?_
    refine RunCR.regionP ?_
    refine RunL.val (Val.add rfl rfl (IntWalk.i64_in _ ⟨by decide, by decide⟩)) rfl rfl rfl ?_
    refine RunL.val (Val.pure rfl) rfl rfl rfl ?_
    refine RunL.nil ?_
    refine RunE.keep (Sub.cons (t := 2) rfl (Sub.cons (t := 3) rfl (Sub.cons (t := 4) rfl (Sub.cons (t := 5) rfl (Sub.cons (t := 6) rfl (Sub.cons (t := 7) rfl (Sub.cons (t := 8) rfl (Sub.cons (t := 9) rfl (Sub.cons (t := 24) rfl (Sub.cons (t := 25) rfl (Sub.cons (t := 26) rfl (Sub.nil _)))))))))))) (.cons (.there .here) rfl .nil) ?_
    refine RunER.rounds ?_
    refine RunCR.seq ?_
    refine RunCR.regionP ?_
    refine RunL.val (Val.pure rfl) rfl rfl rfl ?_
    refine RunL.nil ?_
    refine RunER.next ?_
    refine RunCR.seq ?_
    refine RunCR.cond rfl ?_ (fun h => absurd h (by decide))
    intro c0
    clear c0
    refine RunCR.skip ?_
    refine RunER.next ?_
    refine RunCR.seq ?_
    refine RunCR.block ?_
    refine RunCR.seq ?_
    refine RunCR.regionP ?_
    refine RunL.val (Val.indexAddr_sl rfl rfl sl_90 (by omega) (by omega)) rfl rfl rfl ?_
    refine RunL.val (Val.load_one rfl (.tail _ (.tail _ (.tail _ (.head _)))) ty_92 rfl) rfl rfl rfl ?_
    refine RunL.val (Val.pure rfl) rfl rfl rfl ?_
    refine RunL.nil ?_
    refine RunER.next ?_
    refine RunCR.seq ?_
    refine RunCR.regionP ?_
    refine RunL.val (Val.pure rfl) rfl rfl rfl ?_
    refine RunL.val (Val.oload_one rfl hv1_b5 (notin_of rfl hn1_b5) ty_65 rfl) rfl rfl rfl ?_
    refine RunL.val (Val.pure rfl) rfl rfl rfl ?_
    refine RunL.val (Val.load_agg rfl (.tail _ (.tail _ (.head _))) ty_72 rfl) rfl rfl rfl ?_
    refine RunL.callP (isCall_invoke rfl rfl (fun w => meth_78_pairworks_years_answer _ w) ent_126) rfl rfl rfl (fun w hm => yanswerS_calls g a x.1 _ b15 w (hm.old_at hv1_b15 (notin_of rfl hn1_b15)) (hG1 hm rfl) x.2 (farG_ok g x.1)) ?_
    refine RunL.new (New.alloc zero_64) rfl rfl rfl (fun b12 => ?_)
    refine RunL.sto (Sto.store rfl rfl .here ty_64 rfl rfl) rfl rfl ?_
    refine RunL.nil ?_
    refine RunER.next ?_
    refine RunCR.regionP ?_
    refine RunL.val (Val.pure rfl) rfl rfl rfl ?_
    refine RunL.val (Val.pure rfl) rfl rfl rfl ?_
    refine RunL.andPart (dj := 36) (dp := 39) 3 rfl (fun g36 => by
      have g36' := g36
      try simp only [decide_eq_true_eq, decide_eq_false_iff_not, Bool.not_eq_true', Bool.not_eq_false', Bool.and_eq_true, Bool.or_eq_true, Bool.and_eq_false_iff, Bool.or_eq_false_iff, Int.not_le, Int.not_lt] at g36'
      refine RunL.val (Val.load_agg rfl (.tail _ (.tail _ (.tail _ (.head _)))) ty_64 rfl) rfl rfl rfl ?_
      refine RunL.callP (isCall_func rfl ent_63) rfl rfl rfl (fun w hm => yonly_calls _ w) ?_
      refine RunL.val (Val.pure rfl) rfl rfl rfl ?_
      exact RunL.segEnd (Sub.cons rfl (Sub.skip rfl (Sub.skip rfl (Sub.skip rfl (Sub.same rfl (by rw [g36]) (Sub.refl _)))))) (List.Sublist.refl _)
    ) (fun g36 => by
      have g36' := g36
      try simp only [decide_eq_true_eq, decide_eq_false_iff_not, Bool.not_eq_true', Bool.not_eq_false', Bool.and_eq_true, Bool.or_eq_true, Bool.and_eq_false_iff, Bool.or_eq_false_iff, Int.not_le, Int.not_lt] at g36'
      refine RunL.no rfl rfl rfl ?_
      refine RunL.no rfl rfl rfl ?_
      refine RunL.val (Val.pure rfl) rfl rfl rfl ?_
      exact RunL.segEnd (Sub.cons rfl (Sub.skip rfl (Sub.skip rfl (Sub.skip rfl (Sub.same rfl (by rw [g36]) (Sub.refl _)))))) (List.Sublist.refl _)
    ) ?_
    refine RunL.val (Val.pure rfl) rfl rfl rfl ?_
    refine RunL.val (Val.pure rfl) rfl rfl rfl ?_
    refine RunL.andPart (dj := 41) (dp := 44) 3 rfl (fun g41 => by
      have g41' := g41
      try simp only [decide_eq_true_eq, decide_eq_false_iff_not, Bool.not_eq_true', Bool.not_eq_false', Bool.and_eq_true, Bool.or_eq_true, Bool.and_eq_false_iff, Bool.or_eq_false_iff, Int.not_le, Int.not_lt] at g41'
      refine RunL.val (Val.load_agg rfl (.tail _ (.tail _ (.tail _ (.head _)))) ty_64 rfl) rfl rfl rfl ?_
      refine RunL.callP (isCall_func rfl ent_64) rfl rfl rfl (fun w hm => yhas_calls _ w) ?_
      refine RunL.val (Val.pure rfl) rfl rfl rfl ?_
      exact RunL.segEnd (Sub.cons rfl (Sub.skip rfl (Sub.skip rfl (Sub.skip rfl (Sub.same rfl (by rw [g41]) (Sub.refl _)))))) (List.Sublist.refl _)
    ) (fun g41 => by
      have g41' := g41
      try simp only [decide_eq_true_eq, decide_eq_false_iff_not, Bool.not_eq_true', Bool.not_eq_false', Bool.and_eq_true, Bool.or_eq_true, Bool.and_eq_false_iff, Bool.or_eq_false_iff, Int.not_le, Int.not_lt] at g41'
      refine RunL.no rfl rfl rfl ?_
      refine RunL.no rfl rfl rfl ?_
      refine RunL.val (Val.pure rfl) rfl rfl rfl ?_
      exact RunL.segEnd (Sub.cons rfl (Sub.skip rfl (Sub.skip rfl (Sub.skip rfl (Sub.same rfl (by rw [g41]) (Sub.refl _)))))) (List.Sublist.refl _)
    ) ?_
    refine RunL.val (Val.pure rfl) rfl rfl rfl ?_
    refine RunL.val (Val.pure rfl) rfl rfl rfl ?_
    refine RunL.nil ?_
    refine RunE.block_normal ?_
    refine RunER.next ?_
    refine RunCR.regionP ?_
    refine RunL.val (Val.add rfl rfl (IntWalk.i64_in _ ⟨by decide, by decide⟩)) rfl rfl rfl ?_
    refine RunL.val (Val.pure rfl) rfl rfl rfl ?_
    refine RunL.nil ?_
    refine RunE.keep (Sub.cons (t := 2) rfl (Sub.cons (t := 3) rfl (Sub.cons (t := 4) rfl (Sub.cons (t := 5) rfl (Sub.cons (t := 6) rfl (Sub.cons (t := 7) rfl (Sub.cons (t := 8) rfl (Sub.cons (t := 9) rfl (Sub.cons (t := 24) rfl (Sub.cons (t := 25) rfl (Sub.cons (t := 26) rfl (Sub.nil _)))))))))))) (.cons (.there .here) rfl .nil) ?_
    refine RunER.rounds ?_
    refine RunCR.seq ?_
    refine RunCR.regionP ?_
    refine RunL.val (Val.pure rfl) rfl rfl rfl ?_
    refine RunL.nil ?_
    refine RunER.next ?_
    refine RunCR.seq ?_
    refine RunCR.cond rfl (fun h => absurd h (by decide)) ?_
    intro c0
    clear c0
    refine RunCR.exit ?_
    refine RunE.pass_exit ?_
    refine RunE.pass_exit ?_
    refine RunE.block_here ?_
    refine RunER.next ?_
    refine RunCR.seq ?_
    refine RunCR.seq ?_
    refine RunCR.regionP ?_
    refine RunL.val (Val.pure rfl) rfl rfl rfl ?_
    refine RunL.nil ?_
    refine RunER.next ?_
    refine RunCR.cond rfl ?_ ?_
    · intro c1
      have c1' := c1; clear c1
      try simp only [decide_eq_true_eq, decide_eq_false_iff_not, Bool.not_eq_true', Bool.not_eq_false', Bool.and_eq_true, Bool.or_eq_true, Bool.and_eq_false_iff, Bool.or_eq_false_iff, Int.not_le, Int.not_lt] at c1'
      have hs1 : sureB g x.1 = true := by simpa [sureB, mvZ] using c1'
      refine RunCR.draw 3 fol_ (.cons .here rfl .nil) ?_
      refine RunA.val (i := 0) rfl (by kernel_rfl) (by kernel_rfl) (Val.load_one rfl (.head _) ty_3 rfl) rfl rfl rfl (fun _ _ _ h => h) (.cons .here rfl .nil) rfl ?_
      refine RunA.val (i := 1) rfl (by kernel_rfl) (by kernel_rfl) (Val.pure rfl) rfl rfl rfl (fun _ _ _ h => h) (.cons .here rfl .nil) rfl ?_
      refine RunA.val (i := 2) rfl (by kernel_rfl) (by kernel_rfl) (Val.shl1 (b := x.1) rfl rfl (by show x.1 ≤ 64; omega) (i64_inN (n := 2 ^ x.1) (by omega))) rfl rfl rfl (fun _ _ _ h => h) (.cons .here rfl .nil) rfl ?_
      refine RunA.toB (by kernel_rfl) ?_
      refine RunB.one (i := 3) (by kernel_rfl) ?_
      refine RunI.val rfl (Val.or (a := setL (sureB g) (vals pre)) (b := 2 ^ x.1) rfl rfl (by show _ < 18446744073709551616; omega) (by show _ < 18446744073709551616; omega) (i64_inN (by have := or_lt12 hp1 hx12; omega))) rfl rfl rfl (RunK.toB ?_)
      refine RunB.one (i := 4) (by kernel_rfl) ?_
      refine RunI.sto rfl (Sto.store_chg rfl rfl .here ty_3 rfl rfl) rfl rfl (RunK.toB ?_)
      refine RunB.done (by kernel_rfl) ?_
      refine RunER.next ?_
      refine RunCR.seq ?_
      refine RunCR.regionP ?_
      refine RunL.val (Val.pure rfl) rfl rfl rfl ?_
      refine RunL.nil ?_
      refine RunER.next ?_
      refine RunCR.cond rfl ?_ ?_
      · intro c2
        have c2' := c2; clear c2
        try simp only [decide_eq_true_eq, decide_eq_false_iff_not, Bool.not_eq_true', Bool.not_eq_false', Bool.and_eq_true, Bool.or_eq_true, Bool.and_eq_false_iff, Bool.or_eq_false_iff, Int.not_le, Int.not_lt] at c2'
        have hs2 : canB g x.1 = true := by simpa [canB, mvZ] using c2'
        refine RunCR.draw 3 fol_ (.cons .here rfl .nil) ?_
        refine RunA.val (i := 0) rfl (by kernel_rfl) (by kernel_rfl) (Val.load_one rfl (.tail _ (.head _)) ty_3 rfl) rfl rfl rfl (fun _ _ _ h => h) (.cons .here rfl .nil) rfl ?_
        refine RunA.val (i := 1) rfl (by kernel_rfl) (by kernel_rfl) (Val.pure rfl) rfl rfl rfl (fun _ _ _ h => h) (.cons .here rfl .nil) rfl ?_
        refine RunA.val (i := 2) rfl (by kernel_rfl) (by kernel_rfl) (Val.shl1 (b := x.1) rfl rfl (by show x.1 ≤ 64; omega) (i64_inN (n := 2 ^ x.1) (by omega))) rfl rfl rfl (fun _ _ _ h => h) (.cons .here rfl .nil) rfl ?_
        refine RunA.toB (by kernel_rfl) ?_
        refine RunB.one (i := 3) (by kernel_rfl) ?_
        refine RunI.val rfl (Val.or (a := setL (canB g) (vals pre)) (b := 2 ^ x.1) rfl rfl (by show _ < 18446744073709551616; omega) (by show _ < 18446744073709551616; omega) (i64_inN (by have := or_lt12 hp2 hx12; omega))) rfl rfl rfl (RunK.toB ?_)
        refine RunB.one (i := 4) (by kernel_rfl) ?_
        refine RunI.sto rfl (Sto.store_chg rfl rfl (.there .here) ty_3 rfl rfl) rfl rfl (RunK.toB ?_)
        refine RunB.done (by kernel_rfl) ?_
        refine RunE.block_normal ?_
        exact RunE.bodyX [(y, _)] (by simp only [vals_snoc, setL_snoc, hs1, hs2, if_true, if_false, Bool.false_eq_true]; rfl)
      · intro c2
        have c2' := c2; clear c2
        try simp only [decide_eq_true_eq, decide_eq_false_iff_not, Bool.not_eq_true', Bool.not_eq_false', Bool.and_eq_true, Bool.or_eq_true, Bool.and_eq_false_iff, Bool.or_eq_false_iff, Int.not_le, Int.not_lt] at c2'
        have hs2 : canB g x.1 = false := by
          cases hh : canB g x.1 with
          | false => rfl
          | true =>
            exfalso
            simp only [canB, mvZ, Bool.and_eq_true] at hh
            simp [hh.1, hh.2] at c2'
        refine RunCR.skip ?_
        refine RunE.block_normal ?_
        exact RunE.bodyX [(y, _)] (by simp only [vals_snoc, setL_snoc, hs1, hs2, if_true, if_false, Bool.false_eq_true]; rfl)
    · intro c1
      have c1' := c1; clear c1
      try simp only [decide_eq_true_eq, decide_eq_false_iff_not, Bool.not_eq_true', Bool.not_eq_false', Bool.and_eq_true, Bool.or_eq_true, Bool.and_eq_false_iff, Bool.or_eq_false_iff, Int.not_le, Int.not_lt] at c1'
      have hs1 : sureB g x.1 = false := by
        cases hh : sureB g x.1 with
        | false => rfl
        | true =>
          exfalso
          simp only [sureB, mvZ, Bool.and_eq_true] at hh
          simp [hh.1, hh.2] at c1'
      refine RunCR.skip ?_
      refine RunER.next ?_
      refine RunCR.seq ?_
      refine RunCR.regionP ?_
      refine RunL.val (Val.pure rfl) rfl rfl rfl ?_
      refine RunL.nil ?_
      refine RunER.next ?_
      refine RunCR.cond rfl ?_ ?_
      · intro c2
        have c2' := c2; clear c2
        try simp only [decide_eq_true_eq, decide_eq_false_iff_not, Bool.not_eq_true', Bool.not_eq_false', Bool.and_eq_true, Bool.or_eq_true, Bool.and_eq_false_iff, Bool.or_eq_false_iff, Int.not_le, Int.not_lt] at c2'
        have hs2 : canB g x.1 = true := by simpa [canB, mvZ] using c2'
        refine RunCR.draw 3 fol_ (.cons .here rfl .nil) ?_
        refine RunA.val (i := 0) rfl (by kernel_rfl) (by kernel_rfl) (Val.load_one rfl (.tail _ (.head _)) ty_3 rfl) rfl rfl rfl (fun _ _ _ h => h) (.cons .here rfl .nil) rfl ?_
        refine RunA.val (i := 1) rfl (by kernel_rfl) (by kernel_rfl) (Val.pure rfl) rfl rfl rfl (fun _ _ _ h => h) (.cons .here rfl .nil) rfl ?_
        refine RunA.val (i := 2) rfl (by kernel_rfl) (by kernel_rfl) (Val.shl1 (b := x.1) rfl rfl (by show x.1 ≤ 64; omega) (i64_inN (n := 2 ^ x.1) (by omega))) rfl rfl rfl (fun _ _ _ h => h) (.cons .here rfl .nil) rfl ?_
        refine RunA.toB (by kernel_rfl) ?_
        refine RunB.one (i := 3) (by kernel_rfl) ?_
        refine RunI.val rfl (Val.or (a := setL (canB g) (vals pre)) (b := 2 ^ x.1) rfl rfl (by show _ < 18446744073709551616; omega) (by show _ < 18446744073709551616; omega) (i64_inN (by have := or_lt12 hp2 hx12; omega))) rfl rfl rfl (RunK.toB ?_)
        refine RunB.one (i := 4) (by kernel_rfl) ?_
        refine RunI.sto rfl (Sto.store_chg rfl rfl (.there .here) ty_3 rfl rfl) rfl rfl (RunK.toB ?_)
        refine RunB.done (by kernel_rfl) ?_
        refine RunE.block_normal ?_
        exact RunE.bodyX [(y, _)] (by simp only [vals_snoc, setL_snoc, hs1, hs2, if_true, if_false, Bool.false_eq_true]; rfl)
      · intro c2
        have c2' := c2; clear c2
        try simp only [decide_eq_true_eq, decide_eq_false_iff_not, Bool.not_eq_true', Bool.not_eq_false', Bool.and_eq_true, Bool.or_eq_true, Bool.and_eq_false_iff, Bool.or_eq_false_iff, Int.not_le, Int.not_lt] at c2'
        have hs2 : canB g x.1 = false := by
          cases hh : canB g x.1 with
          | false => rfl
          | true =>
            exfalso
            simp only [canB, mvZ, Bool.and_eq_true] at hh
            simp [hh.1, hh.2] at c2'
        refine RunCR.skip ?_
        refine RunE.block_normal ?_
        exact RunE.bodyX [(y, _)] (by simp only [vals_snoc, setL_snoc, hs1, hs2, if_true, if_false, Bool.false_eq_true]; rfl)
  · intro xs bD0 hXS
    obtain rfl := hXS
    rw [seenA_vals]
    refine RunE.block_normal ?_
    refine RunE.next ?_
    refine RunC.seq ?_
    refine RunC.drawN 3 fol_ (.cons .here rfl (.cons (.there .here) rfl (.cons (.there .here) rfl (.cons (.there .here) rfl (.cons (.there .here) rfl (.cons (.there .here) rfl (.cons (.there .here) rfl .nil))))))) ?_
    refine RunA.val (i := 1) rfl (by kernel_rfl) (by kernel_rfl) (Val.load_one rfl (.tail _ (.head _)) ty_3 rfl) rfl rfl rfl (fun _ _ _ h => h) (.cons .here rfl (.cons (.there .here) rfl (.cons (.there .here) rfl (.cons (.there .here) rfl (.cons (.there .here) rfl (.cons (.there .here) rfl (.cons (.there .here) rfl .nil))))))) rfl ?_
    refine RunA.one (i := 0) (by kernel_rfl) (by kernel_rfl) ?_
    refine RunI.val rfl (Val.load_one rfl (.tail _ (.head _)) ty_3 rfl) rfl rfl rfl (RunK.toA (.cons .here rfl (.cons (.there .here) rfl (.cons (.there .here) rfl (.cons (.there .here) rfl (.cons (.there .here) rfl (.cons (.there .here) rfl (.cons (.there .here) rfl .nil))))))) (.cons .here rfl (.cons .here rfl (.cons .here rfl (.cons .here rfl (.cons .here rfl (.cons .here rfl (.cons .here rfl .nil))))))) rfl ?_)
    refine RunA.one (i := 2) (by kernel_rfl) (by kernel_rfl) ?_
    refine RunI.sto rfl (Sto.store rfl rfl (.there .here) ty_3 rfl rfl) rfl rfl (RunK.toA (.cons .here rfl (.cons (.there .here) rfl (.cons (.there .here) rfl (.cons (.there .here) rfl (.cons (.there .here) rfl (.cons (.there .here) rfl (.cons (.there .here) rfl .nil))))))) (.cons .here rfl (.cons .here rfl (.cons .here rfl (.cons .here rfl (.cons .here rfl (.cons .here rfl (.cons .here rfl .nil))))))) rfl ?_)
    refine RunA.toB (by kernel_rfl) ?_
    refine RunB.one (i := 3) (by kernel_rfl) ?_
    refine RunI.sto rfl (Sto.store rfl rfl (.there (.there .here)) ty_3 rfl rfl) rfl rfl (RunK.toB ?_)
    refine RunB.one (i := 4) (by kernel_rfl) ?_
    refine RunI.sto rfl (Sto.store rfl rfl (.there (.there (.there (.there (.there (.there .here)))))) ty_31 rfl rfl) rfl rfl (RunK.toB ?_)
    refine RunB.done (by kernel_rfl) ?_
    refine RunE.noPan ?_
    refine RunE.next ?_
    refine RunC.ret ?_
    exact RunE.outMC [bD0] yStays_catches ent_62 (.cons .here rfl (.cons .here rfl (.cons .here rfl (.cons .here rfl (.cons .here rfl (.cons .here rfl (.cons .here rfl (.cons .here rfl .nil)))))))) (.r3 rfl (.one rfl (.head _) ty_3 rfl) (.one rfl (.tail _ (.head _)) ty_3 rfl) (.one rfl (.tail _ (.tail _ (.tail _ (.tail _ (.tail _ (.head _)))))) ty_31 rfl)) (out_pure (by simp only [gStays, ha15]; rfl))
  · intro c pre V' bD0 hSp hNm hSt
    exact hSt.elim
end Go.Proofs.Ytjijeeadmhpfcaa
