/- Walks of the laws of layer 5: great, alive; YearsThings, YearsNames. -/
import Derived.Test.YtjijeeadmhpfcaaYp
set_option linter.unusedSimpArgs false
set_option linter.unusedVariables false
namespace Go.Proofs.Ytjijeeadmhpfcaa
open Go Go.Eng Go.Pw1

def greatG (g : Gl) (most : Int) : Bool := decide (30 < (g.f.things.length : Int)) || decide (30 < (g.s.things.length : Int)) || (decide (most < (g.f.things.length : Int)) && glacierR g)
theorem great_calls (g : Gl) (a : Ga) (most : Int) (W : World) (hS : GSl W g a) : Calls Try.prog 9 #[g.v a, .int .i64 most] W (Pure (.bool (greatG g most)) W) := by
  refine calls_start Try.func9 rfl rfl ?_
  refine RunC.seq ?_
  refine RunC.region ?_
  refine RunL.new (New.box rfl) rfl rfl rfl (fun b2 => ?_)
  refine RunL.val (Val.pure rfl) rfl rfl rfl ?_
  refine RunL.nil ?_
  refine RunE.next ?_
  refine RunC.seq ?_
  refine RunC.region ?_
  refine RunL.val (Val.fieldAddr rfl fld_28_0) rfl rfl rfl ?_
  refine RunL.val (Val.fieldAddr rfl fld_26_5) rfl rfl rfl ?_
  refine RunL.val (Val.load_one rfl (.head _) ty_24 rfl) rfl rfl rfl ?_
  refine RunL.val (Val.len_sl rfl sl_24) rfl rfl rfl ?_
  refine RunL.val (Val.pure rfl) rfl rfl rfl ?_
  refine RunL.val (Val.pure rfl) rfl rfl rfl ?_
  refine RunL.orPart (dj := 10) (dp := 16) 6 rfl (fun g10 => by
    have g10' := g10
    try simp only [decide_eq_true_eq, decide_eq_false_iff_not, Bool.not_eq_true', Bool.not_eq_false', Bool.and_eq_true, Bool.or_eq_true, Bool.and_eq_false_iff, Bool.or_eq_false_iff, Int.not_le, Int.not_lt] at g10'
    refine RunL.val (Val.fieldAddr rfl fld_28_1) rfl rfl rfl ?_
    refine RunL.val (Val.fieldAddr rfl fld_26_5) rfl rfl rfl ?_
    refine RunL.val (Val.load_one rfl (.head _) ty_24 rfl) rfl rfl rfl ?_
    refine RunL.val (Val.len_sl rfl sl_24) rfl rfl rfl ?_
    refine RunL.val (Val.pure rfl) rfl rfl rfl ?_
    refine RunL.val (Val.pure rfl) rfl rfl rfl ?_
    exact RunL.segEnd (Sub.cons rfl (Sub.skip rfl (Sub.skip rfl (Sub.skip rfl (Sub.skip rfl (Sub.skip rfl (Sub.skip rfl (Sub.same rfl (by rw [g10]) (Sub.refl _))))))))) (List.Sublist.refl _)
  ) (fun g10 => by
    have g10' := g10
    try simp only [decide_eq_true_eq, decide_eq_false_iff_not, Bool.not_eq_true', Bool.not_eq_false', Bool.and_eq_true, Bool.or_eq_true, Bool.and_eq_false_iff, Bool.or_eq_false_iff, Int.not_le, Int.not_lt] at g10'
    iterate 5 refine RunL.no rfl rfl rfl ?_
    refine RunL.val (Val.pure rfl) rfl rfl rfl ?_
    exact RunL.segEnd (Sub.cons rfl (Sub.skip rfl (Sub.skip rfl (Sub.skip rfl (Sub.skip rfl (Sub.skip rfl (Sub.skip rfl (Sub.same rfl (by rw [g10]) (Sub.refl _))))))))) (List.Sublist.refl _)
  ) ?_
  refine RunL.val (Val.pure rfl) rfl rfl rfl ?_
  refine RunL.orPart (dj := 17) (dp := 28) (x := decide (most < (g.f.things.length : Int)) && glacierR g) 11 rfl (fun g17 => by
    have g17' := g17
    try simp only [decide_eq_true_eq, decide_eq_false_iff_not, Bool.not_eq_true', Bool.not_eq_false', Bool.and_eq_true, Bool.or_eq_true, Bool.and_eq_false_iff, Bool.or_eq_false_iff, Int.not_le, Int.not_lt] at g17'
    refine RunL.val (Val.fieldAddr rfl fld_28_0) rfl rfl rfl ?_
    refine RunL.val (Val.fieldAddr rfl fld_26_5) rfl rfl rfl ?_
    refine RunL.val (Val.load_one rfl (.head _) ty_24 rfl) rfl rfl rfl ?_
    refine RunL.val (Val.len_sl rfl sl_24) rfl rfl rfl ?_
    iterate 3 refine RunL.val (Val.pure rfl) rfl rfl rfl ?_
    refine RunL.andPart (dj := 24) (dp := 27) 3 rfl (fun g24 => by
      have g24' := g24
      try simp only [decide_eq_true_eq, decide_eq_false_iff_not, Bool.not_eq_true', Bool.not_eq_false', Bool.and_eq_true, Bool.or_eq_true, Bool.and_eq_false_iff, Bool.or_eq_false_iff, Int.not_le, Int.not_lt] at g24'
      refine RunL.val (Val.load_agg rfl (.head _) ty_28 rfl) rfl rfl rfl ?_
      refine RunL.callP (isCall_func rfl ent_23) rfl rfl rfl (fun w hm => rGlacier_calls g a w ⟨(hS.mono hm).s1, (hS.mono hm).s2, by omega, by omega⟩) ?_
      refine RunL.val (Val.pure rfl) rfl rfl rfl ?_
      exact RunL.segEnd (Sub.cons rfl (Sub.skip rfl (Sub.skip rfl (Sub.skip rfl (Sub.same rfl (by rw [g24]) (Sub.refl _)))))) (List.Sublist.refl _)
    ) (fun g24 => by
      have g24' := g24
      try simp only [decide_eq_true_eq, decide_eq_false_iff_not, Bool.not_eq_true', Bool.not_eq_false', Bool.and_eq_true, Bool.or_eq_true, Bool.and_eq_false_iff, Bool.or_eq_false_iff, Int.not_le, Int.not_lt] at g24'
      refine RunL.no rfl rfl rfl ?_
      refine RunL.no rfl rfl rfl ?_
      refine RunL.val (Val.pure rfl) rfl rfl rfl ?_
      exact RunL.segEnd (Sub.cons rfl (Sub.skip rfl (Sub.skip rfl (Sub.skip rfl (Sub.same rfl (by rw [g24]) (Sub.refl _)))))) (List.Sublist.refl _)
    ) ?_
    refine RunL.val (Val.pure rfl) rfl rfl rfl ?_
    exact RunL.segEnd (Sub.cons rfl (Sub.skip rfl (Sub.skip rfl (Sub.skip rfl (Sub.skip rfl (Sub.skip rfl (Sub.skip rfl (Sub.skip rfl (Sub.skip rfl (Sub.skip rfl (Sub.same rfl (by rw [g17]) (Sub.refl _)))))))))))) (List.Sublist.refl _)
  ) (fun g17 => by
    have g17' := g17
    try simp only [decide_eq_true_eq, decide_eq_false_iff_not, Bool.not_eq_true', Bool.not_eq_false', Bool.and_eq_true, Bool.or_eq_true, Bool.and_eq_false_iff, Bool.or_eq_false_iff, Int.not_le, Int.not_lt] at g17'
    iterate 10 refine RunL.no rfl rfl rfl ?_
    refine RunL.val (Val.pure rfl) rfl rfl rfl ?_
    exact RunL.segEnd (Sub.cons rfl (Sub.skip rfl (Sub.skip rfl (Sub.skip rfl (Sub.skip rfl (Sub.skip rfl (Sub.skip rfl (Sub.skip rfl (Sub.skip rfl (Sub.skip rfl (Sub.skip rfl (Sub.skip rfl (Sub.same rfl (by rw [g17]) (Sub.refl _)))))))))))))) (List.Sublist.refl _)
  ) ?_
  refine RunL.val (Val.pure rfl) rfl rfl rfl ?_
  refine RunL.nil ?_
  refine RunE.next ?_
  refine RunC.ret ?_
  exact RunE.retP (.r1 rfl (.tmp rfl)) (by first | rfl | simp)
theorem great_no {g : Gl} {most : Int} (h : greatG g most = false) {W : World} {a : Ga} (hS : GSl W g a) : GIn W g a ∧ g.f.things.length ≤ 30 ∧ g.s.things.length ≤ 30 := by
  simp only [greatG, Bool.or_eq_false_iff, decide_eq_false_iff_not] at h
  have h1 := h.1.1
  have h2 := h.1.2
  exact ⟨⟨hS.s1, hS.s2, by omega, by omega⟩, by omega, by omega⟩
theorem aMoved1 (b c : Nat) (W : World) (h1 : W.heap[b]? = some (viewO 50)) (h2 : W.heap[c]? = some (viewO 60)) : Calls Try.prog 11 #[sampleG.v (sampleA b c), .int .i64 (1)] W (Pure (.tuple #[.agg #[.int .i64 (-2001), .int .i64 (-856)], .int .i64 (0)]) W) := by
  have h3 := yMoved_calls sampleG (sampleA b c) (1) W (sample_in h1 h2)
  rwa [show gMoved sampleG 1 = ((-2001, -856), 0) by kernel_rfl] at h3
theorem aHeights1 (b c : Nat) (W : World) (h1 : W.heap[b]? = some (viewO 50)) (h2 : W.heap[c]? = some (viewO 60)) : Calls Try.prog 13 #[sampleG.v (sampleA b c), .int .i64 (1)] W (Pure (.tuple #[.agg #[.int .i64 (10), .int .i64 (13)], .agg #[.int .i64 (9), .int .i64 (11)], .int .i64 (0)]) W) := by
  have h3 := yHeights_calls sampleG (sampleA b c) (1) W (sample_in h1 h2)
  rwa [show gHeights sampleG 1 = (((10, 13), (9, 11)), 0) by kernel_rfl] at h3
theorem aSank1 (b c : Nat) (W : World) (h1 : W.heap[b]? = some (viewO 50)) (h2 : W.heap[c]? = some (viewO 60)) : Calls Try.prog 15 #[sampleG.v (sampleA b c), .int .i64 (1)] W (Pure (.tuple #[.agg #[.int .i64 (-1), .int .i64 (4)], .int .i64 (0)]) W) := by
  have h3 := ySank_calls sampleG (sampleA b c) (1) W (sample_in h1 h2)
  rwa [show gSank sampleG 1 = ((-1, 4), 0) by kernel_rfl] at h3
theorem aRate1 (b c : Nat) (W : World) (h1 : W.heap[b]? = some (viewO 50)) (h2 : W.heap[c]? = some (viewO 60)) : Calls Try.prog 17 #[sampleG.v (sampleA b c), .int .i64 (1)] W (Pure (.tuple #[.agg #[.int .i64 (-7304), .int .i64 (-3124)], .int .i64 (0)]) W) := by
  have h3 := yRate_calls sampleG (sampleA b c) (1) W (sample_in h1 h2)
  rwa [show gRate sampleG 1 = ((-7304, -3124), 0) by kernel_rfl] at h3
theorem aStays (b c : Nat) (W : World) (h1 : W.heap[b]? = some (viewO 50)) (h2 : W.heap[c]? = some (viewO 60)) : Calls Try.prog 24 #[sampleG.v (sampleA b c)] W (Pure (.tuple #[.int .i64 (1), .int .i64 (1), .int .i64 (0)]) W) := by
  have h3 := yStays_calls sampleG (sampleA b c)  W (sample_in h1 h2)
  rwa [show gStays sampleG = ((1, 1), 0) by kernel_rfl] at h3
theorem aFastest (b c : Nat) (W : World) (h1 : W.heap[b]? = some (viewO 50)) (h2 : W.heap[c]? = some (viewO 60)) : Calls Try.prog 25 #[sampleG.v (sampleA b c)] W (Pure (.tuple #[.int .i64 (2), .int .i64 (0)]) W) := by
  have h3 := yFastest_calls sampleG (sampleA b c)  W (sample_in h1 h2)
  rwa [show gFastest sampleG = (2, 0) by kernel_rfl] at h3
theorem aAlike900 (b c : Nat) (W : World) (h1 : W.heap[b]? = some (viewO 50)) (h2 : W.heap[c]? = some (viewO 60)) : Calls Try.prog 20 #[sampleG.v (sampleA b c), .int .i64 (900)] W (Pure (.tuple #[.int .i64 (3), .int .i64 (0)]) W) := by
  have h3 := yAlike_calls sampleG (sampleA b c) (900) W (sample_in h1 h2)
  rwa [show gAlike sampleG 900 = (3, 0) by kernel_rfl] at h3
theorem aArrives18 (b c : Nat) (W : World) (h1 : W.heap[b]? = some (viewO 50)) (h2 : W.heap[c]? = some (viewO 60)) : Calls Try.prog 21 #[sampleG.v (sampleA b c), .int .i64 (1), .int .i64 (8000)] W (Pure (.tuple #[.int .i64 (212), .int .i64 (286), .int .i64 (0)]) W) := by
  have h3 := yArrives_calls sampleG (sampleA b c) (1) (8000) W (sample_in h1 h2)
  rwa [show gArrives sampleG 1 8000 = ((212, 286), 0) by kernel_rfl] at h3
theorem aMoved0 (b c : Nat) (W : World) (h1 : W.heap[b]? = some (viewO 50)) (h2 : W.heap[c]? = some (viewO 60)) : Calls Try.prog 11 #[sampleG.v (sampleA b c), .int .i64 (0)] W (Pure (.tuple #[.agg #[.int .i64 (0), .int .i64 (0)], .int .i64 (0)]) W) := by
  have h3 := yMoved_calls sampleG (sampleA b c) (0) W (sample_in h1 h2)
  rwa [show gMoved sampleG 0 = ((0, 0), 0) by kernel_rfl] at h3
theorem aMoved2 (b c : Nat) (W : World) (h1 : W.heap[b]? = some (viewO 50)) (h2 : W.heap[c]? = some (viewO 60)) : Calls Try.prog 11 #[sampleG.v (sampleA b c), .int .i64 (2)] W (Pure (.tuple #[.agg #[.int .i64 (0), .int .i64 (0)], .int .i64 (11)]) W) := by
  have h3 := yMoved_calls sampleG (sampleA b c) (2) W (sample_in h1 h2)
  rwa [show gMoved sampleG 2 = ((0, 0), 11) by kernel_rfl] at h3
theorem aAlike0 (b c : Nat) (W : World) (h1 : W.heap[b]? = some (viewO 50)) (h2 : W.heap[c]? = some (viewO 60)) : Calls Try.prog 20 #[sampleG.v (sampleA b c), .int .i64 (0)] W (Pure (.tuple #[.int .i64 (1), .int .i64 (0)]) W) := by
  have h3 := yAlike_calls sampleG (sampleA b c) (0) W (sample_in h1 h2)
  rwa [show gAlike sampleG 0 = (1, 0) by kernel_rfl] at h3
theorem aArrives19 (b c : Nat) (W : World) (h1 : W.heap[b]? = some (viewO 50)) (h2 : W.heap[c]? = some (viewO 60)) : Calls Try.prog 21 #[sampleG.v (sampleA b c), .int .i64 (1), .int .i64 (9000)] W (Pure (.tuple #[.int .i64 (200), .int .i64 (200), .int .i64 (0)]) W) := by
  have h3 := yArrives_calls sampleG (sampleA b c) (1) (9000) W (sample_in h1 h2)
  rwa [show gArrives sampleG 1 9000 = ((200, 200), 0) by kernel_rfl] at h3
theorem aArrives0 (b c : Nat) (W : World) (h1 : W.heap[b]? = some (viewO 50)) (h2 : W.heap[c]? = some (viewO 60)) : Calls Try.prog 21 #[sampleG.v (sampleA b c), .int .i64 (0), .int .i64 (2999)] W (Pure (.tuple #[.int .i64 (0), .int .i64 (0), .int .i64 (4)]) W) := by
  have h3 := yArrives_calls sampleG (sampleA b c) (0) (2999) W (sample_in h1 h2)
  rwa [show gArrives sampleG 0 2999 = ((0, 0), 4) by kernel_rfl] at h3
theorem alive_calls (W : World) : Calls Try.prog 10 #[] W (Pure (.bool true) W) := by
  refine calls_start Try.func10 rfl rfl ?_
  refine RunC.seq ?_
  refine RunC.region ?_
  refine RunL.val (Val.pure rfl) rfl rfl rfl ?_
  refine RunL.nil ?_
  refine RunE.next ?_
  refine RunC.seq ?_
  refine RunC.region ?_
  refine RunL.callN (isCall_func rfl ent_19) rfl rfl rfl (fun w hm => sample5_calls w) (fun b21 => ?_)
  refine RunL.callP (isCall_func rfl ent_11) rfl rfl rfl (fun w hm => aMoved1 b21.1 b21.2 w (hm.at (.head _)) (hm.at (.tail _ (.head _)))) ?_
  iterate 3 refine RunL.val (Val.pure rfl) rfl rfl rfl ?_
  refine RunL.new (New.alloc zero_23) rfl rfl rfl (fun b1 => ?_)
  refine RunL.sto (Sto.store rfl rfl .here ty_23 rfl rfl) rfl rfl ?_
  refine RunL.val (Val.pure rfl) rfl rfl rfl ?_
  refine RunL.nil ?_
  refine RunE.next ?_
  refine RunC.seq ?_
  refine RunC.region ?_
  refine RunL.callN (isCall_func rfl ent_19) rfl rfl rfl (fun w hm => sample5_calls w) (fun b26 => ?_)
  refine RunL.callP (isCall_func rfl ent_13) rfl rfl rfl (fun w hm => aHeights1 b26.1 b26.2 w (hm.at (.head _)) (hm.at (.tail _ (.head _)))) ?_
  iterate 4 refine RunL.val (Val.pure rfl) rfl rfl rfl ?_
  refine RunL.new (New.alloc zero_23) rfl rfl rfl (fun b3 => ?_)
  refine RunL.new (New.alloc zero_23) rfl rfl rfl (fun b4 => ?_)
  refine RunL.sto (Sto.store rfl rfl (.there .here) ty_23 rfl rfl) rfl rfl ?_
  refine RunL.sto (Sto.store rfl rfl .here ty_23 rfl rfl) rfl rfl ?_
  refine RunL.val (Val.pure rfl) rfl rfl rfl ?_
  refine RunL.nil ?_
  refine RunE.next ?_
  refine RunC.seq ?_
  refine RunC.region ?_
  refine RunL.callN (isCall_func rfl ent_19) rfl rfl rfl (fun w hm => sample5_calls w) (fun b32 => ?_)
  refine RunL.callP (isCall_func rfl ent_15) rfl rfl rfl (fun w hm => aSank1 b32.1 b32.2 w (hm.at (.head _)) (hm.at (.tail _ (.head _)))) ?_
  iterate 3 refine RunL.val (Val.pure rfl) rfl rfl rfl ?_
  refine RunL.new (New.alloc zero_23) rfl rfl rfl (fun b6 => ?_)
  refine RunL.sto (Sto.store rfl rfl .here ty_23 rfl rfl) rfl rfl ?_
  refine RunL.val (Val.pure rfl) rfl rfl rfl ?_
  refine RunL.nil ?_
  refine RunE.next ?_
  refine RunC.seq ?_
  refine RunC.region ?_
  refine RunL.callN (isCall_func rfl ent_19) rfl rfl rfl (fun w hm => sample5_calls w) (fun b37 => ?_)
  refine RunL.callP (isCall_func rfl ent_17) rfl rfl rfl (fun w hm => aRate1 b37.1 b37.2 w (hm.at (.head _)) (hm.at (.tail _ (.head _)))) ?_
  iterate 3 refine RunL.val (Val.pure rfl) rfl rfl rfl ?_
  refine RunL.new (New.alloc zero_23) rfl rfl rfl (fun b8 => ?_)
  refine RunL.sto (Sto.store rfl rfl .here ty_23 rfl rfl) rfl rfl ?_
  refine RunL.val (Val.pure rfl) rfl rfl rfl ?_
  refine RunL.nil ?_
  refine RunE.next ?_
  refine RunC.seq ?_
  refine RunC.region ?_
  refine RunL.callN (isCall_func rfl ent_19) rfl rfl rfl (fun w hm => sample5_calls w) (fun b42 => ?_)
  refine RunL.callP (isCall_func rfl ent_24) rfl rfl rfl (fun w hm => aStays b42.1 b42.2 w (hm.at (.head _)) (hm.at (.tail _ (.head _)))) ?_
  iterate 7 refine RunL.val (Val.pure rfl) rfl rfl rfl ?_
  refine RunL.nil ?_
  refine RunE.next ?_
  refine RunC.seq ?_
  refine RunC.region ?_
  refine RunL.callN (isCall_func rfl ent_19) rfl rfl rfl (fun w hm => sample5_calls w) (fun b48 => ?_)
  refine RunL.callP (isCall_func rfl ent_25) rfl rfl rfl (fun w hm => aFastest b48.1 b48.2 w (hm.at (.head _)) (hm.at (.tail _ (.head _)))) ?_
  iterate 5 refine RunL.val (Val.pure rfl) rfl rfl rfl ?_
  refine RunL.nil ?_
  refine RunE.next ?_
  refine RunC.seq ?_
  refine RunC.region ?_
  refine RunL.callN (isCall_func rfl ent_19) rfl rfl rfl (fun w hm => sample5_calls w) (fun b53 => ?_)
  refine RunL.callP (isCall_func rfl ent_20) rfl rfl rfl (fun w hm => aAlike900 b53.1 b53.2 w (hm.at (.head _)) (hm.at (.tail _ (.head _)))) ?_
  iterate 5 refine RunL.val (Val.pure rfl) rfl rfl rfl ?_
  refine RunL.nil ?_
  refine RunE.next ?_
  refine RunC.seq ?_
  refine RunC.region ?_
  refine RunL.callN (isCall_func rfl ent_19) rfl rfl rfl (fun w hm => sample5_calls w) (fun b58 => ?_)
  refine RunL.callP (isCall_func rfl ent_21) rfl rfl rfl (fun w hm => aArrives18 b58.1 b58.2 w (hm.at (.head _)) (hm.at (.tail _ (.head _)))) ?_
  iterate 7 refine RunL.val (Val.pure rfl) rfl rfl rfl ?_
  refine RunL.nil ?_
  refine RunE.next ?_
  refine RunC.seq ?_
  refine RunC.seq ?_
  refine RunC.draw 24 fol_ (.cons .here rfl (.cons .here rfl (.cons .here rfl (.cons .here rfl (.cons .here rfl (.cons .here rfl (.cons .here rfl (.cons .here rfl (.cons .here rfl (.cons .here rfl (.cons .here rfl (.cons .here rfl (.cons .here rfl (.cons .here rfl (.cons .here rfl (.cons .here rfl (.cons .here rfl (.cons .here rfl (.cons .here rfl (.cons .here rfl (.cons .here rfl .nil))))))))))))))))))))) ?_
  refine RunA.val (i := 0) rfl (by kernel_rfl) (by kernel_rfl) (Val.load_agg rfl (.tail _ (.tail _ (.tail _ (.tail _ (.tail _ (.tail _ (.tail _ (.tail _ (.tail _ (.tail _ (.tail _ (.tail _ (.tail _ (.tail _ (.tail _ (.tail _ (.tail _ (.tail _ (.head _))))))))))))))))))) ty_23 rfl) rfl rfl rfl (fun _ _ _ h => h) (.cons .here rfl (.cons .here rfl (.cons .here rfl (.cons .here rfl (.cons .here rfl (.cons .here rfl (.cons .here rfl (.cons .here rfl (.cons .here rfl (.cons .here rfl (.cons .here rfl (.cons .here rfl (.cons .here rfl (.cons .here rfl (.cons .here rfl (.cons .here rfl (.cons .here rfl (.cons .here rfl (.cons .here rfl (.cons .here rfl (.cons .here rfl .nil))))))))))))))))))))) rfl ?_
  refine RunA.one (i := 1) (by kernel_rfl) (by kernel_rfl) ?_
  refine RunI.callP rfl (isCall_func rfl ent_22) rfl rfl rfl (fun w hm => lspan5_calls _ _ w) (RunK.toA (.cons .here rfl (.cons .here rfl (.cons .here rfl (.cons .here rfl (.cons .here rfl (.cons .here rfl (.cons .here rfl (.cons .here rfl (.cons .here rfl (.cons .here rfl (.cons .here rfl (.cons .here rfl (.cons .here rfl (.cons .here rfl (.cons .here rfl (.cons .here rfl (.cons .here rfl (.cons .here rfl (.cons .here rfl (.cons .here rfl (.cons .here rfl .nil))))))))))))))))))))) (.cons .here rfl (.cons .here rfl (.cons .here rfl (.cons .here rfl (.cons .here rfl (.cons .here rfl (.cons .here rfl (.cons .here rfl (.cons .here rfl (.cons .here rfl (.cons .here rfl (.cons .here rfl (.cons .here rfl (.cons .here rfl (.cons .here rfl (.cons .here rfl (.cons .here rfl (.cons .here rfl (.cons .here rfl (.cons .here rfl (.cons .here rfl .nil))))))))))))))))))))) rfl ?_)
  refine RunA.val (i := 2) rfl (by kernel_rfl) (by kernel_rfl) (Val.neq_pair rfl rfl pair_23) rfl rfl rfl (fun _ _ _ h => h) (.cons .here rfl (.cons .here rfl (.cons .here rfl (.cons .here rfl (.cons .here rfl (.cons .here rfl (.cons .here rfl (.cons .here rfl (.cons .here rfl (.cons .here rfl (.cons .here rfl (.cons .here rfl (.cons .here rfl (.cons .here rfl (.cons .here rfl (.cons .here rfl (.cons .here rfl (.cons .here rfl (.cons .here rfl (.cons .here rfl (.cons .here rfl .nil))))))))))))))))))))) rfl ?_
  refine RunA.val (i := 3) rfl (by kernel_rfl) (by kernel_rfl) (Val.pure rfl) rfl rfl rfl (fun _ _ _ h => h) (.cons .here rfl (.cons .here rfl (.cons .here rfl (.cons .here rfl (.cons .here rfl (.cons .here rfl (.cons .here rfl (.cons .here rfl (.cons .here rfl (.cons .here rfl (.cons .here rfl (.cons .here rfl (.cons .here rfl (.cons .here rfl (.cons .here rfl (.cons .here rfl (.cons .here rfl (.cons .here rfl (.cons .here rfl (.cons .here rfl (.cons .here rfl .nil))))))))))))))))))))) rfl ?_
  refine RunA.sure (dj := 66) false rfl (by simp) ?_
  refine RunA.val (i := 4) rfl (by kernel_rfl) (by kernel_rfl) (Val.pure rfl) rfl rfl rfl (fun _ _ _ h => h) (.cons .here rfl (.cons .here rfl (.cons .here rfl (.cons .here rfl (.cons .here rfl (.cons .here rfl (.cons .here rfl (.cons .here rfl (.cons .here rfl (.cons .here rfl (.cons .here rfl (.cons .here rfl (.cons .here rfl (.cons .here rfl (.cons .here rfl (.cons .here rfl (.cons .here rfl (.cons .here rfl (.cons .here rfl (.cons .here rfl (.cons .here rfl .nil))))))))))))))))))))) rfl ?_
  refine RunA.val (i := 5) rfl (by kernel_rfl) (by kernel_rfl) (Val.pure rfl) rfl rfl rfl (fun _ _ _ h => h) (.cons .here rfl (.cons .here rfl (.cons .here rfl (.cons .here rfl (.cons .here rfl (.cons .here rfl (.cons .here rfl (.cons .here rfl (.cons .here rfl (.cons .here rfl (.cons .here rfl (.cons .here rfl (.cons .here rfl (.cons .here rfl (.cons .here rfl (.cons .here rfl (.cons .here rfl (.cons .here rfl (.cons .here rfl (.cons .here rfl (.cons .here rfl .nil))))))))))))))))))))) rfl ?_
  refine RunA.val (i := 6) rfl (by kernel_rfl) (by kernel_rfl) (Val.pure rfl) rfl rfl rfl (fun _ _ _ h => h) (.cons .here rfl (.cons .here rfl (.cons .here rfl (.cons .here rfl (.cons .here rfl (.cons .here rfl (.cons .here rfl (.cons .here rfl (.cons .here rfl (.cons .here rfl (.cons .here rfl (.cons .here rfl (.cons .here rfl (.cons .here rfl (.cons .here rfl (.cons .here rfl (.cons .here rfl (.cons .here rfl (.cons .here rfl (.cons .here rfl (.cons .here rfl .nil))))))))))))))))))))) rfl ?_
  refine RunA.val (i := 7) rfl (by kernel_rfl) (by kernel_rfl) (Val.pure rfl) rfl rfl rfl (fun _ _ _ h => h) (.cons .here rfl (.cons .here rfl (.cons .here rfl (.cons .here rfl (.cons .here rfl (.cons .here rfl (.cons .here rfl (.cons .here rfl (.cons .here rfl (.cons .here rfl (.cons .here rfl (.cons .here rfl (.cons .here rfl (.cons .here rfl (.cons .here rfl (.cons .here rfl (.cons .here rfl (.cons .here rfl (.cons .here rfl (.cons .here rfl (.cons .here rfl .nil))))))))))))))))))))) rfl ?_
  refine RunA.sure (dj := 70) false rfl (by simp) ?_
  refine RunA.val (i := 8) rfl (by kernel_rfl) (by kernel_rfl) (Val.load_agg rfl (.tail _ (.tail _ (.tail _ (.tail _ (.tail _ (.tail _ (.tail _ (.tail _ (.tail _ (.tail _ (.tail _ (.tail _ (.tail _ (.tail _ (.tail _ (.head _)))))))))))))))) ty_23 rfl) rfl rfl rfl (fun _ _ _ h => h) (.cons .here rfl (.cons .here rfl (.cons .here rfl (.cons .here rfl (.cons .here rfl (.cons .here rfl (.cons .here rfl (.cons .here rfl (.cons .here rfl (.cons .here rfl (.cons .here rfl (.cons .here rfl (.cons .here rfl (.cons .here rfl (.cons .here rfl (.cons .here rfl (.cons .here rfl (.cons .here rfl (.cons .here rfl (.cons .here rfl (.cons .here rfl .nil))))))))))))))))))))) rfl ?_
  refine RunA.one (i := 9) (by kernel_rfl) (by kernel_rfl) ?_
  refine RunI.callP rfl (isCall_func rfl ent_22) rfl rfl rfl (fun w hm => lspan5_calls _ _ w) (RunK.toA (.cons .here rfl (.cons .here rfl (.cons .here rfl (.cons .here rfl (.cons .here rfl (.cons .here rfl (.cons .here rfl (.cons .here rfl (.cons .here rfl (.cons .here rfl (.cons .here rfl (.cons .here rfl (.cons .here rfl (.cons .here rfl (.cons .here rfl (.cons .here rfl (.cons .here rfl (.cons .here rfl (.cons .here rfl (.cons .here rfl (.cons .here rfl .nil))))))))))))))))))))) (.cons .here rfl (.cons .here rfl (.cons .here rfl (.cons .here rfl (.cons .here rfl (.cons .here rfl (.cons .here rfl (.cons .here rfl (.cons .here rfl (.cons .here rfl (.cons .here rfl (.cons .here rfl (.cons .here rfl (.cons .here rfl (.cons .here rfl (.cons .here rfl (.cons .here rfl (.cons .here rfl (.cons .here rfl (.cons .here rfl (.cons .here rfl .nil))))))))))))))))))))) rfl ?_)
  refine RunA.val (i := 10) rfl (by kernel_rfl) (by kernel_rfl) (Val.neq_pair rfl rfl pair_23) rfl rfl rfl (fun _ _ _ h => h) (.cons .here rfl (.cons .here rfl (.cons .here rfl (.cons .here rfl (.cons .here rfl (.cons .here rfl (.cons .here rfl (.cons .here rfl (.cons .here rfl (.cons .here rfl (.cons .here rfl (.cons .here rfl (.cons .here rfl (.cons .here rfl (.cons .here rfl (.cons .here rfl (.cons .here rfl (.cons .here rfl (.cons .here rfl (.cons .here rfl (.cons .here rfl .nil))))))))))))))))))))) rfl ?_
  refine RunA.val (i := 11) rfl (by kernel_rfl) (by kernel_rfl) (Val.pure rfl) rfl rfl rfl (fun _ _ _ h => h) (.cons .here rfl (.cons .here rfl (.cons .here rfl (.cons .here rfl (.cons .here rfl (.cons .here rfl (.cons .here rfl (.cons .here rfl (.cons .here rfl (.cons .here rfl (.cons .here rfl (.cons .here rfl (.cons .here rfl (.cons .here rfl (.cons .here rfl (.cons .here rfl (.cons .here rfl (.cons .here rfl (.cons .here rfl (.cons .here rfl (.cons .here rfl .nil))))))))))))))))))))) rfl ?_
  refine RunA.val (i := 12) rfl (by kernel_rfl) (by kernel_rfl) (Val.pure rfl) rfl rfl rfl (fun _ _ _ h => h) (.cons .here rfl (.cons .here rfl (.cons .here rfl (.cons .here rfl (.cons .here rfl (.cons .here rfl (.cons .here rfl (.cons .here rfl (.cons .here rfl (.cons .here rfl (.cons .here rfl (.cons .here rfl (.cons .here rfl (.cons .here rfl (.cons .here rfl (.cons .here rfl (.cons .here rfl (.cons .here rfl (.cons .here rfl (.cons .here rfl (.cons .here rfl .nil))))))))))))))))))))) rfl ?_
  refine RunA.sure (dj := 75) false rfl (by simp) ?_
  refine RunA.val (i := 13) rfl (by kernel_rfl) (by kernel_rfl) (Val.load_agg rfl (.tail _ (.tail _ (.tail _ (.tail _ (.tail _ (.tail _ (.tail _ (.tail _ (.tail _ (.tail _ (.tail _ (.tail _ (.tail _ (.tail _ (.head _))))))))))))))) ty_23 rfl) rfl rfl rfl (fun _ _ _ h => h) (.cons .here rfl (.cons .here rfl (.cons .here rfl (.cons .here rfl (.cons .here rfl (.cons .here rfl (.cons .here rfl (.cons .here rfl (.cons .here rfl (.cons .here rfl (.cons .here rfl (.cons .here rfl (.cons .here rfl (.cons .here rfl (.cons .here rfl (.cons .here rfl (.cons .here rfl (.cons .here rfl (.cons .here rfl (.cons .here rfl (.cons .here rfl .nil))))))))))))))))))))) rfl ?_
  refine RunA.one (i := 14) (by kernel_rfl) (by kernel_rfl) ?_
  refine RunI.callP rfl (isCall_func rfl ent_22) rfl rfl rfl (fun w hm => lspan5_calls _ _ w) (RunK.toA (.cons .here rfl (.cons .here rfl (.cons .here rfl (.cons .here rfl (.cons .here rfl (.cons .here rfl (.cons .here rfl (.cons .here rfl (.cons .here rfl (.cons .here rfl (.cons .here rfl (.cons .here rfl (.cons .here rfl (.cons .here rfl (.cons .here rfl (.cons .here rfl (.cons .here rfl (.cons .here rfl (.cons .here rfl (.cons .here rfl (.cons .here rfl .nil))))))))))))))))))))) (.cons .here rfl (.cons .here rfl (.cons .here rfl (.cons .here rfl (.cons .here rfl (.cons .here rfl (.cons .here rfl (.cons .here rfl (.cons .here rfl (.cons .here rfl (.cons .here rfl (.cons .here rfl (.cons .here rfl (.cons .here rfl (.cons .here rfl (.cons .here rfl (.cons .here rfl (.cons .here rfl (.cons .here rfl (.cons .here rfl (.cons .here rfl .nil))))))))))))))))))))) rfl ?_)
  refine RunA.val (i := 15) rfl (by kernel_rfl) (by kernel_rfl) (Val.neq_pair rfl rfl pair_23) rfl rfl rfl (fun _ _ _ h => h) (.cons .here rfl (.cons .here rfl (.cons .here rfl (.cons .here rfl (.cons .here rfl (.cons .here rfl (.cons .here rfl (.cons .here rfl (.cons .here rfl (.cons .here rfl (.cons .here rfl (.cons .here rfl (.cons .here rfl (.cons .here rfl (.cons .here rfl (.cons .here rfl (.cons .here rfl (.cons .here rfl (.cons .here rfl (.cons .here rfl (.cons .here rfl .nil))))))))))))))))))))) rfl ?_
  refine RunA.val (i := 16) rfl (by kernel_rfl) (by kernel_rfl) (Val.pure rfl) rfl rfl rfl (fun _ _ _ h => h) (.cons .here rfl (.cons .here rfl (.cons .here rfl (.cons .here rfl (.cons .here rfl (.cons .here rfl (.cons .here rfl (.cons .here rfl (.cons .here rfl (.cons .here rfl (.cons .here rfl (.cons .here rfl (.cons .here rfl (.cons .here rfl (.cons .here rfl (.cons .here rfl (.cons .here rfl (.cons .here rfl (.cons .here rfl (.cons .here rfl (.cons .here rfl .nil))))))))))))))))))))) rfl ?_
  refine RunA.val (i := 17) rfl (by kernel_rfl) (by kernel_rfl) (Val.pure rfl) rfl rfl rfl (fun _ _ _ h => h) (.cons .here rfl (.cons .here rfl (.cons .here rfl (.cons .here rfl (.cons .here rfl (.cons .here rfl (.cons .here rfl (.cons .here rfl (.cons .here rfl (.cons .here rfl (.cons .here rfl (.cons .here rfl (.cons .here rfl (.cons .here rfl (.cons .here rfl (.cons .here rfl (.cons .here rfl (.cons .here rfl (.cons .here rfl (.cons .here rfl (.cons .here rfl .nil))))))))))))))))))))) rfl ?_
  refine RunA.sure (dj := 80) false rfl (by simp) ?_
  refine RunA.val (i := 18) rfl (by kernel_rfl) (by kernel_rfl) (Val.pure rfl) rfl rfl rfl (fun _ _ _ h => h) (.cons .here rfl (.cons .here rfl (.cons .here rfl (.cons .here rfl (.cons .here rfl (.cons .here rfl (.cons .here rfl (.cons .here rfl (.cons .here rfl (.cons .here rfl (.cons .here rfl (.cons .here rfl (.cons .here rfl (.cons .here rfl (.cons .here rfl (.cons .here rfl (.cons .here rfl (.cons .here rfl (.cons .here rfl (.cons .here rfl (.cons .here rfl .nil))))))))))))))))))))) rfl ?_
  refine RunA.val (i := 19) rfl (by kernel_rfl) (by kernel_rfl) (Val.pure rfl) rfl rfl rfl (fun _ _ _ h => h) (.cons .here rfl (.cons .here rfl (.cons .here rfl (.cons .here rfl (.cons .here rfl (.cons .here rfl (.cons .here rfl (.cons .here rfl (.cons .here rfl (.cons .here rfl (.cons .here rfl (.cons .here rfl (.cons .here rfl (.cons .here rfl (.cons .here rfl (.cons .here rfl (.cons .here rfl (.cons .here rfl (.cons .here rfl (.cons .here rfl (.cons .here rfl .nil))))))))))))))))))))) rfl ?_
  refine RunA.val (i := 20) rfl (by kernel_rfl) (by kernel_rfl) (Val.pure rfl) rfl rfl rfl (fun _ _ _ h => h) (.cons .here rfl (.cons .here rfl (.cons .here rfl (.cons .here rfl (.cons .here rfl (.cons .here rfl (.cons .here rfl (.cons .here rfl (.cons .here rfl (.cons .here rfl (.cons .here rfl (.cons .here rfl (.cons .here rfl (.cons .here rfl (.cons .here rfl (.cons .here rfl (.cons .here rfl (.cons .here rfl (.cons .here rfl (.cons .here rfl (.cons .here rfl .nil))))))))))))))))))))) rfl ?_
  refine RunA.val (i := 21) rfl (by kernel_rfl) (by kernel_rfl) (Val.pure rfl) rfl rfl rfl (fun _ _ _ h => h) (.cons .here rfl (.cons .here rfl (.cons .here rfl (.cons .here rfl (.cons .here rfl (.cons .here rfl (.cons .here rfl (.cons .here rfl (.cons .here rfl (.cons .here rfl (.cons .here rfl (.cons .here rfl (.cons .here rfl (.cons .here rfl (.cons .here rfl (.cons .here rfl (.cons .here rfl (.cons .here rfl (.cons .here rfl (.cons .here rfl (.cons .here rfl .nil))))))))))))))))))))) rfl ?_
  refine RunA.sure (dj := 84) false rfl (by simp) ?_
  refine RunA.val (i := 22) rfl (by kernel_rfl) (by kernel_rfl) (Val.load_agg rfl (.tail _ (.tail _ (.tail _ (.tail _ (.tail _ (.tail _ (.tail _ (.tail _ (.tail _ (.tail _ (.tail _ (.head _)))))))))))) ty_23 rfl) rfl rfl rfl (fun _ _ _ h => h) (.cons .here rfl (.cons .here rfl (.cons .here rfl (.cons .here rfl (.cons .here rfl (.cons .here rfl (.cons .here rfl (.cons .here rfl (.cons .here rfl (.cons .here rfl (.cons .here rfl (.cons .here rfl (.cons .here rfl (.cons .here rfl (.cons .here rfl (.cons .here rfl (.cons .here rfl (.cons .here rfl (.cons .here rfl (.cons .here rfl (.cons .here rfl .nil))))))))))))))))))))) rfl ?_
  refine RunA.one (i := 23) (by kernel_rfl) (by kernel_rfl) ?_
  refine RunI.callP rfl (isCall_func rfl ent_22) rfl rfl rfl (fun w hm => lspan5_calls _ _ w) (RunK.toA (.cons .here rfl (.cons .here rfl (.cons .here rfl (.cons .here rfl (.cons .here rfl (.cons .here rfl (.cons .here rfl (.cons .here rfl (.cons .here rfl (.cons .here rfl (.cons .here rfl (.cons .here rfl (.cons .here rfl (.cons .here rfl (.cons .here rfl (.cons .here rfl (.cons .here rfl (.cons .here rfl (.cons .here rfl (.cons .here rfl (.cons .here rfl .nil))))))))))))))))))))) (.cons .here rfl (.cons .here rfl (.cons .here rfl (.cons .here rfl (.cons .here rfl (.cons .here rfl (.cons .here rfl (.cons .here rfl (.cons .here rfl (.cons .here rfl (.cons .here rfl (.cons .here rfl (.cons .here rfl (.cons .here rfl (.cons .here rfl (.cons .here rfl (.cons .here rfl (.cons .here rfl (.cons .here rfl (.cons .here rfl (.cons .here rfl .nil))))))))))))))))))))) rfl ?_)
  refine RunA.toB (by kernel_rfl) ?_
  refine RunB.one (i := 24) (by kernel_rfl) ?_
  refine RunI.val rfl (Val.neq_pair rfl rfl pair_23) rfl rfl rfl (RunK.toB ?_)
  refine RunB.one (i := 25) (by kernel_rfl) ?_
  refine RunI.val rfl (Val.pure rfl) rfl rfl rfl (RunK.toB ?_)
  refine RunB.one (i := 26) (by kernel_rfl) ?_
  refine RunI.val rfl (Val.pure rfl) rfl rfl rfl (RunK.toB ?_)
  refine RunB.sure (dj := 89) false rfl (by simp) ?_
  refine RunB.one (i := 27) (by kernel_rfl) ?_
  refine RunI.val rfl (Val.pure rfl) rfl rfl rfl (RunK.toB ?_)
  refine RunB.one (i := 28) (by kernel_rfl) ?_
  refine RunI.val rfl (Val.pure rfl) rfl rfl rfl (RunK.toB ?_)
  refine RunB.one (i := 29) (by kernel_rfl) ?_
  refine RunI.val rfl (Val.pure rfl) rfl rfl rfl (RunK.toB ?_)
  refine RunB.done (by kernel_rfl) ?_
  refine RunE.next ?_
  refine RunC.cond rfl (fun h => absurd h (by simp)) ?_
  intro c0
  clear c0
  refine RunC.skip ?_
  refine RunE.next ?_
  refine RunC.seq ?_
  refine RunC.draw 2 fol_ (.cons .here rfl (.cons .here rfl (.cons .here rfl (.cons .here rfl (.cons .here rfl (.cons .here rfl (.cons .here rfl (.cons .here rfl (.cons .here rfl (.cons .here rfl (.cons .here rfl (.cons .here rfl (.cons .here rfl (.cons .here rfl (.cons .here rfl (.cons .here rfl (.cons .here rfl (.cons .here rfl (.cons .here rfl (.cons .here rfl (.cons .here rfl .nil))))))))))))))))))))) ?_
  refine RunA.val (i := 0) rfl (by kernel_rfl) (by kernel_rfl) (Val.load_agg rfl (.tail _ (.tail _ (.tail _ (.tail _ (.tail _ (.tail _ (.tail _ (.tail _ (.head _))))))))) ty_23 rfl) rfl rfl rfl (fun _ _ _ h => h) (.cons .here rfl (.cons .here rfl (.cons .here rfl (.cons .here rfl (.cons .here rfl (.cons .here rfl (.cons .here rfl (.cons .here rfl (.cons .here rfl (.cons .here rfl (.cons .here rfl (.cons .here rfl (.cons .here rfl (.cons .here rfl (.cons .here rfl (.cons .here rfl (.cons .here rfl (.cons .here rfl (.cons .here rfl (.cons .here rfl (.cons .here rfl .nil))))))))))))))))))))) rfl ?_
  refine RunA.one (i := 1) (by kernel_rfl) (by kernel_rfl) ?_
  refine RunI.callP rfl (isCall_func rfl ent_22) rfl rfl rfl (fun w hm => lspan5_calls _ _ w) (RunK.toA (.cons .here rfl (.cons .here rfl (.cons .here rfl (.cons .here rfl (.cons .here rfl (.cons .here rfl (.cons .here rfl (.cons .here rfl (.cons .here rfl (.cons .here rfl (.cons .here rfl (.cons .here rfl (.cons .here rfl (.cons .here rfl (.cons .here rfl (.cons .here rfl (.cons .here rfl (.cons .here rfl (.cons .here rfl (.cons .here rfl (.cons .here rfl .nil))))))))))))))))))))) (.cons .here rfl (.cons .here rfl (.cons .here rfl (.cons .here rfl (.cons .here rfl (.cons .here rfl (.cons .here rfl (.cons .here rfl (.cons .here rfl (.cons .here rfl (.cons .here rfl (.cons .here rfl (.cons .here rfl (.cons .here rfl (.cons .here rfl (.cons .here rfl (.cons .here rfl (.cons .here rfl (.cons .here rfl (.cons .here rfl (.cons .here rfl .nil))))))))))))))))))))) rfl ?_)
  refine RunA.toB (by kernel_rfl) ?_
  refine RunB.one (i := 2) (by kernel_rfl) ?_
  refine RunI.val rfl (Val.eql_pair rfl rfl pair_23) rfl rfl rfl (RunK.toB ?_)
  refine RunB.one (i := 3) (by kernel_rfl) ?_
  refine RunI.val rfl (Val.pure rfl) rfl rfl rfl (RunK.toB ?_)
  refine RunB.sure (dj := 96) true rfl (by simp) ?_
  refine RunB.one (i := 4) (by kernel_rfl) ?_
  refine RunI.val rfl (Val.pure rfl) rfl rfl rfl (RunK.toB ?_)
  refine RunB.one (i := 5) (by kernel_rfl) ?_
  refine RunI.val rfl (Val.pure rfl) rfl rfl rfl (RunK.toB ?_)
  refine RunB.one (i := 6) (by kernel_rfl) ?_
  refine RunI.val rfl (Val.pure rfl) rfl rfl rfl (RunK.toB ?_)
  refine RunB.one (i := 7) (by kernel_rfl) ?_
  refine RunI.val rfl (Val.pure rfl) rfl rfl rfl (RunK.toB ?_)
  refine RunB.sure (dj := 100) true rfl (by simp) ?_
  refine RunB.one (i := 8) (by kernel_rfl) ?_
  refine RunI.val rfl (Val.pure rfl) rfl rfl rfl (RunK.toB ?_)
  refine RunB.one (i := 9) (by kernel_rfl) ?_
  refine RunI.val rfl (Val.pure rfl) rfl rfl rfl (RunK.toB ?_)
  refine RunB.one (i := 10) (by kernel_rfl) ?_
  refine RunI.val rfl (Val.pure rfl) rfl rfl rfl (RunK.toB ?_)
  refine RunB.one (i := 11) (by kernel_rfl) ?_
  refine RunI.val rfl (Val.pure rfl) rfl rfl rfl (RunK.toB ?_)
  refine RunB.sure (dj := 104) true rfl (by simp) ?_
  refine RunB.one (i := 12) (by kernel_rfl) ?_
  refine RunI.val rfl (Val.pure rfl) rfl rfl rfl (RunK.toB ?_)
  refine RunB.one (i := 13) (by kernel_rfl) ?_
  refine RunI.val rfl (Val.pure rfl) rfl rfl rfl (RunK.toB ?_)
  refine RunB.one (i := 14) (by kernel_rfl) ?_
  refine RunI.val rfl (Val.pure rfl) rfl rfl rfl (RunK.toB ?_)
  refine RunB.one (i := 15) (by kernel_rfl) ?_
  refine RunI.val rfl (Val.pure rfl) rfl rfl rfl (RunK.toB ?_)
  refine RunB.sure (dj := 108) true rfl (by simp) ?_
  refine RunB.one (i := 16) (by kernel_rfl) ?_
  refine RunI.val rfl (Val.pure rfl) rfl rfl rfl (RunK.toB ?_)
  refine RunB.one (i := 17) (by kernel_rfl) ?_
  refine RunI.val rfl (Val.pure rfl) rfl rfl rfl (RunK.toB ?_)
  refine RunB.one (i := 18) (by kernel_rfl) ?_
  refine RunI.val rfl (Val.pure rfl) rfl rfl rfl (RunK.toB ?_)
  refine RunB.one (i := 19) (by kernel_rfl) ?_
  refine RunI.val rfl (Val.pure rfl) rfl rfl rfl (RunK.toB ?_)
  refine RunB.sure (dj := 112) true rfl (by simp) ?_
  refine RunB.one (i := 20) (by kernel_rfl) ?_
  refine RunI.val rfl (Val.pure rfl) rfl rfl rfl (RunK.toB ?_)
  refine RunB.one (i := 21) (by kernel_rfl) ?_
  refine RunI.val rfl (Val.pure rfl) rfl rfl rfl (RunK.toB ?_)
  refine RunB.one (i := 22) (by kernel_rfl) ?_
  refine RunI.val rfl (Val.pure rfl) rfl rfl rfl (RunK.toB ?_)
  refine RunB.one (i := 23) (by kernel_rfl) ?_
  refine RunI.val rfl (Val.pure rfl) rfl rfl rfl (RunK.toB ?_)
  refine RunB.sure (dj := 116) true rfl (by simp) ?_
  refine RunB.one (i := 24) (by kernel_rfl) ?_
  refine RunI.val rfl (Val.pure rfl) rfl rfl rfl (RunK.toB ?_)
  refine RunB.one (i := 25) (by kernel_rfl) ?_
  refine RunI.val rfl (Val.pure rfl) rfl rfl rfl (RunK.toB ?_)
  refine RunB.one (i := 26) (by kernel_rfl) ?_
  refine RunI.val rfl (Val.pure rfl) rfl rfl rfl (RunK.toB ?_)
  refine RunB.one (i := 27) (by kernel_rfl) ?_
  refine RunI.val rfl (Val.pure rfl) rfl rfl rfl (RunK.toB ?_)
  refine RunB.sure (dj := 120) true rfl (by simp) ?_
  refine RunB.one (i := 28) (by kernel_rfl) ?_
  refine RunI.val rfl (Val.pure rfl) rfl rfl rfl (RunK.toB ?_)
  refine RunB.one (i := 29) (by kernel_rfl) ?_
  refine RunI.val rfl (Val.pure rfl) rfl rfl rfl (RunK.toB ?_)
  refine RunB.one (i := 30) (by kernel_rfl) ?_
  refine RunI.val rfl (Val.pure rfl) rfl rfl rfl (RunK.toB ?_)
  refine RunB.one (i := 31) (by kernel_rfl) ?_
  refine RunI.val rfl (Val.pure rfl) rfl rfl rfl (RunK.toB ?_)
  refine RunB.sure (dj := 124) true rfl (by simp) ?_
  refine RunB.one (i := 32) (by kernel_rfl) ?_
  refine RunI.val rfl (Val.pure rfl) rfl rfl rfl (RunK.toB ?_)
  refine RunB.one (i := 33) (by kernel_rfl) ?_
  refine RunI.val rfl (Val.pure rfl) rfl rfl rfl (RunK.toB ?_)
  refine RunB.one (i := 34) (by kernel_rfl) ?_
  refine RunI.val rfl (Val.pure rfl) rfl rfl rfl (RunK.toB ?_)
  refine RunB.one (i := 35) (by kernel_rfl) ?_
  refine RunI.val rfl (Val.pure rfl) rfl rfl rfl (RunK.toB ?_)
  refine RunB.sure (dj := 128) true rfl (by simp) ?_
  refine RunB.one (i := 36) (by kernel_rfl) ?_
  refine RunI.val rfl (Val.pure rfl) rfl rfl rfl (RunK.toB ?_)
  refine RunB.one (i := 37) (by kernel_rfl) ?_
  refine RunI.val rfl (Val.pure rfl) rfl rfl rfl (RunK.toB ?_)
  refine RunB.one (i := 38) (by kernel_rfl) ?_
  refine RunI.val rfl (Val.pure rfl) rfl rfl rfl (RunK.toB ?_)
  refine RunB.one (i := 39) (by kernel_rfl) ?_
  refine RunI.val rfl (Val.pure rfl) rfl rfl rfl (RunK.toB ?_)
  refine RunB.sure (dj := 132) true rfl (by simp) ?_
  refine RunB.one (i := 40) (by kernel_rfl) ?_
  refine RunI.val rfl (Val.pure rfl) rfl rfl rfl (RunK.toB ?_)
  refine RunB.one (i := 41) (by kernel_rfl) ?_
  refine RunI.val rfl (Val.pure rfl) rfl rfl rfl (RunK.toB ?_)
  refine RunB.one (i := 42) (by kernel_rfl) ?_
  refine RunI.val rfl (Val.pure rfl) rfl rfl rfl (RunK.toB ?_)
  refine RunB.one (i := 43) (by kernel_rfl) ?_
  refine RunI.val rfl (Val.pure rfl) rfl rfl rfl (RunK.toB ?_)
  refine RunB.sure (dj := 136) true rfl (by simp) ?_
  refine RunB.one (i := 44) (by kernel_rfl) ?_
  refine RunI.val rfl (Val.pure rfl) rfl rfl rfl (RunK.toB ?_)
  refine RunB.one (i := 45) (by kernel_rfl) ?_
  refine RunI.val rfl (Val.pure rfl) rfl rfl rfl (RunK.toB ?_)
  refine RunB.one (i := 46) (by kernel_rfl) ?_
  refine RunI.val rfl (Val.pure rfl) rfl rfl rfl (RunK.toB ?_)
  refine RunB.one (i := 47) (by kernel_rfl) ?_
  refine RunI.val rfl (Val.pure rfl) rfl rfl rfl (RunK.toB ?_)
  refine RunB.done (by kernel_rfl) ?_
  refine RunE.next ?_
  refine RunC.ret ?_
  exact RunE.retP (.r1 rfl (.tmp rfl)) (by first | rfl | simp)
theorem names_calls (W : World) : Calls Try.prog 4 #[] W (Pure (.bool true) W) := by
  refine calls_start Try.func4 rfl rfl ?_
  refine RunC.seq ?_
  refine RunC.region ?_
  refine RunL.val (Val.pure rfl) rfl rfl rfl ?_
  refine RunL.nil ?_
  refine RunE.next ?_
  refine RunC.seq ?_
  refine RunC.region ?_
  refine RunL.callN (isCall_func rfl ent_19) rfl rfl rfl (fun w hm => sample5_calls w) (fun b14 => ?_)
  refine RunL.callP (isCall_func rfl ent_11) rfl rfl rfl (fun w hm => aMoved0 b14.1 b14.2 w (hm.at (.head _)) (hm.at (.tail _ (.head _)))) ?_
  iterate 3 refine RunL.val (Val.pure rfl) rfl rfl rfl ?_
  refine RunL.new (New.alloc zero_23) rfl rfl rfl (fun b1 => ?_)
  refine RunL.sto (Sto.store rfl rfl .here ty_23 rfl rfl) rfl rfl ?_
  refine RunL.val (Val.pure rfl) rfl rfl rfl ?_
  refine RunL.nil ?_
  refine RunE.next ?_
  refine RunC.seq ?_
  refine RunC.region ?_
  refine RunL.callN (isCall_func rfl ent_19) rfl rfl rfl (fun w hm => sample5_calls w) (fun b19 => ?_)
  refine RunL.callP (isCall_func rfl ent_11) rfl rfl rfl (fun w hm => aMoved2 b19.1 b19.2 w (hm.at (.head _)) (hm.at (.tail _ (.head _)))) ?_
  iterate 3 refine RunL.val (Val.pure rfl) rfl rfl rfl ?_
  refine RunL.new (New.alloc zero_23) rfl rfl rfl (fun b3 => ?_)
  refine RunL.sto (Sto.store rfl rfl .here ty_23 rfl rfl) rfl rfl ?_
  refine RunL.val (Val.pure rfl) rfl rfl rfl ?_
  refine RunL.nil ?_
  refine RunE.next ?_
  refine RunC.seq ?_
  refine RunC.region ?_
  refine RunL.callN (isCall_func rfl ent_19) rfl rfl rfl (fun w hm => sample5_calls w) (fun b24 => ?_)
  refine RunL.callP (isCall_func rfl ent_20) rfl rfl rfl (fun w hm => aAlike0 b24.1 b24.2 w (hm.at (.head _)) (hm.at (.tail _ (.head _)))) ?_
  iterate 5 refine RunL.val (Val.pure rfl) rfl rfl rfl ?_
  refine RunL.nil ?_
  refine RunE.next ?_
  refine RunC.seq ?_
  refine RunC.region ?_
  refine RunL.callN (isCall_func rfl ent_19) rfl rfl rfl (fun w hm => sample5_calls w) (fun b29 => ?_)
  refine RunL.callP (isCall_func rfl ent_21) rfl rfl rfl (fun w hm => aArrives19 b29.1 b29.2 w (hm.at (.head _)) (hm.at (.tail _ (.head _)))) ?_
  iterate 7 refine RunL.val (Val.pure rfl) rfl rfl rfl ?_
  refine RunL.nil ?_
  refine RunE.next ?_
  refine RunC.seq ?_
  refine RunC.region ?_
  refine RunL.callN (isCall_func rfl ent_19) rfl rfl rfl (fun w hm => sample5_calls w) (fun b35 => ?_)
  refine RunL.callP (isCall_func rfl ent_21) rfl rfl rfl (fun w hm => aArrives0 b35.1 b35.2 w (hm.at (.head _)) (hm.at (.tail _ (.head _)))) ?_
  iterate 7 refine RunL.val (Val.pure rfl) rfl rfl rfl ?_
  refine RunL.nil ?_
  refine RunE.next ?_
  refine RunC.seq ?_
  refine RunC.draw 6 fol_ (.cons .here rfl (.cons .here rfl (.cons .here rfl (.cons .here rfl (.cons .here rfl (.cons .here rfl (.cons .here rfl (.cons .here rfl (.cons .here rfl (.cons .here rfl (.cons .here rfl (.cons .here rfl .nil)))))))))))) ?_
  refine RunA.val (i := 0) rfl (by kernel_rfl) (by kernel_rfl) (Val.pure rfl) rfl rfl rfl (fun _ _ _ h => h) (.cons .here rfl (.cons .here rfl (.cons .here rfl (.cons .here rfl (.cons .here rfl (.cons .here rfl (.cons .here rfl (.cons .here rfl (.cons .here rfl (.cons .here rfl (.cons .here rfl (.cons .here rfl .nil)))))))))))) rfl ?_
  refine RunA.sure (dj := 40) true rfl (by simp) ?_
  refine RunA.one (i := 1) (by kernel_rfl) (by kernel_rfl) ?_
  refine RunI.callP rfl (isCall_func rfl ent_10) rfl rfl rfl (fun w hm => alive_calls w) (RunK.toA (.cons .here rfl (.cons .here rfl (.cons .here rfl (.cons .here rfl (.cons .here rfl (.cons .here rfl (.cons .here rfl (.cons .here rfl (.cons .here rfl (.cons .here rfl (.cons .here rfl (.cons .here rfl .nil)))))))))))) (.cons .here rfl (.cons .here rfl (.cons .here rfl (.cons .here rfl (.cons .here rfl (.cons .here rfl (.cons .here rfl (.cons .here rfl (.cons .here rfl (.cons .here rfl (.cons .here rfl (.cons .here rfl .nil)))))))))))) rfl ?_)
  refine RunA.val (i := 2) rfl (by kernel_rfl) (by kernel_rfl) (Val.pure rfl) rfl rfl rfl (fun _ _ _ h => h) (.cons .here rfl (.cons .here rfl (.cons .here rfl (.cons .here rfl (.cons .here rfl (.cons .here rfl (.cons .here rfl (.cons .here rfl (.cons .here rfl (.cons .here rfl (.cons .here rfl (.cons .here rfl .nil)))))))))))) rfl ?_
  refine RunA.val (i := 3) rfl (by kernel_rfl) (by kernel_rfl) (Val.pure rfl) rfl rfl rfl (fun _ _ _ h => h) (.cons .here rfl (.cons .here rfl (.cons .here rfl (.cons .here rfl (.cons .here rfl (.cons .here rfl (.cons .here rfl (.cons .here rfl (.cons .here rfl (.cons .here rfl (.cons .here rfl (.cons .here rfl .nil)))))))))))) rfl ?_
  refine RunA.sure (dj := 43) true rfl (by simp) ?_
  refine RunA.val (i := 4) rfl (by kernel_rfl) (by kernel_rfl) (Val.load_agg rfl (.tail _ (.tail _ (.tail _ (.tail _ (.tail _ (.tail _ (.tail _ (.tail _ (.tail _ (.head _)))))))))) ty_23 rfl) rfl rfl rfl (fun _ _ _ h => h) (.cons .here rfl (.cons .here rfl (.cons .here rfl (.cons .here rfl (.cons .here rfl (.cons .here rfl (.cons .here rfl (.cons .here rfl (.cons .here rfl (.cons .here rfl (.cons .here rfl (.cons .here rfl .nil)))))))))))) rfl ?_
  refine RunA.one (i := 5) (by kernel_rfl) (by kernel_rfl) ?_
  refine RunI.callP rfl (isCall_func rfl ent_22) rfl rfl rfl (fun w hm => lspan5_calls _ _ w) (RunK.toA (.cons .here rfl (.cons .here rfl (.cons .here rfl (.cons .here rfl (.cons .here rfl (.cons .here rfl (.cons .here rfl (.cons .here rfl (.cons .here rfl (.cons .here rfl (.cons .here rfl (.cons .here rfl .nil)))))))))))) (.cons .here rfl (.cons .here rfl (.cons .here rfl (.cons .here rfl (.cons .here rfl (.cons .here rfl (.cons .here rfl (.cons .here rfl (.cons .here rfl (.cons .here rfl (.cons .here rfl (.cons .here rfl .nil)))))))))))) rfl ?_)
  refine RunA.toB (by kernel_rfl) ?_
  refine RunB.one (i := 6) (by kernel_rfl) ?_
  refine RunI.val rfl (Val.eql_pair rfl rfl pair_23) rfl rfl rfl (RunK.toB ?_)
  refine RunB.one (i := 7) (by kernel_rfl) ?_
  refine RunI.val rfl (Val.pure rfl) rfl rfl rfl (RunK.toB ?_)
  refine RunB.one (i := 8) (by kernel_rfl) ?_
  refine RunI.val rfl (Val.pure rfl) rfl rfl rfl (RunK.toB ?_)
  refine RunB.sure (dj := 48) true rfl (by simp) ?_
  refine RunB.one (i := 9) (by kernel_rfl) ?_
  refine RunI.val rfl (Val.pure rfl) rfl rfl rfl (RunK.toB ?_)
  refine RunB.one (i := 10) (by kernel_rfl) ?_
  refine RunI.val rfl (Val.pure rfl) rfl rfl rfl (RunK.toB ?_)
  refine RunB.one (i := 11) (by kernel_rfl) ?_
  refine RunI.val rfl (Val.pure rfl) rfl rfl rfl (RunK.toB ?_)
  refine RunB.one (i := 12) (by kernel_rfl) ?_
  refine RunI.val rfl (Val.pure rfl) rfl rfl rfl (RunK.toB ?_)
  refine RunB.sure (dj := 52) true rfl (by simp) ?_
  refine RunB.one (i := 13) (by kernel_rfl) ?_
  refine RunI.val rfl (Val.pure rfl) rfl rfl rfl (RunK.toB ?_)
  refine RunB.one (i := 14) (by kernel_rfl) ?_
  refine RunI.val rfl (Val.pure rfl) rfl rfl rfl (RunK.toB ?_)
  refine RunB.one (i := 15) (by kernel_rfl) ?_
  refine RunI.val rfl (Val.pure rfl) rfl rfl rfl (RunK.toB ?_)
  refine RunB.one (i := 16) (by kernel_rfl) ?_
  refine RunI.val rfl (Val.pure rfl) rfl rfl rfl (RunK.toB ?_)
  refine RunB.sure (dj := 56) true rfl (by simp) ?_
  refine RunB.one (i := 17) (by kernel_rfl) ?_
  refine RunI.val rfl (Val.pure rfl) rfl rfl rfl (RunK.toB ?_)
  refine RunB.one (i := 18) (by kernel_rfl) ?_
  refine RunI.val rfl (Val.pure rfl) rfl rfl rfl (RunK.toB ?_)
  refine RunB.one (i := 19) (by kernel_rfl) ?_
  refine RunI.val rfl (Val.pure rfl) rfl rfl rfl (RunK.toB ?_)
  refine RunB.one (i := 20) (by kernel_rfl) ?_
  refine RunI.val rfl (Val.pure rfl) rfl rfl rfl (RunK.toB ?_)
  refine RunB.sure (dj := 60) true rfl (by simp) ?_
  refine RunB.one (i := 21) (by kernel_rfl) ?_
  refine RunI.val rfl (Val.pure rfl) rfl rfl rfl (RunK.toB ?_)
  refine RunB.one (i := 22) (by kernel_rfl) ?_
  refine RunI.val rfl (Val.pure rfl) rfl rfl rfl (RunK.toB ?_)
  refine RunB.one (i := 23) (by kernel_rfl) ?_
  refine RunI.val rfl (Val.pure rfl) rfl rfl rfl (RunK.toB ?_)
  refine RunB.one (i := 24) (by kernel_rfl) ?_
  refine RunI.val rfl (Val.pure rfl) rfl rfl rfl (RunK.toB ?_)
  refine RunB.sure (dj := 64) true rfl (by simp) ?_
  refine RunB.one (i := 25) (by kernel_rfl) ?_
  refine RunI.val rfl (Val.pure rfl) rfl rfl rfl (RunK.toB ?_)
  refine RunB.one (i := 26) (by kernel_rfl) ?_
  refine RunI.val rfl (Val.pure rfl) rfl rfl rfl (RunK.toB ?_)
  refine RunB.one (i := 27) (by kernel_rfl) ?_
  refine RunI.val rfl (Val.pure rfl) rfl rfl rfl (RunK.toB ?_)
  refine RunB.one (i := 28) (by kernel_rfl) ?_
  refine RunI.val rfl (Val.pure rfl) rfl rfl rfl (RunK.toB ?_)
  refine RunB.sure (dj := 68) true rfl (by simp) ?_
  refine RunB.one (i := 29) (by kernel_rfl) ?_
  refine RunI.val rfl (Val.pure rfl) rfl rfl rfl (RunK.toB ?_)
  refine RunB.one (i := 30) (by kernel_rfl) ?_
  refine RunI.val rfl (Val.pure rfl) rfl rfl rfl (RunK.toB ?_)
  refine RunB.one (i := 31) (by kernel_rfl) ?_
  refine RunI.val rfl (Val.pure rfl) rfl rfl rfl (RunK.toB ?_)
  refine RunB.one (i := 32) (by kernel_rfl) ?_
  refine RunI.val rfl (Val.pure rfl) rfl rfl rfl (RunK.toB ?_)
  refine RunB.sure (dj := 72) true rfl (by simp) ?_
  refine RunB.one (i := 33) (by kernel_rfl) ?_
  refine RunI.val rfl (Val.pure rfl) rfl rfl rfl (RunK.toB ?_)
  refine RunB.one (i := 34) (by kernel_rfl) ?_
  refine RunI.val rfl (Val.pure rfl) rfl rfl rfl (RunK.toB ?_)
  refine RunB.one (i := 35) (by kernel_rfl) ?_
  refine RunI.val rfl (Val.pure rfl) rfl rfl rfl (RunK.toB ?_)
  refine RunB.one (i := 36) (by kernel_rfl) ?_
  refine RunI.val rfl (Val.pure rfl) rfl rfl rfl (RunK.toB ?_)
  refine RunB.sure (dj := 76) true rfl (by simp) ?_
  refine RunB.one (i := 37) (by kernel_rfl) ?_
  refine RunI.val rfl (Val.pure rfl) rfl rfl rfl (RunK.toB ?_)
  refine RunB.one (i := 38) (by kernel_rfl) ?_
  refine RunI.val rfl (Val.pure rfl) rfl rfl rfl (RunK.toB ?_)
  refine RunB.one (i := 39) (by kernel_rfl) ?_
  refine RunI.val rfl (Val.pure rfl) rfl rfl rfl (RunK.toB ?_)
  refine RunB.one (i := 40) (by kernel_rfl) ?_
  refine RunI.val rfl (Val.pure rfl) rfl rfl rfl (RunK.toB ?_)
  refine RunB.done (by kernel_rfl) ?_
  refine RunE.next ?_
  refine RunC.ret ?_
  exact RunE.retP (.r1 rfl (.tmp rfl)) (by first | rfl | simp)
theorem things_calls (g : Gl) (a : Ga) (n : Int) (W : World) (hS : GSl W g a) : Calls Try.prog 3 #[g.v a, .int .i64 n] W (Pure (.bool true) W) := by
  refine calls_start Try.func3 rfl rfl ?_
  refine RunC.seq ?_
  refine RunC.region ?_
  refine RunL.new (New.box rfl) rfl rfl rfl (fun b2 => ?_)
  refine RunL.val (Val.pure rfl) rfl rfl rfl ?_
  refine RunL.nil ?_
  refine RunE.next ?_
  refine RunC.seq ?_
  refine RunC.seq ?_
  refine RunC.region ?_
  refine RunL.val (Val.load_agg rfl (.head _) ty_28 rfl) rfl rfl rfl ?_
  refine RunL.callP (isCall_func rfl ent_9) rfl rfl rfl (fun w hm => great_calls g a 6 w (hS.mono hm)) ?_
  refine RunL.nil ?_
  refine RunE.next ?_
  refine RunC.cond rfl ?_ ?_
  · intro c0
    have c0' := c0; clear c0
    try simp only [decide_eq_true_eq, decide_eq_false_iff_not, Bool.not_eq_true', Bool.not_eq_false', Bool.and_eq_true, Bool.or_eq_true, Bool.and_eq_false_iff, Bool.or_eq_false_iff, Int.not_le, Int.not_lt] at c0'
    refine RunC.seq ?_
    refine RunC.region ?_
    refine RunL.callP (isCall_func rfl ent_10) rfl rfl rfl (fun w hm => alive_calls w) ?_
    refine RunL.val (Val.pure rfl) rfl rfl rfl ?_
    refine RunL.nil ?_
    refine RunE.next ?_
    refine RunC.ret ?_
    refine RunE.pass_ret ?_
    exact RunE.retP (.r1 rfl (.tmp rfl)) (by first | rfl | simp)
  · intro c0
    have c0' := c0; clear c0
    try simp only [decide_eq_true_eq, decide_eq_false_iff_not, Bool.not_eq_true', Bool.not_eq_false', Bool.and_eq_true, Bool.or_eq_true, Bool.and_eq_false_iff, Bool.or_eq_false_iff, Int.not_le, Int.not_lt] at c0'
    obtain ⟨hG, -, -⟩ := great_no c0' hS
    refine RunC.skip ?_
    refine RunE.next ?_
    refine RunC.seq ?_
    refine RunC.region ?_
    refine RunL.val (Val.load_agg rfl (.head _) ty_28 rfl) rfl rfl rfl ?_
    refine RunL.val (Val.pure rfl) rfl rfl rfl ?_
    refine RunL.callP (isCall_func rfl ent_11) rfl rfl rfl (fun w hm => yMoved_calls g a n w (hG.mono hm)) ?_
    iterate 3 refine RunL.val (Val.pure rfl) rfl rfl rfl ?_
    refine RunL.new (New.alloc zero_23) rfl rfl rfl (fun b5 => ?_)
    refine RunL.sto (Sto.store rfl rfl .here ty_23 rfl rfl) rfl rfl ?_
    refine RunL.val (Val.pure rfl) rfl rfl rfl ?_
    refine RunL.nil ?_
    refine RunE.next ?_
    refine RunC.seq ?_
    refine RunC.region ?_
    refine RunL.val (Val.load_agg rfl (.tail _ (.head _)) ty_28 rfl) rfl rfl rfl ?_
    refine RunL.val (Val.pure rfl) rfl rfl rfl ?_
    refine RunL.callP (isCall_func rfl ent_12) rfl rfl rfl (fun w hm => rMoved5_calls g a n w (hG.mono hm)) ?_
    iterate 3 refine RunL.val (Val.pure rfl) rfl rfl rfl ?_
    refine RunL.new (New.alloc zero_23) rfl rfl rfl (fun b7 => ?_)
    refine RunL.sto (Sto.store rfl rfl .here ty_23 rfl rfl) rfl rfl ?_
    refine RunL.val (Val.pure rfl) rfl rfl rfl ?_
    refine RunL.nil ?_
    refine RunE.next ?_
    refine RunC.seq ?_
    refine RunC.region ?_
    refine RunL.val (Val.load_agg rfl (.tail _ (.tail _ (.head _))) ty_28 rfl) rfl rfl rfl ?_
    refine RunL.val (Val.pure rfl) rfl rfl rfl ?_
    refine RunL.callP (isCall_func rfl ent_13) rfl rfl rfl (fun w hm => yHeights_calls g a n w (hG.mono hm)) ?_
    iterate 4 refine RunL.val (Val.pure rfl) rfl rfl rfl ?_
    refine RunL.new (New.alloc zero_23) rfl rfl rfl (fun b9 => ?_)
    refine RunL.new (New.alloc zero_23) rfl rfl rfl (fun b10 => ?_)
    refine RunL.sto (Sto.store rfl rfl (.there .here) ty_23 rfl rfl) rfl rfl ?_
    refine RunL.sto (Sto.store rfl rfl .here ty_23 rfl rfl) rfl rfl ?_
    refine RunL.val (Val.pure rfl) rfl rfl rfl ?_
    refine RunL.nil ?_
    refine RunE.next ?_
    refine RunC.seq ?_
    refine RunC.region ?_
    refine RunL.val (Val.load_agg rfl (.tail _ (.tail _ (.tail _ (.tail _ (.head _))))) ty_28 rfl) rfl rfl rfl ?_
    refine RunL.val (Val.pure rfl) rfl rfl rfl ?_
    refine RunL.callP (isCall_func rfl ent_14) rfl rfl rfl (fun w hm => rHeights5_calls g a n w (hG.mono hm)) ?_
    iterate 4 refine RunL.val (Val.pure rfl) rfl rfl rfl ?_
    refine RunL.new (New.alloc zero_23) rfl rfl rfl (fun b12 => ?_)
    refine RunL.new (New.alloc zero_23) rfl rfl rfl (fun b13 => ?_)
    refine RunL.sto (Sto.store rfl rfl (.there .here) ty_23 rfl rfl) rfl rfl ?_
    refine RunL.sto (Sto.store rfl rfl .here ty_23 rfl rfl) rfl rfl ?_
    refine RunL.val (Val.pure rfl) rfl rfl rfl ?_
    refine RunL.nil ?_
    refine RunE.next ?_
    refine RunC.seq ?_
    refine RunC.region ?_
    refine RunL.val (Val.load_agg rfl (.tail _ (.tail _ (.tail _ (.tail _ (.tail _ (.tail _ (.head _))))))) ty_28 rfl) rfl rfl rfl ?_
    refine RunL.val (Val.pure rfl) rfl rfl rfl ?_
    refine RunL.callP (isCall_func rfl ent_15) rfl rfl rfl (fun w hm => ySank_calls g a n w (hG.mono hm)) ?_
    iterate 3 refine RunL.val (Val.pure rfl) rfl rfl rfl ?_
    refine RunL.new (New.alloc zero_23) rfl rfl rfl (fun b15 => ?_)
    refine RunL.sto (Sto.store rfl rfl .here ty_23 rfl rfl) rfl rfl ?_
    refine RunL.val (Val.pure rfl) rfl rfl rfl ?_
    refine RunL.nil ?_
    refine RunE.next ?_
    refine RunC.seq ?_
    refine RunC.region ?_
    refine RunL.val (Val.load_agg rfl (.tail _ (.tail _ (.tail _ (.tail _ (.tail _ (.tail _ (.tail _ (.head _)))))))) ty_28 rfl) rfl rfl rfl ?_
    refine RunL.val (Val.pure rfl) rfl rfl rfl ?_
    refine RunL.callP (isCall_func rfl ent_16) rfl rfl rfl (fun w hm => rSank5_calls g a n w (hG.mono hm)) ?_
    iterate 3 refine RunL.val (Val.pure rfl) rfl rfl rfl ?_
    refine RunL.new (New.alloc zero_23) rfl rfl rfl (fun b17 => ?_)
    refine RunL.sto (Sto.store rfl rfl .here ty_23 rfl rfl) rfl rfl ?_
    refine RunL.val (Val.pure rfl) rfl rfl rfl ?_
    refine RunL.nil ?_
    refine RunE.next ?_
    refine RunC.seq ?_
    refine RunC.region ?_
    refine RunL.val (Val.load_agg rfl (.tail _ (.tail _ (.tail _ (.tail _ (.tail _ (.tail _ (.tail _ (.tail _ (.head _))))))))) ty_28 rfl) rfl rfl rfl ?_
    refine RunL.val (Val.pure rfl) rfl rfl rfl ?_
    refine RunL.callP (isCall_func rfl ent_17) rfl rfl rfl (fun w hm => yRate_calls g a n w (hG.mono hm)) ?_
    iterate 3 refine RunL.val (Val.pure rfl) rfl rfl rfl ?_
    refine RunL.new (New.alloc zero_23) rfl rfl rfl (fun b19 => ?_)
    refine RunL.sto (Sto.store rfl rfl .here ty_23 rfl rfl) rfl rfl ?_
    refine RunL.val (Val.pure rfl) rfl rfl rfl ?_
    refine RunL.nil ?_
    refine RunE.next ?_
    refine RunC.seq ?_
    refine RunC.region ?_
    refine RunL.val (Val.load_agg rfl (.tail _ (.tail _ (.tail _ (.tail _ (.tail _ (.tail _ (.tail _ (.tail _ (.tail _ (.head _)))))))))) ty_28 rfl) rfl rfl rfl ?_
    refine RunL.val (Val.pure rfl) rfl rfl rfl ?_
    refine RunL.callP (isCall_func rfl ent_18) rfl rfl rfl (fun w hm => rRate5_calls g a n w (hG.mono hm)) ?_
    iterate 3 refine RunL.val (Val.pure rfl) rfl rfl rfl ?_
    refine RunL.new (New.alloc zero_23) rfl rfl rfl (fun b21 => ?_)
    refine RunL.sto (Sto.store rfl rfl .here ty_23 rfl rfl) rfl rfl ?_
    refine RunL.val (Val.pure rfl) rfl rfl rfl ?_
    refine RunL.nil ?_
    refine RunE.next ?_
    refine RunC.seq ?_
    refine RunC.region ?_
    refine RunL.val (Val.load_agg rfl (.tail _ (.tail _ (.tail _ (.tail _ (.tail _ (.tail _ (.tail _ (.tail _ (.tail _ (.head _)))))))))) ty_23 rfl) rfl rfl rfl ?_
    refine RunL.val (Val.load_agg rfl (.tail _ (.tail _ (.tail _ (.tail _ (.tail _ (.tail _ (.tail _ (.tail _ (.head _))))))))) ty_23 rfl) rfl rfl rfl ?_
    refine RunL.val (Val.eql_pair rfl rfl pair_23) rfl rfl rfl ?_
    refine RunL.val (Val.pure rfl) rfl rfl rfl ?_
    refine RunL.sure (dj := 79) true rfl (by simp) ?_
    iterate 5 refine RunL.val (Val.pure rfl) rfl rfl rfl ?_
    refine RunL.sure (dj := 84) true rfl (by simp) ?_
    refine RunL.val (Val.load_agg rfl (.tail _ (.tail _ (.tail _ (.tail _ (.tail _ (.tail _ (.tail _ (.head _)))))))) ty_23 rfl) rfl rfl rfl ?_
    refine RunL.val (Val.load_agg rfl (.tail _ (.tail _ (.tail _ (.tail _ (.tail _ (.head _)))))) ty_23 rfl) rfl rfl rfl ?_
    refine RunL.val (Val.eql_pair rfl rfl pair_23) rfl rfl rfl ?_
    refine RunL.val (Val.pure rfl) rfl rfl rfl ?_
    refine RunL.val (Val.pure rfl) rfl rfl rfl ?_
    refine RunL.sure (dj := 89) true rfl (by simp) ?_
    refine RunL.val (Val.load_agg rfl (.tail _ (.tail _ (.tail _ (.tail _ (.tail _ (.tail _ (.head _))))))) ty_23 rfl) rfl rfl rfl ?_
    refine RunL.val (Val.load_agg rfl (.tail _ (.tail _ (.tail _ (.tail _ (.head _))))) ty_23 rfl) rfl rfl rfl ?_
    refine RunL.val (Val.eql_pair rfl rfl pair_23) rfl rfl rfl ?_
    refine RunL.val (Val.pure rfl) rfl rfl rfl ?_
    refine RunL.val (Val.pure rfl) rfl rfl rfl ?_
    refine RunL.sure (dj := 94) true rfl (by simp) ?_
    iterate 5 refine RunL.val (Val.pure rfl) rfl rfl rfl ?_
    refine RunL.sure (dj := 99) true rfl (by simp) ?_
    refine RunL.val (Val.load_agg rfl (.tail _ (.tail _ (.tail _ (.head _)))) ty_23 rfl) rfl rfl rfl ?_
    refine RunL.val (Val.load_agg rfl (.tail _ (.tail _ (.head _))) ty_23 rfl) rfl rfl rfl ?_
    refine RunL.val (Val.eql_pair rfl rfl pair_23) rfl rfl rfl ?_
    refine RunL.val (Val.pure rfl) rfl rfl rfl ?_
    refine RunL.val (Val.pure rfl) rfl rfl rfl ?_
    refine RunL.sure (dj := 104) true rfl (by simp) ?_
    iterate 5 refine RunL.val (Val.pure rfl) rfl rfl rfl ?_
    refine RunL.sure (dj := 109) true rfl (by simp) ?_
    refine RunL.val (Val.load_agg rfl (.tail _ (.head _)) ty_23 rfl) rfl rfl rfl ?_
    refine RunL.val (Val.load_agg rfl (.head _) ty_23 rfl) rfl rfl rfl ?_
    refine RunL.val (Val.eql_pair rfl rfl pair_23) rfl rfl rfl ?_
    refine RunL.val (Val.pure rfl) rfl rfl rfl ?_
    refine RunL.val (Val.pure rfl) rfl rfl rfl ?_
    refine RunL.sure (dj := 114) true rfl (by simp) ?_
    iterate 5 refine RunL.val (Val.pure rfl) rfl rfl rfl ?_
    refine RunL.sure (dj := 119) true rfl (by simp) ?_
    refine RunL.callP (isCall_func rfl ent_10) rfl rfl rfl (fun w hm => alive_calls w) ?_
    refine RunL.val (Val.pure rfl) rfl rfl rfl ?_
    refine RunL.val (Val.pure rfl) rfl rfl rfl ?_
    refine RunL.nil ?_
    refine RunE.next ?_
    refine RunC.ret ?_
    exact RunE.retP (.r1 rfl (.tmp rfl)) (by first | rfl | simp)
end Go.Proofs.Ytjijeeadmhpfcaa
