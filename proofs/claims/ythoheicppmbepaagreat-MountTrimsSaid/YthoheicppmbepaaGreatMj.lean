/- Walks of package mount: the least trimming. -/
import Derived.Test.YthoheicppmbepaaGreatMi
set_option linter.unusedSimpArgs false
set_option linter.unusedVariables false
namespace Go.Pw1
open Go Go.Eng
def bestV (o : Option Tr) : Value := .tuple #[.agg #[.int .i64 (o.getD tz).ll, .int .i64 (o.getD tz).lr, .int .i64 (o.getD tz).rl, .int .i64 (o.getD tz).rr], .bool o.isSome]
theorem bO_keep {c : Cd} {pre : List (TrS c)} {x : TrS c} {u : Tr} (h : bO c pre = some u) (h2 : befT u x.1) : bO c (pre ++ [x]) = bO c pre := by rw [bO_snoc, h]; simp [bstep, h2]
theorem bO_new {c : Cd} {pre : List (TrS c)} {x : TrS c} (h : ∀ u, bO c pre = some u → ¬ befT u x.1) (h2 : fitT c x.1 = true) : bO c (pre ++ [x]) = some x.1 := by
  rw [bO_snoc]
  cases ho : bO c pre with
  | none => simp [bstep, h2]
  | some u => simp [bstep, h u ho, h2]
theorem bO_not {c : Cd} {pre : List (TrS c)} {x : TrS c} (h2 : fitT c x.1 = false) : bO c (pre ++ [x]) = bO c pre := by
  rw [bO_snoc]
  cases ho : bO c pre with
  | none => simp [bstep, h2]
  | some u => simp [bstep, h2]
end Go.Pw1
namespace Go.Proofs.YthoheicppmbepaaGreat
open Go Go.Eng Go.Pw1

theorem best_calls (c : Cd) (q : Option Addr) (b o cap bc bm : Nat) (W : World) (h : CdAt c q b o cap bc bm W) :
    Calls Tryz.prog 49 #[.pointer (some ⟨bc, 0, none⟩)] W (Pure (bestV (bestM c)) W) := by
  have hv := h.v
  have hM := h.m
  have hc := h.ok
  have c2 := hc.c2
  refine calls_start_marks Tryz.func49 rfl rfl ?_
  refine RunC.seq ?_
  refine RunC.region ?_
  refine RunL.new (New.box rfl) rfl rfl rfl (fun b1 => ?_)
  refine RunL.new (New.alloc zero_60) rfl rfl rfl (fun b2 => ?_)
  refine RunL.new (New.alloc zero_4) rfl rfl rfl (fun b3 => ?_)
  refine RunL.nil ?_
  refine RunE.next ?_
  refine RunC.scope ?_
  refine RunC.seq ?_
  refine RunC.region ?_
  refine RunL.new (New.alloc zero_118) rfl rfl rfl (fun b4 => ?_)
  refine RunL.nil ?_
  refine RunE.next ?_
  refine RunC.seq ?_
  refine RunC.label ?_
  refine RunE.next ?_
  refine RunC.seq ?_
  refine RunC.seq ?_
  refine RunC.region ?_
  refine RunL.val (Val.load_one rfl (.tail _ (.tail _ (.tail _ (.head _)))) ty_48 rfl) rfl rfl rfl ?_
  refine RunL.callN (isCall_func rfl ent_76) rfl rfl rfl (fun w hm => trimmings_calls bc w) (fun b10 => ?_)
  refine RunL.nil ?_
  refine RunE.next ?_
  refine RunC.block ?_
  refine RunC.rangeH (α := TrS c) (Y := Nat) (N := 200000) (S := fun xs => xs = subL c (trimsM c)) (Sp := fun pre => ∃ rest, pre ++ rest = subL c (trimsM c)) [(b10, _), (b1, _)] (fun x => [.agg #[.int .i64 x.1.ll, .int .i64 x.1.lr, .int .i64 x.1.rl, .int .i64 x.1.rr]]) (fun pre => [(b2, .cells [.int .i64 ((bO c pre).getD tz).ll, .int .i64 ((bO c pre).getD tz).lr, .int .i64 ((bO c pre).getD tz).rl, .int .i64 ((bO c pre).getD tz).rr].toArray 60 (0, 0)), (b3, .cells [.bool (bO c pre).isSome].toArray 4 (0, 0)), (b4, .cells [.int .i64 (sumT ((bO c pre).getD tz)), .int .i64 ((bO c pre).getD tz).ll, .int .i64 ((bO c pre).getD tz).lr, .int .i64 ((bO c pre).getD tz).rl, .int .i64 ((bO c pre).getD tz).rr].toArray 118 (0, 0))]) (fun x y q => (5, .pointer (some ⟨y, 0, none⟩)) :: q) (fun x y => [(y, .cells ([.int .i64 x.1.ll, .int .i64 x.1.lr, .int .i64 x.1.rl, .int .i64 x.1.rr]).toArray 60 (0, 0))]) (fun e pre V => e = .exit 0 ∧ ∃ pre0 x u, pre = pre0 ++ [x] ∧ bO c pre0 = some u ∧ V = [(b2, .cells [.int .i64 u.ll, .int .i64 u.lr, .int .i64 u.rl, .int .i64 u.rr].toArray 60 (0, 0)), (b3, .cells [.bool true].toArray 4 (0, 0)), (b4, .cells [.int .i64 (sumT u), .int .i64 u.ll, .int .i64 u.lr, .int .i64 u.rl, .int .i64 u.rr].toArray 118 (0, 0))]) (Sub.cons (t := 1) rfl (Sub.cons (t := 2) rfl (Sub.cons (t := 3) rfl (Sub.cons (t := 4) rfl (Sub.nil _))))) (.cons (.there (.there (.there .here))) rfl (.cons (.there (.there .here)) rfl (.cons (.there .here) rfl (.cons .here rfl (.cons .here rfl .nil))))) (fun _ => rfl) (fun _ _ _ hb => by simp only [List.mem_cons, List.not_mem_nil, or_false, Prod.mk.injEq] at hb; rcases hb with ⟨_, rfl⟩ | ⟨_, rfl⟩ | ⟨_, rfl⟩ <;> rfl) (fun _ _ _ _ hb => by simp only [List.mem_cons, List.not_mem_nil, or_false, Prod.mk.injEq] at hb; obtain ⟨_, rfl⟩ := hb; rfl) (fun _ => rfl) rfl rfl ent_98 (fun w hm => trims_stops c hc q cap bc bm b10 w _ ⟨hm.old_at hv (by simp), hm.at (.tail _ (.tail _ (.tail _ (.head _))))⟩ (hm.oldApart (Array.getElem?_eq_some_iff.1 hv).1) (hm.apart (.head _))) ?_ ?_ ?_ ?_
  · intro l1 pre x V1 hV1
    refine RunCR.regionP ?_
    refine RunL.new (New.alloc zero_60) rfl rfl rfl (fun b5 => ?_)
    refine RunL.sto (Sto.store rfl rfl .here ty_60 rfl rfl) rfl rfl ?_
    refine RunL.nil ?_
    exact RunE.asg b5 rfl (Sub.consE (t := 5) rfl rfl (Sub.cons (t := 1) rfl (Sub.cons (t := 2) rfl (Sub.cons (t := 3) rfl (Sub.cons (t := 4) rfl (Sub.nil _)))))) (.cons .here rfl .nil)
  · intro l1 pre x y W1 hlen1 hI1 hL1 hAp1
    have hv1_b10 := hI1.at (.tail _ (.tail _ (.tail _ (.head _))))
    have hn1_b10 := hAp1 _ (.inl ⟨_, (.head _)⟩)
    have hv1_b1 := hI1.at (.tail _ (.tail _ (.tail _ (.tail _ (.head _)))))
    have hn1_b1 := hAp1 _ (.inl ⟨_, (.tail _ (.head _))⟩)
    have hv1_bc := hI1.old_at hv (by simp)
    have hn1_bc := hAp1 _ (.inr (Array.getElem?_eq_some_iff.1 hv).1)
    have hv1_bm := hI1.old_at hM (by simp)
    have hn1_bm := hAp1 _ (.inr (Array.getElem?_eq_some_iff.1 hM).1)
    have hx := trIs_ok x.2
    obtain ⟨⟨x1, x2, x3, x4, x5, x6, x7, x8⟩, x9⟩ := hx
    have hx := trIs_ok x.2
    have hCd : ∀ {c0 nw : Blks} {w : World}, Mem W1 c0 nw w → c0.map (·.1) = _ → CdAt c q b o cap bc bm w := fun hm hc0 => h.mem (hI1.flat hm (fun b hb => by rw [hc0]; exact hAp1 b (.inr hb)))
    refine RunCR.block ?_
    refine RunCR.seq ?_
    refine RunCR.regionP ?_
    refine RunL.val (Val.indexAddr_arr rfl rfl arr_60 (by decide) (by decide)) rfl rfl rfl ?_
    refine RunL.val (Val.load_one rfl (.tail _ (.tail _ (.tail _ (.head _)))) ty_3 rfl) rfl rfl rfl ?_
    refine RunL.val (Val.indexAddr_arr rfl rfl arr_60 (by decide) (by decide)) rfl rfl rfl ?_
    refine RunL.val (Val.load_one rfl (.tail _ (.tail _ (.tail _ (.head _)))) ty_3 rfl) rfl rfl rfl ?_
    refine RunL.val (Val.add rfl rfl (IntWalk.i64_in _ ⟨by omega, by omega⟩)) rfl rfl rfl ?_
    refine RunL.val (Val.indexAddr_arr rfl rfl arr_60 (by decide) (by decide)) rfl rfl rfl ?_
    refine RunL.val (Val.load_one rfl (.tail _ (.tail _ (.tail _ (.head _)))) ty_3 rfl) rfl rfl rfl ?_
    refine RunL.val (Val.add rfl rfl (IntWalk.i64_in _ ⟨by omega, by omega⟩)) rfl rfl rfl ?_
    refine RunL.val (Val.indexAddr_arr rfl rfl arr_60 (by decide) (by decide)) rfl rfl rfl ?_
    refine RunL.val (Val.load_one rfl (.tail _ (.tail _ (.tail _ (.head _)))) ty_3 rfl) rfl rfl rfl ?_
    refine RunL.val (Val.add rfl rfl (IntWalk.i64_in _ ⟨by omega, by omega⟩)) rfl rfl rfl ?_
    refine RunL.val (Val.load_agg rfl (.tail _ (.tail _ (.tail _ (.head _)))) ty_60 rfl) rfl rfl rfl ?_
    refine RunL.val (Val.build (parts := [(0, .tmp 22), (1, .tmp 23)]) rfl zero_118 places_118 rfl) rfl rfl rfl ?_
    refine RunL.new (New.alloc zero_118) rfl rfl rfl (fun b6 => ?_)
    refine RunL.sto (Sto.store rfl rfl .here ty_118 rfl rfl) rfl rfl ?_
    refine RunL.nil ?_
    refine RunER.next ?_
    refine RunCR.seq ?_
    refine RunCR.seq ?_
    refine RunCR.regionP ?_
    refine RunL.val (Val.load_one rfl (.tail _ (.head _)) ty_4 rfl) rfl rfl rfl ?_
    refine RunL.nil ?_
    refine RunER.next ?_
    refine RunCR.cond rfl ?_ ?_
    · intro c0
      have c0' := c0; clear c0
      try simp only [decide_eq_true_eq, decide_eq_false_iff_not, Bool.not_eq_true', Bool.not_eq_false', Bool.and_eq_true, Bool.or_eq_true, Bool.and_eq_false_iff, Bool.or_eq_false_iff, Int.not_le, Int.not_lt] at c0'
      obtain ⟨u, hu⟩ : ∃ u, bO c pre = some u := Option.isSome_iff_exists.1 c0'
      simp only [hu, Option.getD_some, Option.isSome_some]
      refine RunCR.seq ?_
      refine RunCR.seq ?_
      refine RunCR.regionP ?_
      refine RunL.val (Val.fieldAddr rfl fld_118_0) rfl rfl rfl ?_
      refine RunL.val (Val.load_one rfl (.tail _ (.tail _ (.tail _ (.tail _ (.head _))))) ty_3 rfl) rfl rfl rfl ?_
      refine RunL.val (Val.fieldAddr rfl fld_118_0) rfl rfl rfl ?_
      refine RunL.val (Val.load_one rfl (.tail _ (.tail _ (.head _))) ty_3 rfl) rfl rfl rfl ?_
      refine RunL.val (Val.pure rfl) rfl rfl rfl ?_
      refine RunL.nil ?_
      refine RunER.next ?_
      refine RunCR.cond rfl ?_ ?_
      · intro c1
        have c1' := c1; clear c1
        try simp only [decide_eq_true_eq, decide_eq_false_iff_not, Bool.not_eq_true', Bool.not_eq_false', Bool.and_eq_true, Bool.or_eq_true, Bool.and_eq_false_iff, Bool.or_eq_false_iff, Int.not_le, Int.not_lt] at c1'
        refine RunCR.exit ?_
        refine RunE.pass_exit ?_
        refine RunE.pass_exit ?_
        refine RunE.block_other rfl ?_
        exact RunE.bodyX_exit [(b2, _), (b3, _), (b4, _)] [(y, _)] ⟨rfl, pre, x, u, rfl, hu, rfl⟩ rfl
      · intro c1
        have c1' := c1; clear c1
        try simp only [decide_eq_true_eq, decide_eq_false_iff_not, Bool.not_eq_true', Bool.not_eq_false', Bool.and_eq_true, Bool.or_eq_true, Bool.and_eq_false_iff, Bool.or_eq_false_iff, Int.not_le, Int.not_lt] at c1'
        refine RunCR.skip ?_
        refine RunER.next ?_
        refine RunCR.seq ?_
        refine RunCR.regionP ?_
        refine RunL.val (Val.load_agg rfl (.tail _ (.tail _ (.head _))) ty_118 rfl) rfl rfl rfl ?_
        refine RunL.val (Val.load_agg rfl (.tail _ (.tail _ (.tail _ (.tail _ (.head _))))) ty_118 rfl) rfl rfl rfl ?_
        refine RunL.callP (isCall_func rfl ent_77) rfl rfl rfl (fun w hm => before_calls u x.1 w) ?_
        refine RunL.nil ?_
        refine RunER.next ?_
        refine RunCR.cond rfl ?_ ?_
        · intro c2
          have c2' := c2; clear c2
          try simp only [decide_eq_true_eq, decide_eq_false_iff_not, Bool.not_eq_true', Bool.not_eq_false', Bool.and_eq_true, Bool.or_eq_true, Bool.and_eq_false_iff, Bool.or_eq_false_iff, Int.not_le, Int.not_lt] at c2'
          refine RunCR.exit ?_
          refine RunE.pass_exit ?_
          refine RunE.block_here ?_
          exact RunE.bodyX [(y, _)] (by simp only [bO_keep hu c2', hu, Option.getD_some, Option.isSome_some]; rfl)
        · intro c2
          have c2' := c2; clear c2
          try simp only [decide_eq_true_eq, decide_eq_false_iff_not, Bool.not_eq_true', Bool.not_eq_false', Bool.and_eq_true, Bool.or_eq_true, Bool.and_eq_false_iff, Bool.or_eq_false_iff, Int.not_le, Int.not_lt] at c2'
          refine RunCR.skip ?_
          refine RunER.next ?_
          refine RunCR.seq ?_
          refine RunCR.regionP ?_
          refine RunL.val (Val.oload_one rfl hv1_b1 (notin_of rfl hn1_b1) ty_48 rfl) rfl rfl rfl ?_
          refine RunL.val (Val.load_agg rfl (.tail _ (.tail _ (.tail _ (.head _)))) ty_60 rfl) rfl rfl rfl ?_
          refine RunL.val (Val.build (parts := [(0, .tmp 35), (1, .tmp 36)]) rfl zero_63 places_63 rfl) rfl rfl rfl ?_
          refine RunL.callP (isCall_func rfl ent_29) rfl rfl rfl (fun w hm => hurt_calls c x.1 hx.1 q b o cap bc bm w (hCd hm rfl)) ?_
          iterate 5 refine RunL.val (Val.pure rfl) rfl rfl rfl ?_
          refine RunL.nil ?_
          refine RunER.next ?_
          refine RunCR.seq ?_
          refine RunCR.regionP ?_
          refine RunL.val (Val.pure rfl) rfl rfl rfl ?_
          refine RunL.val (Val.pure rfl) rfl rfl rfl ?_
          refine RunL.nil ?_
          refine RunER.next ?_
          refine RunCR.cond rfl ?_ ?_
          · intro c3
            have c3' := c3; clear c3
            try simp only [decide_eq_true_eq, decide_eq_false_iff_not, Bool.not_eq_true', Bool.not_eq_false', Bool.and_eq_true, Bool.or_eq_true, Bool.and_eq_false_iff, Bool.or_eq_false_iff, Int.not_le, Int.not_lt] at c3'
            have hfit : fitT c x.1 = true := decide_eq_true c3'
            refine RunCR.drawK 3 fol_ (.cons .here rfl .nil) ?_
            refine RunA.valC (i := 1) rfl (by kernel_rfl) (by kernel_rfl) (fun c hck => (Val.load_agg rfl (List.mem_append_right c (.head _)) ty_118 rfl)) rfl rfl rfl (fun _ _ _ h => h) (.cons .here rfl .nil) rfl ?_
            refine RunA.one (i := 0) (by kernel_rfl) (by kernel_rfl) ?_
            refine RunI.val rfl (Val.load_agg rfl (.tail _ (.tail _ (.tail _ (.head _)))) ty_60 rfl) rfl rfl rfl (RunK.toA (.cons .here rfl .nil) (.cons .here rfl .nil) rfl ?_)
            refine RunA.one (i := 2) (by kernel_rfl) (by kernel_rfl) ?_
            refine RunI.sto rfl (Sto.store_chg rfl rfl .here ty_60 rfl rfl) rfl rfl (RunK.toA (.cons .here rfl .nil) (.cons .here rfl .nil) rfl ?_)
            refine RunA.toB (by kernel_rfl) ?_
            refine RunB.one (i := 3) (by kernel_rfl) ?_
            refine RunI.sto rfl (Sto.store_chg rfl rfl (.there (.there .here)) ty_118 rfl rfl) rfl rfl (RunK.toB ?_)
            refine RunB.one (i := 4) (by kernel_rfl) ?_
            refine RunI.sto rfl (Sto.store_chg rfl rfl (.there .here) ty_4 rfl rfl) rfl rfl (RunK.toB ?_)
            refine RunB.done (by kernel_rfl) ?_
            refine RunE.block_normal ?_
            exact RunE.bodyX [(y, _)] (by simp only [bO_new (fun u2 h2 => by (rw [hu] at h2; cases h2; exact c2')) hfit, Option.getD_some, Option.isSome_some]; rfl)
          · intro c3
            have c3' := c3; clear c3
            try simp only [decide_eq_true_eq, decide_eq_false_iff_not, Bool.not_eq_true', Bool.not_eq_false', Bool.and_eq_true, Bool.or_eq_true, Bool.and_eq_false_iff, Bool.or_eq_false_iff, Int.not_le, Int.not_lt] at c3'
            have hfit : fitT c x.1 = false := decide_eq_false c3'
            refine RunCR.skip ?_
            refine RunE.block_normal ?_
            exact RunE.bodyX [(y, _)] (by simp only [bO_not hfit, hu, Option.getD_some, Option.isSome_some]; rfl)
    · intro c0
      have c0' := c0; clear c0
      try simp only [decide_eq_true_eq, decide_eq_false_iff_not, Bool.not_eq_true', Bool.not_eq_false', Bool.and_eq_true, Bool.or_eq_true, Bool.and_eq_false_iff, Bool.or_eq_false_iff, Int.not_le, Int.not_lt] at c0'
      have hn : bO c pre = none := by simpa using c0'
      refine RunCR.skip ?_
      refine RunER.next ?_
      refine RunCR.seq ?_
      refine RunCR.regionP ?_
      refine RunL.val (Val.oload_one rfl hv1_b1 (notin_of rfl hn1_b1) ty_48 rfl) rfl rfl rfl ?_
      refine RunL.val (Val.load_agg rfl (.tail _ (.tail _ (.tail _ (.head _)))) ty_60 rfl) rfl rfl rfl ?_
      refine RunL.val (Val.build (parts := [(0, .tmp 35), (1, .tmp 36)]) rfl zero_63 places_63 rfl) rfl rfl rfl ?_
      refine RunL.callP (isCall_func rfl ent_29) rfl rfl rfl (fun w hm => hurt_calls c x.1 hx.1 q b o cap bc bm w (hCd hm rfl)) ?_
      iterate 5 refine RunL.val (Val.pure rfl) rfl rfl rfl ?_
      refine RunL.nil ?_
      refine RunER.next ?_
      refine RunCR.seq ?_
      refine RunCR.regionP ?_
      refine RunL.val (Val.pure rfl) rfl rfl rfl ?_
      refine RunL.val (Val.pure rfl) rfl rfl rfl ?_
      refine RunL.nil ?_
      refine RunER.next ?_
      refine RunCR.cond rfl ?_ ?_
      · intro c3
        have c3' := c3; clear c3
        try simp only [decide_eq_true_eq, decide_eq_false_iff_not, Bool.not_eq_true', Bool.not_eq_false', Bool.and_eq_true, Bool.or_eq_true, Bool.and_eq_false_iff, Bool.or_eq_false_iff, Int.not_le, Int.not_lt] at c3'
        have hfit : fitT c x.1 = true := decide_eq_true c3'
        refine RunCR.drawK 3 fol_ (.cons .here rfl .nil) ?_
        refine RunA.valC (i := 1) rfl (by kernel_rfl) (by kernel_rfl) (fun c hck => (Val.load_agg rfl (List.mem_append_right c (.head _)) ty_118 rfl)) rfl rfl rfl (fun _ _ _ h => h) (.cons .here rfl .nil) rfl ?_
        refine RunA.one (i := 0) (by kernel_rfl) (by kernel_rfl) ?_
        refine RunI.val rfl (Val.load_agg rfl (.tail _ (.tail _ (.tail _ (.head _)))) ty_60 rfl) rfl rfl rfl (RunK.toA (.cons .here rfl .nil) (.cons .here rfl .nil) rfl ?_)
        refine RunA.one (i := 2) (by kernel_rfl) (by kernel_rfl) ?_
        refine RunI.sto rfl (Sto.store_chg rfl rfl .here ty_60 rfl rfl) rfl rfl (RunK.toA (.cons .here rfl .nil) (.cons .here rfl .nil) rfl ?_)
        refine RunA.toB (by kernel_rfl) ?_
        refine RunB.one (i := 3) (by kernel_rfl) ?_
        refine RunI.sto rfl (Sto.store_chg rfl rfl (.there (.there .here)) ty_118 rfl rfl) rfl rfl (RunK.toB ?_)
        refine RunB.one (i := 4) (by kernel_rfl) ?_
        refine RunI.sto rfl (Sto.store_chg rfl rfl (.there .here) ty_4 rfl rfl) rfl rfl (RunK.toB ?_)
        refine RunB.done (by kernel_rfl) ?_
        refine RunE.block_normal ?_
        exact RunE.bodyX [(y, _)] (by simp only [bO_new (fun u2 h2 => by (rw [hn] at h2; cases h2)) hfit, Option.getD_some, Option.isSome_some]; rfl)
      · intro c3
        have c3' := c3; clear c3
        try simp only [decide_eq_true_eq, decide_eq_false_iff_not, Bool.not_eq_true', Bool.not_eq_false', Bool.and_eq_true, Bool.or_eq_true, Bool.and_eq_false_iff, Bool.or_eq_false_iff, Int.not_le, Int.not_lt] at c3'
        have hfit : fitT c x.1 = false := decide_eq_false c3'
        refine RunCR.skip ?_
        refine RunE.block_normal ?_
        exact RunE.bodyX [(y, _)] (by simp only [bO_not hfit]; rfl)
  · intro xs bD0 hXS
    obtain rfl := hXS
    rw [bO_all hc]
    refine RunE.block_normal ?_
    refine RunE.next ?_
    refine RunC.seq ?_
    refine RunC.drawN 3 fol_ (.cons .here rfl (.cons (.there .here) rfl (.cons (.there .here) rfl (.cons (.there .here) rfl (.cons (.there .here) rfl .nil))))) ?_
    refine RunA.val (i := 1) rfl (by kernel_rfl) (by kernel_rfl) (Val.load_one rfl (.tail _ (.head _)) ty_4 rfl) rfl rfl rfl (fun _ _ _ h => h) (.cons .here rfl (.cons (.there .here) rfl (.cons (.there .here) rfl (.cons (.there .here) rfl (.cons (.there .here) rfl .nil))))) rfl ?_
    refine RunA.one (i := 0) (by kernel_rfl) (by kernel_rfl) ?_
    refine RunI.val rfl (Val.load_agg rfl (.tail _ (.head _)) ty_60 rfl) rfl rfl rfl (RunK.toA (.cons .here rfl (.cons (.there .here) rfl (.cons (.there .here) rfl (.cons (.there .here) rfl (.cons (.there .here) rfl .nil))))) (.cons .here rfl (.cons .here rfl (.cons .here rfl (.cons .here rfl (.cons .here rfl .nil))))) rfl ?_)
    refine RunA.one (i := 2) (by kernel_rfl) (by kernel_rfl) ?_
    refine RunI.sto rfl (Sto.store rfl rfl (.there .here) ty_60 rfl rfl) rfl rfl (RunK.toA (.cons .here rfl (.cons (.there .here) rfl (.cons (.there .here) rfl (.cons (.there .here) rfl (.cons (.there .here) rfl .nil))))) (.cons .here rfl (.cons .here rfl (.cons .here rfl (.cons .here rfl (.cons .here rfl .nil))))) rfl ?_)
    refine RunA.toB (by kernel_rfl) ?_
    refine RunB.one (i := 3) (by kernel_rfl) ?_
    refine RunI.sto rfl (Sto.store rfl rfl (.there (.there .here)) ty_4 rfl rfl) rfl rfl (RunK.toB ?_)
    refine RunB.done (by kernel_rfl) ?_
    refine RunE.noPan ?_
    refine RunE.next ?_
    refine RunC.ret ?_
    refine RunE.scope_ret ?_
    exact RunE.outM [bD0] (.cons .here rfl (.cons .here rfl (.cons .here rfl (.cons .here rfl (.cons .here rfl (.cons .here rfl .nil)))))) (.r2 rfl (.agg rfl (.head _) ty_60 rfl) (.one rfl (.tail _ (.head _)) ty_4 rfl)) (out_pure (by rfl))
  · intro c pre V' bD0 hSp hNm hSt
    obtain ⟨rfl, pre0, x, u, rfl, hu, rfl⟩ := hSt
    obtain ⟨rest, hrest⟩ := hSp
    have hbest := bO_stop hc (by rw [← List.append_assoc]; exact hrest) hu
    refine RunC.exit ?_
    refine RunE.block_here ?_
    refine RunE.next ?_
    refine RunC.seq ?_
    refine RunC.drawN 3 fol_ (.cons .here rfl (.cons (.there .here) rfl (.cons (.there .here) rfl (.cons (.there .here) rfl (.cons (.there .here) rfl .nil))))) ?_
    refine RunA.val (i := 1) rfl (by kernel_rfl) (by kernel_rfl) (Val.load_one rfl (.tail _ (.head _)) ty_4 rfl) rfl rfl rfl (fun _ _ _ h => h) (.cons .here rfl (.cons (.there .here) rfl (.cons (.there .here) rfl (.cons (.there .here) rfl (.cons (.there .here) rfl .nil))))) rfl ?_
    refine RunA.one (i := 0) (by kernel_rfl) (by kernel_rfl) ?_
    refine RunI.val rfl (Val.load_agg rfl (.tail _ (.head _)) ty_60 rfl) rfl rfl rfl (RunK.toA (.cons .here rfl (.cons (.there .here) rfl (.cons (.there .here) rfl (.cons (.there .here) rfl (.cons (.there .here) rfl .nil))))) (.cons .here rfl (.cons .here rfl (.cons .here rfl (.cons .here rfl (.cons .here rfl .nil))))) rfl ?_)
    refine RunA.one (i := 2) (by kernel_rfl) (by kernel_rfl) ?_
    refine RunI.sto rfl (Sto.store rfl rfl (.there .here) ty_60 rfl rfl) rfl rfl (RunK.toA (.cons .here rfl (.cons (.there .here) rfl (.cons (.there .here) rfl (.cons (.there .here) rfl (.cons (.there .here) rfl .nil))))) (.cons .here rfl (.cons .here rfl (.cons .here rfl (.cons .here rfl (.cons .here rfl .nil))))) rfl ?_)
    refine RunA.toB (by kernel_rfl) ?_
    refine RunB.one (i := 3) (by kernel_rfl) ?_
    refine RunI.sto rfl (Sto.store rfl rfl (.there (.there .here)) ty_4 rfl rfl) rfl rfl (RunK.toB ?_)
    refine RunB.done (by kernel_rfl) ?_
    refine RunE.noPan ?_
    refine RunE.next ?_
    refine RunC.ret ?_
    refine RunE.scope_ret ?_
    exact RunE.outM [bD0] (.cons .here rfl (.cons .here rfl (.cons .here rfl (.cons .here rfl (.cons .here rfl (.cons .here rfl .nil)))))) (.r2 rfl (.agg rfl (.head _) ty_60 rfl) (.one rfl (.tail _ (.head _)) ty_4 rfl)) (out_pure (by rw [hbest]; rfl))
end Go.Proofs.YthoheicppmbepaaGreat
