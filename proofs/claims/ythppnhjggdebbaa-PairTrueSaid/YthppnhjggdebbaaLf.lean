/- Walks of the laws of layer 1: PairTurned. -/
import Derived.Test.YthppnhjggdebbaaLe
import Derived.Test.YthppnhjggdebbaaFacts4
set_option linter.unusedSimpArgs false
set_option linter.unusedVariables false
namespace Go.Proofs.Ythppnhjggdebbaa
open Go Go.Eng Go.Pw1

theorem lback_calls (s : Sp) (h1 : -4000 ≤ s.lo ∧ s.lo ≤ s.hi ∧ s.hi ≤ 4000) (W : World) : Calls Try.prog 38 #[.agg #[.int .i64 s.lo, .int .i64 s.hi]] W (Pure (.agg #[.int .i64 (-s.hi), .int .i64 (-s.lo)]) W) := by
  refine calls_start Try.func38 rfl rfl ?_
  refine RunC.seq ?_
  refine RunC.region ?_
  refine RunL.new (New.box rfl) rfl rfl rfl (fun b1 => ?_)
  refine RunL.new (New.alloc zero_23) rfl rfl rfl (fun b2 => ?_)
  refine RunL.nil ?_
  refine RunE.next ?_
  refine RunC.seq ?_
  refine RunC.region ?_
  refine RunL.val (Val.fieldAddr rfl fld_23_1) rfl rfl rfl ?_
  refine RunL.val (Val.load_one rfl (.tail _ (.head _)) ty_3 rfl) rfl rfl rfl ?_
  refine RunL.val (Val.neg rfl (IntWalk.i64_in _ ⟨by omega, by omega⟩)) rfl rfl rfl ?_
  refine RunL.val (Val.fieldAddr rfl fld_23_0) rfl rfl rfl ?_
  refine RunL.val (Val.load_one rfl (.tail _ (.head _)) ty_3 rfl) rfl rfl rfl ?_
  refine RunL.val (Val.neg rfl (IntWalk.i64_in _ ⟨by omega, by omega⟩)) rfl rfl rfl ?_
  refine RunL.callP (isCall_func rfl ent_28) rfl rfl rfl (fun w hm => lspan_calls _ _ w) ?_
  refine RunL.sto (Sto.store rfl rfl .here ty_23 rfl rfl) rfl rfl ?_
  refine RunL.nil ?_
  refine RunE.next ?_
  refine RunC.ret ?_
  exact RunE.retP (.r1 rfl (.agg rfl (.head _) ty_23 rfl)) (by first | rfl | simp)
theorem lon_calls (s : Sp) (h1 : -4000 ≤ s.lo ∧ s.lo ≤ s.hi ∧ s.hi ≤ 4000) (d : Int) (hd : -32768 ≤ d ∧ d ≤ 32767) (b : Nat) (W : World) (hb : W.heap[b]? = some (.cells [.int .i16 d].toArray 62 (0, 0))) :
    Calls Try.prog 39 #[.agg #[.int .i64 s.lo, .int .i64 s.hi], .pointer (some ⟨b, 0, none⟩)] W (Pure (.agg #[.int .i64 (s.lo + d), .int .i64 (s.hi + d)]) W) := by
  refine calls_start Try.func39 rfl rfl ?_
  refine RunC.seq ?_
  refine RunC.region ?_
  refine RunL.new (New.box rfl) rfl rfl rfl (fun b2 => ?_)
  refine RunL.new (New.alloc zero_23) rfl rfl rfl (fun b3 => ?_)
  refine RunL.nil ?_
  refine RunE.next ?_
  refine RunC.seq ?_
  refine RunC.region ?_
  refine RunL.val (Val.fieldAddr rfl fld_23_0) rfl rfl rfl ?_
  refine RunL.val (Val.load_one rfl (.tail _ (.head _)) ty_3 rfl) rfl rfl rfl ?_
  refine RunL.val (Val.oload_one rfl hb (by simp) ty_62 rfl) rfl rfl rfl ?_
  refine RunL.val (Val.convInt rfl und_62 und_3 (IntWalk.i64_in _ ⟨by omega, by omega⟩)) rfl rfl rfl ?_
  refine RunL.val (Val.add rfl rfl (IntWalk.i64_in _ ⟨by omega, by omega⟩)) rfl rfl rfl ?_
  refine RunL.val (Val.fieldAddr rfl fld_23_1) rfl rfl rfl ?_
  refine RunL.val (Val.load_one rfl (.tail _ (.head _)) ty_3 rfl) rfl rfl rfl ?_
  refine RunL.val (Val.oload_one rfl hb (by simp) ty_62 rfl) rfl rfl rfl ?_
  refine RunL.val (Val.convInt rfl und_62 und_3 (IntWalk.i64_in _ ⟨by omega, by omega⟩)) rfl rfl rfl ?_
  refine RunL.val (Val.add rfl rfl (IntWalk.i64_in _ ⟨by omega, by omega⟩)) rfl rfl rfl ?_
  refine RunL.callP (isCall_func rfl ent_28) rfl rfl rfl (fun w hm => lspan_calls _ _ w) ?_
  refine RunL.sto (Sto.store rfl rfl .here ty_23 rfl rfl) rfl rfl ?_
  refine RunL.nil ?_
  refine RunE.next ?_
  refine RunC.ret ?_
  exact RunE.retP (.r1 rfl (.agg rfl (.head _) ty_23 rfl)) (by first | rfl | simp)
/-- A pair that one of them is, and where its things lie. -/
abbrev Cell := Pr × Option Addr × Nat × Nat
def Cell.c (x : Cell) : List Value := x.1.cells x.2.1 x.2.2.2
def turnL (p : Pr) (d : Int) (x : Eng.Own × Eng.Own) : List Cell := [(backP p, ownQ x.1, ownK x.1, ownC x.1), (onP d p, ownQ x.2, ownK x.2, ownC x.2)]
theorem turnL_all {p : Pr} {d : Int} {x : Eng.Own × Eng.Own} (hl : p.things.length ≤ 40) (hx1 : OwnOk 9 x.1 p.things.length ((p.things.map backT).map Th.cells).flatten) (hx2 : OwnOk 9 x.2 p.things.length ((p.things.map (onT d)).map Th.cells).flatten) :
    ∀ Z ∈ turnL p d x, Sim p Z.1 ∧ Z.1.things.length ≤ 100000000000 ∧ ∀ w : World, (∀ b o, (b, o) ∈ ownB 47 x.1 ((p.things.map backT).map Th.cells).flatten ++ (ownB 47 x.2 ((p.things.map (onT d)).map Th.cells).flatten ++ []) → w.heap[b]? = some o) → Sl w Z.2.1 Z.2.2.1 0 9 (Z.1.things.map Th.cells) := by
  intro Z hZ
  simp only [turnL, List.mem_cons, List.not_mem_nil, or_false] at hZ
  rcases hZ with rfl | rfl
  · exact ⟨sim_back p, by simp [backP]; omega, fun w hw => own_sl th_len (by decide) hx1 (fun b o h => hw b o (List.mem_append_left _ h))⟩
  · exact ⟨sim_on d p, by simp [onP]; omega, fun w hw => own_sl th_len (by decide) hx2 (fun b o h => hw b o (List.mem_append_right _ (List.mem_append_left _ h)))⟩
theorem turned_calls (p : Pr) (n d : Int) (hd : -32768 ≤ d ∧ d ≤ 32767) (q : Option Addr) (b o cap : Nat) (W : World) (hS : Sl W q b o 9 (p.things.map Th.cells)) :
    Calls Try.prog 11 #[p.v q cap, .int .i64 n, .int .i16 d] W (Pure (.bool true) W) := by
  refine calls_start Try.func11 rfl rfl ?_
  refine RunC.seq ?_
  refine RunC.region ?_
  refine RunL.new (New.box rfl) rfl rfl rfl (fun b3 => ?_)
  refine RunL.new (New.box rfl) rfl rfl rfl (fun b5 => ?_)
  refine RunL.val (Val.pure rfl) rfl rfl rfl ?_
  refine RunL.nil ?_
  refine RunE.next ?_
  refine RunC.seq ?_
  refine RunC.seq ?_
  refine RunC.region ?_
  refine RunL.val (Val.fieldAddr rfl fld_26_5) rfl rfl rfl ?_
  refine RunL.val (Val.load_one rfl (.tail _ (.head _)) ty_24 rfl) rfl rfl rfl ?_
  refine RunL.val (Val.len_sl rfl sl_24) rfl rfl rfl ?_
  refine RunL.val (Val.pure rfl) rfl rfl rfl ?_
  refine RunL.val (Val.pure rfl) rfl rfl rfl ?_
  refine RunL.orPart (dj := 37) (dp := 41) 4 rfl (fun g37 => by
    have g37' := g37
    try simp only [decide_eq_true_eq, decide_eq_false_iff_not, Bool.not_eq_true', Bool.not_eq_false', Bool.and_eq_true, Bool.or_eq_true, Bool.and_eq_false_iff, Bool.or_eq_false_iff, Int.not_le, Int.not_lt] at g37'
    refine RunL.val (Val.load_agg rfl (.tail _ (.head _)) ty_26 rfl) rfl rfl rfl ?_
    refine RunL.callP (isCall_func rfl ent_32) rfl rfl rfl (fun w hm => rPair_calls p q b o cap w (hS.mono (by decide) hm (by simp)) (by omega)) ?_
    refine RunL.val (Val.pure rfl) rfl rfl rfl ?_
    refine RunL.val (Val.pure rfl) rfl rfl rfl ?_
    exact RunL.segEnd (Sub.cons rfl (Sub.skip rfl (Sub.skip rfl (Sub.skip rfl (Sub.skip rfl (Sub.same rfl (by rw [g37]) (Sub.refl _))))))) (List.Sublist.refl _)
  ) (fun g37 => by
    have g37' := g37
    try simp only [decide_eq_true_eq, decide_eq_false_iff_not, Bool.not_eq_true', Bool.not_eq_false', Bool.and_eq_true, Bool.or_eq_true, Bool.and_eq_false_iff, Bool.or_eq_false_iff, Int.not_le, Int.not_lt] at g37'
    iterate 3 refine RunL.no rfl rfl rfl ?_
    refine RunL.val (Val.pure rfl) rfl rfl rfl ?_
    exact RunL.segEnd (Sub.cons rfl (Sub.skip rfl (Sub.skip rfl (Sub.skip rfl (Sub.skip rfl (Sub.same rfl (by rw [g37]) (Sub.refl _))))))) (List.Sublist.refl _)
  ) ?_
  refine RunL.nil ?_
  refine RunE.next ?_
  refine RunC.cond rfl ?_ ?_
  · intro c0
    have c0' := c0; clear c0
    try simp only [decide_eq_true_eq, decide_eq_false_iff_not, Bool.not_eq_true', Bool.not_eq_false', Bool.and_eq_true, Bool.or_eq_true, Bool.and_eq_false_iff, Bool.or_eq_false_iff, Int.not_le, Int.not_lt] at c0'
    refine RunC.seq ?_
    refine RunC.region ?_
    refine RunL.callP (isCall_func rfl ent_12) rfl rfl rfl (fun w hm => awake_calls w) ?_
    refine RunL.val (Val.pure rfl) rfl rfl rfl ?_
    refine RunL.nil ?_
    refine RunE.next ?_
    refine RunC.ret ?_
    refine RunE.pass_ret ?_
    exact RunE.retP (.r1 rfl (.tmp rfl)) (by first | rfl | simp)
  · intro c0
    have c0' := c0; clear c0
    try simp only [decide_eq_true_eq, decide_eq_false_iff_not, Bool.not_eq_true', Bool.not_eq_false', Bool.and_eq_true, Bool.or_eq_true, Bool.and_eq_false_iff, Bool.or_eq_false_iff, Int.not_le, Int.not_lt] at c0'
    obtain ⟨hl, hip⟩ := c0'
    have hp := isPair_ok hip
    have hl2 : p.things.length ≤ 100000000000 := by omega
    refine RunC.skip ?_
    refine RunE.next ?_
    refine RunC.seq ?_
    refine RunC.region ?_
    refine RunL.val (Val.pure rfl) rfl rfl rfl ?_
    refine RunL.nil ?_
    refine RunE.next ?_
    refine RunC.seq ?_
    refine RunC.region ?_
    refine RunL.val (Val.pure rfl) rfl rfl rfl ?_
    refine RunL.val (Val.pure rfl) rfl rfl rfl ?_
    refine RunL.nil ?_
    refine RunE.next ?_
    refine RunC.seq ?_
    apply RunC.drawJ (J := J2 _ _ _ _ _ _) 5 fol_ (.cons .here rfl (.cons .here rfl .nil))
    · refine RunA.val (i := 0) rfl (by kernel_rfl) (by kernel_rfl) (Val.load_agg rfl (.tail _ (.head _)) ty_26 rfl) rfl rfl rfl (fun _ _ _ h => h) (.cons .here rfl (.cons .here rfl .nil)) rfl ?_
      refine RunA.val (i := 1) rfl (by kernel_rfl) (by kernel_rfl) (Val.load_agg rfl (.tail _ (.head _)) ty_26 rfl) rfl rfl rfl (fun _ _ _ h => h) (.cons .here rfl (.cons .here rfl .nil)) rfl ?_
      refine RunA.all (rs := [2, 3]) (by kernel_rfl) (by simp) (by kernel_rfl) (fun m hm => ?_)
      simp only [List.mem_cons, List.not_mem_nil, or_false] at hm
      rcases hm with rfl | rfl
      · refine RunI.new rfl (New.alloc zero_26) rfl rfl rfl (fun b9 => (RunK.toA (.cons (.there .here) rfl (.cons (.there .here) rfl .nil)) (.cons .here rfl (.cons .here rfl .nil)) rfl ?_))
        refine RunA.one (i := 3) (by kernel_rfl) (by kernel_rfl) ?_
        refine RunI.new rfl (New.alloc zero_26) rfl rfl rfl (fun b10 => (RunK.toA (.cons .here rfl (.cons (.there .here) rfl (.cons (.there .here) rfl .nil))) (.cons (.there .here) rfl (.cons (.there .here) rfl .nil)) rfl ?_))
        refine RunA.one (i := 4) (by kernel_rfl) (by kernel_rfl) ?_
        refine RunI.sto rfl (Sto.store rfl rfl (.there .here) ty_26 rfl rfl) rfl rfl (RunK.toA (.cons .here rfl (.cons (.there .here) rfl (.cons (.there .here) rfl .nil))) (.cons .here rfl (.cons .here rfl (.cons .here rfl .nil))) rfl ?_)
        refine RunA.toB (by kernel_rfl) ?_
        refine RunB.one (i := 5) (by kernel_rfl) ?_
        refine RunI.sto rfl (Sto.store rfl rfl .here ty_26 rfl rfl) rfl rfl (RunK.toB ?_)
        refine RunB.done (by kernel_rfl) ?_
        exact RunE.join2 b9 b10 (Sub.refl _) (Pick.refl _)
      · refine RunI.new rfl (New.alloc zero_26) rfl rfl rfl (fun b10 => (RunK.toA (.cons .here rfl (.cons .here rfl (.cons .here rfl .nil))) (.cons (.there .here) rfl (.cons (.there .here) rfl .nil)) rfl ?_))
        refine RunA.one (i := 2) (by kernel_rfl) (by kernel_rfl) ?_
        refine RunI.new rfl (New.alloc zero_26) rfl rfl rfl (fun b9 => (RunK.toA (.cons (.there .here) rfl (.cons (.there .here) rfl (.cons (.there .here) rfl .nil))) (.cons .here rfl (.cons .here rfl (.cons .here rfl .nil))) rfl ?_))
        refine RunA.one (i := 4) (by kernel_rfl) (by kernel_rfl) ?_
        refine RunI.sto rfl (Sto.store rfl rfl .here ty_26 rfl rfl) rfl rfl (RunK.toA (.cons (.there .here) rfl (.cons (.there .here) rfl (.cons (.there .here) rfl .nil))) (.cons .here rfl (.cons .here rfl (.cons .here rfl .nil))) rfl ?_)
        refine RunA.toB (by kernel_rfl) ?_
        refine RunB.one (i := 5) (by kernel_rfl) ?_
        refine RunI.sto rfl (Sto.store rfl rfl (.there .here) ty_26 rfl rfl) rfl rfl (RunK.toB ?_)
        refine RunB.done (by kernel_rfl) ?_
        exact RunE.join2 b9 b10 (Sub.cons (t := 10) rfl (Sub.cons (t := 9) rfl (Sub.cons (t := 45) rfl (Sub.cons (t := 44) rfl (Sub.skip rfl (Sub.skip rfl (Sub.skip rfl (Sub.skip rfl (Sub.refl _))))))))) (.cons (.there .here) rfl (.cons .here rfl (.cons .here rfl (.cons .here rfl .nil))))
    refine J2.out (fun b9 b10 => ?_)
    refine RunE.next ?_
    refine RunC.seq ?_
    refine RunC.region ?_
    refine RunL.val (Val.fieldAddr rfl fld_26_5) rfl rfl rfl ?_
    refine RunL.sto (Sto.store rfl rfl (.there .here) ty_24 rfl rfl) rfl rfl ?_
    refine RunL.val (Val.fieldAddr rfl fld_26_5) rfl rfl rfl ?_
    refine RunL.sto (Sto.store rfl rfl .here ty_24 rfl rfl) rfl rfl ?_
    refine RunL.nil ?_
    refine RunE.next ?_
    refine RunC.seq ?_
    refine RunC.seq ?_
    refine RunC.region ?_
    refine RunL.val (Val.fieldAddr rfl fld_26_5) rfl rfl rfl ?_
    refine RunL.val (Val.load_one rfl (.tail _ (.tail _ (.tail _ (.head _)))) ty_24 rfl) rfl rfl rfl ?_
    refine RunL.val (Val.len_sl rfl sl_24) rfl rfl rfl ?_
    refine RunL.val (Val.pure rfl) rfl rfl rfl ?_
    refine RunL.nil ?_
    refine RunE.next ?_
    refine RunC.block ?_
    refine RunC.loopX (X := Eng.Own × Eng.Own) (n0 := [(b5, _), (b3, _)]) (p.things.length) (fun k x q => (51, .int .i64 (k : Int)) :: q) (fun _ _ => _) (fun k x => [(b10, .cells [.int .i64 p.focal.lo, .int .i64 p.focal.hi, .int .i64 p.base.lo, .int .i64 p.base.hi, .int .i64 p.tilt, .int .i64 p.near, .int .i64 p.far, ownV x.2 k].toArray 26 (0, 0)), (b9, .cells [.int .i64 p.focal.lo, .int .i64 p.focal.hi, .int .i64 p.base.lo, .int .i64 p.base.hi, .int .i64 p.tilt, .int .i64 p.near, .int .i64 p.far, ownV x.1 k].toArray 26 (0, 0))]) (fun k x => ownB 47 x.1 (((p.things.take k).map backT).map Th.cells).flatten ++ (ownB 47 x.2 (((p.things.take k).map (onT d)).map Th.cells).flatten ++ [])) (fun k x => OwnOk 9 x.1 k (((p.things.take k).map backT).map Th.cells).flatten ∧ OwnOk 9 x.2 k (((p.things.take k).map (onT d)).map Th.cells).flatten) ((none, none) : Eng.Own × Eng.Own) ⟨OwnOk.start, OwnOk.start⟩ rfl (Sub.consE (t := 51) rfl rfl (Sub.cons (t := 1) rfl (Sub.cons (t := 3) rfl (Sub.cons (t := 5) rfl (Sub.cons (t := 6) rfl (Sub.cons (t := 7) rfl (Sub.cons (t := 8) rfl (Sub.cons (t := 9) rfl (Sub.cons (t := 10) rfl (Sub.cons (t := 49) rfl (Sub.cons (t := 50) rfl (Sub.nil _)))))))))))) (.cons .here rfl (.cons .here rfl (.cons .here rfl (.cons .here rfl (Pick.same rfl))))) ?_
    intro k x kN kI
    obtain ⟨hx1, hx2⟩ := kI
    refine RunC.seq ?_
    refine RunC.region ?_
    refine RunL.val (Val.pure rfl) rfl rfl rfl ?_
    refine RunL.nil ?_
    refine RunE.next ?_
    refine RunC.seq ?_
    refine RunC.cond rfl ?_ ?_
    · intro c1
      have c1' := c1; clear c1
      try simp only [decide_eq_true_eq, decide_eq_false_iff_not, Bool.not_eq_true', Bool.not_eq_false', Bool.and_eq_true, Bool.or_eq_true, Bool.and_eq_false_iff, Bool.or_eq_false_iff, Int.not_le, Int.not_lt] at c1'
      have hk : k < p.things.length := by omega
      obtain ⟨t, ht⟩ : ∃ t, p.things[k] = t := ⟨_, rfl⟩
      obtain ⟨⟨h1, h2, h3, h4⟩, _⟩ := hp.ths t (ht ▸ List.getElem_mem hk)
      refine RunC.skip ?_
      refine RunE.next ?_
      refine RunC.seq ?_
      refine RunC.block ?_
      refine RunC.seq ?_
      refine RunC.region ?_
      refine RunL.val (Val.indexAddr_slp rfl rfl sl_24 (by omega) (by omega) (hS.ptrM hk)) rfl rfl rfl ?_
      refine RunL.val (Val.load_gen rfl (fun w hm => hS.loadX (by decide) hm (by simp) ty_47 hk ht)) rfl rfl rfl ?_
      refine RunL.new (New.alloc zero_47) rfl rfl rfl (fun b12 => ?_)
      refine RunL.sto (Sto.store rfl rfl .here ty_47 rfl rfl) rfl rfl ?_
      refine RunL.nil ?_
      refine RunE.next ?_
      refine RunC.seq ?_
      refine RunC.draw 28 fol_ (.cons .here rfl (.cons .here rfl (.cons .here rfl (.cons .here rfl (.cons .here rfl .nil))))) ?_
      refine RunA.val (i := 0) rfl (by kernel_rfl) (by kernel_rfl) (Val.fieldAddr rfl fld_26_5) rfl rfl rfl (fun _ _ _ h => h) (.cons .here rfl (.cons .here rfl (.cons .here rfl (.cons .here rfl (.cons .here rfl .nil))))) rfl ?_
      refine RunA.val (i := 1) rfl (by kernel_rfl) (by kernel_rfl) (Val.load_one rfl (.tail _ (.tail _ (.head _))) ty_24 rfl) rfl rfl rfl (fun _ _ _ h => h) (.cons .here rfl (.cons .here rfl (.cons .here rfl (.cons .here rfl (.cons .here rfl .nil))))) rfl ?_
      refine RunA.val (i := 2) rfl (by kernel_rfl) (by kernel_rfl) (Val.pure rfl) rfl rfl rfl (fun _ _ _ h => h) (.cons .here rfl (.cons .here rfl (.cons .here rfl (.cons .here rfl (.cons .here rfl .nil))))) rfl ?_
      refine RunA.val (i := 3) rfl (by kernel_rfl) (by kernel_rfl) (Val.fieldAddr rfl fld_47_1) rfl rfl rfl (fun _ _ _ h => h) (.cons .here rfl (.cons .here rfl (.cons .here rfl (.cons .here rfl (.cons .here rfl .nil))))) rfl ?_
      refine RunA.val (i := 4) rfl (by kernel_rfl) (by kernel_rfl) (Val.fieldAddr rfl fld_45_0) rfl rfl rfl (fun _ _ _ h => h) (.cons .here rfl (.cons .here rfl (.cons .here rfl (.cons .here rfl (.cons .here rfl .nil))))) rfl ?_
      refine RunA.val (i := 5) rfl (by kernel_rfl) (by kernel_rfl) (Val.load_agg rfl (.head _) ty_23 rfl) rfl rfl rfl (fun _ _ _ h => h) (.cons .here rfl (.cons .here rfl (.cons .here rfl (.cons .here rfl (.cons .here rfl .nil))))) rfl ?_
      refine RunA.val (i := 7) rfl (by kernel_rfl) (by kernel_rfl) (Val.pure rfl) rfl rfl rfl (fun _ _ _ h => h) (.cons .here rfl (.cons .here rfl (.cons .here rfl (.cons .here rfl (.cons .here rfl .nil))))) rfl ?_
      refine RunA.val (i := 8) rfl (by kernel_rfl) (by kernel_rfl) (Val.fieldAddr rfl fld_47_1) rfl rfl rfl (fun _ _ _ h => h) (.cons .here rfl (.cons .here rfl (.cons .here rfl (.cons .here rfl (.cons .here rfl .nil))))) rfl ?_
      refine RunA.val (i := 9) rfl (by kernel_rfl) (by kernel_rfl) (Val.fieldAddr rfl fld_45_1) rfl rfl rfl (fun _ _ _ h => h) (.cons .here rfl (.cons .here rfl (.cons .here rfl (.cons .here rfl (.cons .here rfl .nil))))) rfl ?_
      refine RunA.val (i := 10) rfl (by kernel_rfl) (by kernel_rfl) (Val.load_agg rfl (.head _) ty_23 rfl) rfl rfl rfl (fun _ _ _ h => h) (.cons .here rfl (.cons .here rfl (.cons .here rfl (.cons .here rfl (.cons .here rfl .nil))))) rfl ?_
      refine RunA.val (i := 13) rfl (by kernel_rfl) (by kernel_rfl) (Val.pure rfl) rfl rfl rfl (fun _ _ _ h => h) (.cons .here rfl (.cons .here rfl (.cons .here rfl (.cons .here rfl (.cons .here rfl .nil))))) rfl ?_
      refine RunA.val (i := 14) rfl (by kernel_rfl) (by kernel_rfl) (Val.fieldAddr rfl fld_47_0) rfl rfl rfl (fun _ _ _ h => h) (.cons .here rfl (.cons .here rfl (.cons .here rfl (.cons .here rfl (.cons .here rfl .nil))))) rfl ?_
      refine RunA.val (i := 15) rfl (by kernel_rfl) (by kernel_rfl) (Val.fieldAddr rfl fld_45_0) rfl rfl rfl (fun _ _ _ h => h) (.cons .here rfl (.cons .here rfl (.cons .here rfl (.cons .here rfl (.cons .here rfl .nil))))) rfl ?_
      refine RunA.val (i := 16) rfl (by kernel_rfl) (by kernel_rfl) (Val.load_agg rfl (.head _) ty_23 rfl) rfl rfl rfl (fun _ _ _ h => h) (.cons .here rfl (.cons .here rfl (.cons .here rfl (.cons .here rfl (.cons .here rfl .nil))))) rfl ?_
      refine RunA.val (i := 18) rfl (by kernel_rfl) (by kernel_rfl) (Val.pure rfl) rfl rfl rfl (fun _ _ _ h => h) (.cons .here rfl (.cons .here rfl (.cons .here rfl (.cons .here rfl (.cons .here rfl .nil))))) rfl ?_
      refine RunA.val (i := 19) rfl (by kernel_rfl) (by kernel_rfl) (Val.fieldAddr rfl fld_47_0) rfl rfl rfl (fun _ _ _ h => h) (.cons .here rfl (.cons .here rfl (.cons .here rfl (.cons .here rfl (.cons .here rfl .nil))))) rfl ?_
      refine RunA.val (i := 20) rfl (by kernel_rfl) (by kernel_rfl) (Val.fieldAddr rfl fld_45_1) rfl rfl rfl (fun _ _ _ h => h) (.cons .here rfl (.cons .here rfl (.cons .here rfl (.cons .here rfl (.cons .here rfl .nil))))) rfl ?_
      refine RunA.val (i := 21) rfl (by kernel_rfl) (by kernel_rfl) (Val.load_agg rfl (.head _) ty_23 rfl) rfl rfl rfl (fun _ _ _ h => h) (.cons .here rfl (.cons .here rfl (.cons .here rfl (.cons .here rfl (.cons .here rfl .nil))))) rfl ?_
      refine RunA.val (i := 24) rfl (by kernel_rfl) (by kernel_rfl) (Val.fieldAddr rfl fld_47_2) rfl rfl rfl (fun _ _ _ h => h) (.cons .here rfl (.cons .here rfl (.cons .here rfl (.cons .here rfl (.cons .here rfl .nil))))) rfl ?_
      refine RunA.val (i := 25) rfl (by kernel_rfl) (by kernel_rfl) (Val.load_one rfl (.head _) ty_3 rfl) rfl rfl rfl (fun _ _ _ h => h) (.cons .here rfl (.cons .here rfl (.cons .here rfl (.cons .here rfl (.cons .here rfl .nil))))) rfl ?_
      refine RunA.one (i := 6) (by kernel_rfl) (by kernel_rfl) ?_
      refine RunI.callP rfl (isCall_value rfl rfl ent_38) rfl rfl rfl (fun w hm => lback_calls t.rx h3 w) (RunK.toA (.cons .here rfl (.cons .here rfl (.cons .here rfl (.cons .here rfl (.cons .here rfl .nil))))) (.cons .here rfl (.cons .here rfl (.cons .here rfl (.cons .here rfl (.cons .here rfl .nil))))) rfl ?_)
      refine RunA.one (i := 11) (by kernel_rfl) (by kernel_rfl) ?_
      refine RunI.callP rfl (isCall_value rfl rfl ent_38) rfl rfl rfl (fun w hm => lback_calls t.ry h4 w) (RunK.toA (.cons .here rfl (.cons .here rfl (.cons .here rfl (.cons .here rfl (.cons .here rfl .nil))))) (.cons .here rfl (.cons .here rfl (.cons .here rfl (.cons .here rfl (.cons .here rfl .nil))))) rfl ?_)
      refine RunA.val (i := 12) rfl (by kernel_rfl) (by kernel_rfl) (Val.build (parts := [(0, .tmp 61), (1, .tmp 66)]) rfl zero_45 places_45 rfl) rfl rfl rfl (fun _ _ _ h => h) (.cons .here rfl (.cons .here rfl (.cons .here rfl (.cons .here rfl (.cons .here rfl .nil))))) rfl ?_
      refine RunA.one (i := 17) (by kernel_rfl) (by kernel_rfl) ?_
      refine RunI.callP rfl (isCall_value rfl rfl ent_38) rfl rfl rfl (fun w hm => lback_calls t.lx h1 w) (RunK.toA (.cons .here rfl (.cons .here rfl (.cons .here rfl (.cons .here rfl (.cons .here rfl .nil))))) (.cons .here rfl (.cons .here rfl (.cons .here rfl (.cons .here rfl (.cons .here rfl .nil))))) rfl ?_)
      refine RunA.one (i := 22) (by kernel_rfl) (by kernel_rfl) ?_
      refine RunI.callP rfl (isCall_value rfl rfl ent_38) rfl rfl rfl (fun w hm => lback_calls t.ly h2 w) (RunK.toA (.cons .here rfl (.cons .here rfl (.cons .here rfl (.cons .here rfl (.cons .here rfl .nil))))) (.cons .here rfl (.cons .here rfl (.cons .here rfl (.cons .here rfl (.cons .here rfl .nil))))) rfl ?_)
      refine RunA.val (i := 23) rfl (by kernel_rfl) (by kernel_rfl) (Val.build (parts := [(0, .tmp 72), (1, .tmp 77)]) rfl zero_45 places_45 rfl) rfl rfl rfl (fun _ _ _ h => h) (.cons .here rfl (.cons .here rfl (.cons .here rfl (.cons .here rfl (.cons .here rfl .nil))))) rfl ?_
      refine RunA.val (i := 26) rfl (by kernel_rfl) (by kernel_rfl) (Val.build (parts := [(0, .tmp 67), (1, .tmp 78), (2, .tmp 80)]) rfl zero_47 places_47 rfl) rfl rfl rfl (fun _ _ _ h => h) (.cons .here rfl (.cons .here rfl (.cons .here rfl (.cons .here rfl (.cons .here rfl .nil))))) rfl ?_
      refine RunA.one (i := 27) (by kernel_rfl) (by kernel_rfl) ?_
      refine RunI.new rfl (New.buildSlice (parts := [(0, .tmp 81)]) rfl sl_24 zero_47 rfl rfl rfl rfl) rfl rfl rfl (fun b82 => (RunK.toA (.cons .here rfl (.cons .here rfl (.cons .here rfl (.cons .here rfl (.cons .here rfl (.cons .here rfl .nil)))))) (.cons (.there .here) rfl (.cons (.there .here) rfl (.cons (.there .here) rfl (.cons (.there .here) rfl (.cons (.there .here) rfl .nil))))) rfl ?_))
      refine RunA.toB (by kernel_rfl) ?_
      refine RunB.one (i := 28) (by kernel_rfl) ?_
      refine RunI.append (A := [(b82, _), (b12, _), (b10, _), (b9, _), (b5, _), (b3, _)]) (B := _) (x := x.1) (ys := (backT t).cells) rfl ap_24 rfl rfl rfl hx1 rfl (fun h => by cases h) (fun w hm => src_blk (hm.at (.head _))) (one_of (th_one _)) (by simp only [maxLen]; omega) (by omega) rfl (fun z83 hz83 => (RunK.toB ?_))
      refine RunB.one (i := 29) (by kernel_rfl) ?_
      obtain ⟨bz83, cz83, rz83, rfl, lz831, lz832, lz833⟩ := hz83.has (by omega)
      refine RunI.val rfl (Val.fieldAddr rfl fld_26_5) rfl rfl rfl (RunK.toB ?_)
      refine RunB.one (i := 30) (by kernel_rfl) ?_
      refine RunI.sto rfl (Sto.store rfl rfl (.there (.there (.there .here))) ty_24 rfl rfl) rfl rfl (RunK.toB ?_)
      refine RunB.done (by kernel_rfl) ?_
      refine RunE.next ?_
      refine RunC.draw 24 fol_ (.cons .here rfl (.cons .here rfl (.cons .here rfl (.cons .here rfl (.cons .here rfl (.cons .here rfl (.cons .here rfl .nil))))))) ?_
      refine RunA.val (i := 0) rfl (by kernel_rfl) (by kernel_rfl) (Val.fieldAddr rfl fld_26_5) rfl rfl rfl (fun _ _ _ h => h) (.cons .here rfl (.cons .here rfl (.cons .here rfl (.cons .here rfl (.cons .here rfl (.cons .here rfl (.cons .here rfl .nil))))))) rfl ?_
      refine RunA.val (i := 1) rfl (by kernel_rfl) (by kernel_rfl) (Val.load_one rfl (.tail _ (.tail _ (.head _))) ty_24 rfl) rfl rfl rfl (fun _ _ _ h => h) (.cons .here rfl (.cons .here rfl (.cons .here rfl (.cons .here rfl (.cons .here rfl (.cons .here rfl (.cons .here rfl .nil))))))) rfl ?_
      refine RunA.val (i := 2) rfl (by kernel_rfl) (by kernel_rfl) (Val.pure rfl) rfl rfl rfl (fun _ _ _ h => h) (.cons .here rfl (.cons .here rfl (.cons .here rfl (.cons .here rfl (.cons .here rfl (.cons .here rfl (.cons .here rfl .nil))))))) rfl ?_
      refine RunA.val (i := 3) rfl (by kernel_rfl) (by kernel_rfl) (Val.fieldAddr rfl fld_47_0) rfl rfl rfl (fun _ _ _ h => h) (.cons .here rfl (.cons .here rfl (.cons .here rfl (.cons .here rfl (.cons .here rfl (.cons .here rfl (.cons .here rfl .nil))))))) rfl ?_
      refine RunA.val (i := 4) rfl (by kernel_rfl) (by kernel_rfl) (Val.fieldAddr rfl fld_45_0) rfl rfl rfl (fun _ _ _ h => h) (.cons .here rfl (.cons .here rfl (.cons .here rfl (.cons .here rfl (.cons .here rfl (.cons .here rfl (.cons .here rfl .nil))))))) rfl ?_
      refine RunA.val (i := 5) rfl (by kernel_rfl) (by kernel_rfl) (Val.load_agg rfl (.tail _ (.head _)) ty_23 rfl) rfl rfl rfl (fun _ _ _ h => h) (.cons .here rfl (.cons .here rfl (.cons .here rfl (.cons .here rfl (.cons .here rfl (.cons .here rfl (.cons .here rfl .nil))))))) rfl ?_
      refine RunA.val (i := 7) rfl (by kernel_rfl) (by kernel_rfl) (Val.fieldAddr rfl fld_47_0) rfl rfl rfl (fun _ _ _ h => h) (.cons .here rfl (.cons .here rfl (.cons .here rfl (.cons .here rfl (.cons .here rfl (.cons .here rfl (.cons .here rfl .nil))))))) rfl ?_
      refine RunA.val (i := 8) rfl (by kernel_rfl) (by kernel_rfl) (Val.fieldAddr rfl fld_45_1) rfl rfl rfl (fun _ _ _ h => h) (.cons .here rfl (.cons .here rfl (.cons .here rfl (.cons .here rfl (.cons .here rfl (.cons .here rfl (.cons .here rfl .nil))))))) rfl ?_
      refine RunA.val (i := 9) rfl (by kernel_rfl) (by kernel_rfl) (Val.load_agg rfl (.tail _ (.head _)) ty_23 rfl) rfl rfl rfl (fun _ _ _ h => h) (.cons .here rfl (.cons .here rfl (.cons .here rfl (.cons .here rfl (.cons .here rfl (.cons .here rfl (.cons .here rfl .nil))))))) rfl ?_
      refine RunA.val (i := 11) rfl (by kernel_rfl) (by kernel_rfl) (Val.pure rfl) rfl rfl rfl (fun _ _ _ h => h) (.cons .here rfl (.cons .here rfl (.cons .here rfl (.cons .here rfl (.cons .here rfl (.cons .here rfl (.cons .here rfl .nil))))))) rfl ?_
      refine RunA.val (i := 12) rfl (by kernel_rfl) (by kernel_rfl) (Val.fieldAddr rfl fld_47_1) rfl rfl rfl (fun _ _ _ h => h) (.cons .here rfl (.cons .here rfl (.cons .here rfl (.cons .here rfl (.cons .here rfl (.cons .here rfl (.cons .here rfl .nil))))))) rfl ?_
      refine RunA.val (i := 13) rfl (by kernel_rfl) (by kernel_rfl) (Val.fieldAddr rfl fld_45_0) rfl rfl rfl (fun _ _ _ h => h) (.cons .here rfl (.cons .here rfl (.cons .here rfl (.cons .here rfl (.cons .here rfl (.cons .here rfl (.cons .here rfl .nil))))))) rfl ?_
      refine RunA.val (i := 14) rfl (by kernel_rfl) (by kernel_rfl) (Val.load_agg rfl (.tail _ (.head _)) ty_23 rfl) rfl rfl rfl (fun _ _ _ h => h) (.cons .here rfl (.cons .here rfl (.cons .here rfl (.cons .here rfl (.cons .here rfl (.cons .here rfl (.cons .here rfl .nil))))))) rfl ?_
      refine RunA.val (i := 16) rfl (by kernel_rfl) (by kernel_rfl) (Val.fieldAddr rfl fld_47_1) rfl rfl rfl (fun _ _ _ h => h) (.cons .here rfl (.cons .here rfl (.cons .here rfl (.cons .here rfl (.cons .here rfl (.cons .here rfl (.cons .here rfl .nil))))))) rfl ?_
      refine RunA.val (i := 17) rfl (by kernel_rfl) (by kernel_rfl) (Val.fieldAddr rfl fld_45_1) rfl rfl rfl (fun _ _ _ h => h) (.cons .here rfl (.cons .here rfl (.cons .here rfl (.cons .here rfl (.cons .here rfl (.cons .here rfl (.cons .here rfl .nil))))))) rfl ?_
      refine RunA.val (i := 18) rfl (by kernel_rfl) (by kernel_rfl) (Val.load_agg rfl (.tail _ (.head _)) ty_23 rfl) rfl rfl rfl (fun _ _ _ h => h) (.cons .here rfl (.cons .here rfl (.cons .here rfl (.cons .here rfl (.cons .here rfl (.cons .here rfl (.cons .here rfl .nil))))))) rfl ?_
      refine RunA.val (i := 20) rfl (by kernel_rfl) (by kernel_rfl) (Val.fieldAddr rfl fld_47_2) rfl rfl rfl (fun _ _ _ h => h) (.cons .here rfl (.cons .here rfl (.cons .here rfl (.cons .here rfl (.cons .here rfl (.cons .here rfl (.cons .here rfl .nil))))))) rfl ?_
      refine RunA.val (i := 21) rfl (by kernel_rfl) (by kernel_rfl) (Val.load_one rfl (.tail _ (.head _)) ty_3 rfl) rfl rfl rfl (fun _ _ _ h => h) (.cons .here rfl (.cons .here rfl (.cons .here rfl (.cons .here rfl (.cons .here rfl (.cons .here rfl (.cons .here rfl .nil))))))) rfl ?_
      refine RunA.one (i := 6) (by kernel_rfl) (by kernel_rfl) ?_
      refine RunI.callP rfl (isCall_value rfl rfl ent_39) rfl rfl rfl (fun w hm => lon_calls t.lx h1 d hd b5 w (hm.at (.tail _ (.tail _ (.tail _ (.tail _ (.head _))))))) (RunK.toA (.cons .here rfl (.cons .here rfl (.cons .here rfl (.cons .here rfl (.cons .here rfl (.cons .here rfl (.cons .here rfl .nil))))))) (.cons .here rfl (.cons .here rfl (.cons .here rfl (.cons .here rfl (.cons .here rfl (.cons .here rfl (.cons .here rfl .nil))))))) rfl ?_)
      refine RunA.val (i := 10) rfl (by kernel_rfl) (by kernel_rfl) (Val.build (parts := [(0, .tmp 91), (1, .tmp 94)]) rfl zero_45 places_45 rfl) rfl rfl rfl (fun _ _ _ h => h) (.cons .here rfl (.cons .here rfl (.cons .here rfl (.cons .here rfl (.cons .here rfl (.cons .here rfl (.cons .here rfl .nil))))))) rfl ?_
      refine RunA.one (i := 15) (by kernel_rfl) (by kernel_rfl) ?_
      refine RunI.callP rfl (isCall_value rfl rfl ent_39) rfl rfl rfl (fun w hm => lon_calls t.rx h3 d hd b5 w (hm.at (.tail _ (.tail _ (.tail _ (.tail _ (.head _))))))) (RunK.toA (.cons .here rfl (.cons .here rfl (.cons .here rfl (.cons .here rfl (.cons .here rfl (.cons .here rfl (.cons .here rfl .nil))))))) (.cons .here rfl (.cons .here rfl (.cons .here rfl (.cons .here rfl (.cons .here rfl (.cons .here rfl (.cons .here rfl .nil))))))) rfl ?_)
      refine RunA.val (i := 19) rfl (by kernel_rfl) (by kernel_rfl) (Val.build (parts := [(0, .tmp 100), (1, .tmp 103)]) rfl zero_45 places_45 rfl) rfl rfl rfl (fun _ _ _ h => h) (.cons .here rfl (.cons .here rfl (.cons .here rfl (.cons .here rfl (.cons .here rfl (.cons .here rfl (.cons .here rfl .nil))))))) rfl ?_
      refine RunA.val (i := 22) rfl (by kernel_rfl) (by kernel_rfl) (Val.build (parts := [(0, .tmp 95), (1, .tmp 104), (2, .tmp 106)]) rfl zero_47 places_47 rfl) rfl rfl rfl (fun _ _ _ h => h) (.cons .here rfl (.cons .here rfl (.cons .here rfl (.cons .here rfl (.cons .here rfl (.cons .here rfl (.cons .here rfl .nil))))))) rfl ?_
      refine RunA.one (i := 23) (by kernel_rfl) (by kernel_rfl) ?_
      refine RunI.new rfl (New.buildSlice (parts := [(0, .tmp 107)]) rfl sl_24 zero_47 rfl rfl rfl rfl) rfl rfl rfl (fun b108 => (RunK.toA (.cons .here rfl (.cons .here rfl (.cons .here rfl (.cons .here rfl (.cons .here rfl (.cons .here rfl (.cons .here rfl (.cons .here rfl .nil)))))))) (.cons (.there .here) rfl (.cons (.there .here) rfl (.cons (.there .here) rfl (.cons (.there .here) rfl (.cons (.there .here) rfl (.cons (.there .here) rfl (.cons (.there .here) rfl .nil))))))) rfl ?_))
      refine RunA.toB (by kernel_rfl) ?_
      refine RunB.one (i := 24) (by kernel_rfl) ?_
      refine RunI.append (A := [(b108, _), (b82, _), (b12, _), (b10, _), (b9, _), (b5, _), (b3, _), (bz83, _)]) (B := _) (x := x.2) (ys := (onT d t).cells) rfl ap_24 rfl rfl rfl hx2 rfl (fun h => by cases h) (fun w hm => src_blk (hm.at (.head _))) (one_of (th_one _)) (by simp only [maxLen]; omega) (by omega) rfl (fun z109 hz109 => (RunK.toB ?_))
      refine RunB.one (i := 25) (by kernel_rfl) ?_
      obtain ⟨bz109, cz109, rz109, rfl, lz1091, lz1092, lz1093⟩ := hz109.has (by omega)
      refine RunI.val rfl (Val.fieldAddr rfl fld_26_5) rfl rfl rfl (RunK.toB ?_)
      refine RunB.one (i := 26) (by kernel_rfl) ?_
      refine RunI.sto rfl (Sto.store rfl rfl (.there (.there (.there .here))) ty_24 rfl rfl) rfl rfl (RunK.toB ?_)
      refine RunB.done (by kernel_rfl) ?_
      refine RunE.block_normal ?_
      refine RunE.next ?_
      refine RunC.region ?_
      refine RunL.val (Val.add rfl rfl (IntWalk.i64_in _ ⟨by omega, by omega⟩)) rfl rfl rfl ?_
      refine RunL.val (Val.pure rfl) rfl rfl rfl ?_
      refine RunL.nil ?_
      exact RunE.roundX ((some (bz83, cz83, rz83)), (some (bz109, cz109, rz109))) (by omega) ⟨by rw [← take_map_snoc hk ht, ← flat_snoc]; exact hz83, by rw [← take_map_snoc hk ht, ← flat_snoc]; exact hz109⟩ rfl (Sub.consE (t := 51) rfl rfl (Sub.cons (t := 1) rfl (Sub.cons (t := 3) rfl (Sub.cons (t := 5) rfl (Sub.cons (t := 6) rfl (Sub.cons (t := 7) rfl (Sub.cons (t := 8) rfl (Sub.cons (t := 9) rfl (Sub.cons (t := 10) rfl (Sub.cons (t := 49) rfl (Sub.cons (t := 50) rfl (Sub.nil _)))))))))))) (.cons (.there (.there (.there .here))) rfl (.cons (.there (.there (.there .here))) rfl (.cons (.there (.there (.there .here))) rfl (.cons (.there (.there (.there .here))) rfl (.cons (.there (.there (.there .here))) (by rw [← take_map_snoc hk ht, ← flat_snoc]) (.cons (.there (.there (.there .here))) (by rw [← take_map_snoc hk ht, ← flat_snoc]) .nil))))))
    · intro c1
      have c1' := c1; clear c1
      try simp only [decide_eq_true_eq, decide_eq_false_iff_not, Bool.not_eq_true', Bool.not_eq_false', Bool.and_eq_true, Bool.or_eq_true, Bool.and_eq_false_iff, Bool.or_eq_false_iff, Int.not_le, Int.not_lt] at c1'
      obtain rfl : k = p.things.length := by omega
      rw [List.take_length] at hx1 hx2
      have y1 : ownV x.1 p.things.length = .slice (ownQ x.1) (backP p).things.length (ownC x.1) := by rw [ownV_slice hx1]; simp [backP]
      have y2 : ownV x.2 p.things.length = .slice (ownQ x.2) (onP d p).things.length (ownC x.2) := by rw [ownV_slice hx2]; simp [onP]
      have hLL := turnL_all (by omega) hx1 hx2
      simp only [List.take_length, y1, y2]
      refine RunC.exit ?_
      refine RunE.pass_exit ?_
      refine RunE.pass_exit ?_
      refine RunE.block_here ?_
      refine RunE.next ?_
      refine RunC.seq ?_
      refine RunC.region ?_
      refine RunL.val (Val.load_agg rfl (.tail _ (.tail _ (.tail _ (.head _)))) ty_26 rfl) rfl rfl rfl ?_
      refine RunL.callP (isCall_func rfl ent_17) rfl rfl rfl (fun w hm => Power_calls p q b o cap w (hS.mono (by decide) hm (by simp)) hl2) ?_
      iterate 3 refine RunL.val (Val.pure rfl) rfl rfl rfl ?_
      refine RunL.new (New.alloc zero_23) rfl rfl rfl (fun b13 => ?_)
      refine RunL.sto (Sto.store rfl rfl .here ty_23 rfl rfl) rfl rfl ?_
      refine RunL.val (Val.pure rfl) rfl rfl rfl ?_
      refine RunL.nil ?_
      refine RunE.next ?_
      refine RunC.seq ?_
      refine RunC.region ?_
      refine RunL.val (Val.load_agg rfl (.tail _ (.tail _ (.tail _ (.tail _ (.head _))))) ty_26 rfl) rfl rfl rfl ?_
      refine RunL.val (Val.pure rfl) rfl rfl rfl ?_
      refine RunL.callP (isCall_func rfl ent_23) rfl rfl rfl (fun w hm => Distance_calls p _ q b o cap w (hS.mono (by decide) hm (by simp)) hl2) ?_
      iterate 3 refine RunL.val (Val.pure rfl) rfl rfl rfl ?_
      refine RunL.new (New.alloc zero_23) rfl rfl rfl (fun b15 => ?_)
      refine RunL.sto (Sto.store rfl rfl .here ty_23 rfl rfl) rfl rfl ?_
      refine RunL.val (Val.pure rfl) rfl rfl rfl ?_
      refine RunL.nil ?_
      refine RunE.next ?_
      refine RunC.seq ?_
      refine RunC.region ?_
      refine RunL.val (Val.load_agg rfl (.tail _ (.tail _ (.tail _ (.tail _ (.tail _ (.head _)))))) ty_26 rfl) rfl rfl rfl ?_
      refine RunL.val (Val.pure rfl) rfl rfl rfl ?_
      refine RunL.callP (isCall_func rfl ent_21) rfl rfl rfl (fun w hm => Why_calls p _ q b o cap w (hS.mono (by decide) hm (by simp)) hl2) ?_
      iterate 5 refine RunL.val (Val.pure rfl) rfl rfl rfl ?_
      refine RunL.nil ?_
      refine RunE.next ?_
      refine RunC.seq ?_
      refine RunC.region ?_
      refine RunL.val (Val.load_agg rfl (.tail _ (.tail _ (.tail _ (.tail _ (.tail _ (.head _)))))) ty_26 rfl) rfl rfl rfl ?_
      refine RunL.callP (isCall_func rfl ent_25) rfl rfl rfl (fun w hm => Fewest_calls p q b o cap w (hS.mono (by decide) hm (by simp)) hl2) ?_
      iterate 4 refine RunL.val (Val.pure rfl) rfl rfl rfl ?_
      refine RunL.new (New.alloc zero_23) rfl rfl rfl (fun b20 => ?_)
      refine RunL.val (Val.pure rfl) rfl rfl rfl ?_
      refine RunL.sto (Sto.store rfl rfl .here ty_23 rfl rfl) rfl rfl ?_
      refine RunL.val (Val.pure rfl) rfl rfl rfl ?_
      refine RunL.nil ?_
      refine RunE.next ?_
      refine RunC.seq ?_
      refine RunC.seq ?_
      refine RunC.region ?_
      refine RunL.val (Val.load_agg rfl (.tail _ (.tail _ (.tail _ (.tail _ (.head _))))) ty_26 rfl) rfl rfl rfl ?_
      refine RunL.val (Val.load_agg rfl (.tail _ (.tail _ (.tail _ (.head _)))) ty_26 rfl) rfl rfl rfl ?_
      refine RunL.new (New.buildSlice (parts := [(0, .tmp 135), (1, .tmp 136)]) rfl sl_64 zero_26 rfl rfl rfl rfl) rfl rfl rfl (fun b137 => ?_)
      refine RunL.val (Val.len_sl rfl sl_64) rfl rfl rfl ?_
      refine RunL.val (Val.pure rfl) rfl rfl rfl ?_
      refine RunL.nil ?_
      refine RunE.next ?_
      refine RunC.block ?_
      refine RunC.loopK (2) (fun k q => (139, .int .i64 (k : Int)) :: q) (fun _ => _) (fun _ => []) (fun _ => True) trivial rfl (Sub.consE (t := 139) rfl rfl (Sub.cons (t := 1) rfl (Sub.cons (t := 3) rfl (Sub.cons (t := 6) rfl (Sub.cons (t := 13) rfl (Sub.cons (t := 14) rfl (Sub.cons (t := 15) rfl (Sub.cons (t := 16) rfl (Sub.cons (t := 17) rfl (Sub.cons (t := 18) rfl (Sub.cons (t := 19) rfl (Sub.cons (t := 20) rfl (Sub.cons (t := 21) rfl (Sub.cons (t := 137) rfl (Sub.cons (t := 138) rfl (Sub.nil _)))))))))))))))) (.cons .here rfl (.cons .here rfl (.cons .here rfl (.cons .here rfl (.cons .here rfl (.cons .here rfl (.cons .here rfl (.cons .here rfl (Pick.refl _))))))))) ?_
      intro k kN kI
      clear kI
      refine RunC.seq ?_
      refine RunC.region ?_
      refine RunL.val (Val.pure rfl) rfl rfl rfl ?_
      refine RunL.nil ?_
      refine RunE.next ?_
      refine RunC.seq ?_
      refine RunC.cond rfl ?_ ?_
      · intro c2
        have c2' := c2; clear c2
        try simp only [decide_eq_true_eq, decide_eq_false_iff_not, Bool.not_eq_true', Bool.not_eq_false', Bool.and_eq_true, Bool.or_eq_true, Bool.and_eq_false_iff, Bool.or_eq_false_iff, Int.not_le, Int.not_lt] at c2'
        have hk : k < 2 := by omega
        obtain ⟨⟨P, Q, B, C⟩, hZ⟩ : ∃ Z : Cell, (turnL p d x)[k]'hk = Z := ⟨_, rfl⟩
        obtain ⟨hs, hlZ, hSZ⟩ := hLL _ (hZ ▸ List.getElem_mem hk)
        refine RunC.skip ?_
        refine RunE.next ?_
        refine RunC.seq ?_
        refine RunC.block ?_
        refine RunC.seq ?_
        refine RunC.region ?_
        refine RunL.val (Val.indexAddr_sl rfl rfl sl_64 (by omega) (by omega)) rfl rfl rfl ?_
        refine RunL.val (Val.load_gen rfl (fun w hm => (Sl.rows (xs := (turnL p d x).map Cell.c) (hm.at (.head _)) (by simp [turnL, Cell.c, Pr.cells])).loadX (f := Cell.c) (by decide) (Mem.refl w) (by simp) ty_26 hk hZ)) rfl rfl rfl ?_
        refine RunL.new (New.alloc zero_26) rfl rfl rfl (fun b23 => ?_)
        refine RunL.sto (Sto.store rfl rfl .here ty_26 rfl rfl) rfl rfl ?_
        refine RunL.nil ?_
        refine RunE.next ?_
        refine RunC.seq ?_
        refine RunC.seq ?_
        refine RunC.region ?_
        refine RunL.val (Val.load_agg rfl (.head _) ty_26 rfl) rfl rfl rfl ?_
        refine RunL.callP (isCall_func rfl ent_32) rfl rfl rfl (fun w hm => rPair_calls P Q B 0 C w (hSZ w (fun b o h => hm.at (.tail _ (.tail _ (.tail _ (.tail _ (.tail _ (.tail _ (.tail _ (.tail _ (.tail _ (h)))))))))))) hlZ) ?_
        refine RunL.val (Val.pure rfl) rfl rfl rfl ?_
        refine RunL.nil ?_
        refine RunE.next ?_
        refine RunC.cond rfl ?_ ?_
        · intro c3
          have c3' := c3; clear c3
          try simp only [decide_eq_true_eq, decide_eq_false_iff_not, Bool.not_eq_true', Bool.not_eq_false', Bool.and_eq_true, Bool.or_eq_true, Bool.and_eq_false_iff, Bool.or_eq_false_iff, Int.not_le, Int.not_lt] at c3'
          refine RunC.exit ?_
          refine RunE.pass_exit ?_
          refine RunE.block_here ?_
          refine RunE.next ?_
          refine RunC.region ?_
          refine RunL.val (Val.add rfl rfl (IntWalk.i64_in _ ⟨by omega, by omega⟩)) rfl rfl rfl ?_
          refine RunL.val (Val.pure rfl) rfl rfl rfl ?_
          refine RunL.nil ?_
          exact RunE.round (by omega) trivial rfl (Sub.consE (t := 139) rfl rfl (Sub.cons (t := 1) rfl (Sub.cons (t := 3) rfl (Sub.cons (t := 6) rfl (Sub.cons (t := 13) rfl (Sub.cons (t := 14) rfl (Sub.cons (t := 15) rfl (Sub.cons (t := 16) rfl (Sub.cons (t := 17) rfl (Sub.cons (t := 18) rfl (Sub.cons (t := 19) rfl (Sub.cons (t := 20) rfl (Sub.cons (t := 21) rfl (Sub.cons (t := 137) rfl (Sub.cons (t := 138) rfl (Sub.nil _)))))))))))))))) (.cons (.there .here) rfl (.cons (.there .here) rfl (.cons (.there .here) rfl (.cons (.there .here) rfl (.cons (.there .here) rfl (.cons (.there .here) rfl (.cons (.there .here) rfl (.cons (.there .here) rfl (Pick.skip (Pick.refl _))))))))))
        · intro c3
          have c3' := c3; clear c3
          try simp only [decide_eq_true_eq, decide_eq_false_iff_not, Bool.not_eq_true', Bool.not_eq_false', Bool.and_eq_true, Bool.or_eq_true, Bool.and_eq_false_iff, Bool.or_eq_false_iff, Int.not_le, Int.not_lt] at c3'
          have hP := c3'
          have q1 := hs.power hip hP
          have q2 := hs.dist hip hP n
          have q3 := hs.why hip hP n
          have q4 := hs.few hip hP
          refine RunC.skip ?_
          refine RunE.next ?_
          refine RunC.seq ?_
          refine RunC.region ?_
          refine RunL.val (Val.load_agg rfl (.head _) ty_26 rfl) rfl rfl rfl ?_
          refine RunL.callP (isCall_func rfl ent_17) rfl rfl rfl (fun w hm => Power_calls P Q B 0 C w (hSZ w (fun b o h => hm.at (.tail _ (.tail _ (.tail _ (.tail _ (.tail _ (.tail _ (.tail _ (.tail _ (.tail _ (h)))))))))))) hlZ) ?_
          iterate 3 refine RunL.val (Val.pure rfl) rfl rfl rfl ?_
          refine RunL.new (New.alloc zero_23) rfl rfl rfl (fun b24 => ?_)
          refine RunL.sto (Sto.store rfl rfl .here ty_23 rfl rfl) rfl rfl ?_
          refine RunL.val (Val.pure rfl) rfl rfl rfl ?_
          refine RunL.nil ?_
          refine RunE.next ?_
          refine RunC.seq ?_
          refine RunC.region ?_
          refine RunL.val (Val.load_agg rfl (.tail _ (.head _)) ty_26 rfl) rfl rfl rfl ?_
          refine RunL.val (Val.pure rfl) rfl rfl rfl ?_
          refine RunL.callP (isCall_func rfl ent_23) rfl rfl rfl (fun w hm => Distance_calls P _ Q B 0 C w (hSZ w (fun b o h => hm.at (.tail _ (.tail _ (.tail _ (.tail _ (.tail _ (.tail _ (.tail _ (.tail _ (.tail _ (.tail _ (h))))))))))))) hlZ) ?_
          iterate 3 refine RunL.val (Val.pure rfl) rfl rfl rfl ?_
          refine RunL.new (New.alloc zero_23) rfl rfl rfl (fun b26 => ?_)
          refine RunL.sto (Sto.store rfl rfl .here ty_23 rfl rfl) rfl rfl ?_
          refine RunL.val (Val.pure rfl) rfl rfl rfl ?_
          refine RunL.nil ?_
          refine RunE.next ?_
          refine RunC.seq ?_
          refine RunC.region ?_
          refine RunL.val (Val.load_agg rfl (.tail _ (.tail _ (.head _))) ty_26 rfl) rfl rfl rfl ?_
          refine RunL.val (Val.pure rfl) rfl rfl rfl ?_
          refine RunL.callP (isCall_func rfl ent_21) rfl rfl rfl (fun w hm => Why_calls P _ Q B 0 C w (hSZ w (fun b o h => hm.at (.tail _ (.tail _ (.tail _ (.tail _ (.tail _ (.tail _ (.tail _ (.tail _ (.tail _ (.tail _ (.tail _ (h)))))))))))))) hlZ) ?_
          iterate 5 refine RunL.val (Val.pure rfl) rfl rfl rfl ?_
          refine RunL.nil ?_
          refine RunE.next ?_
          refine RunC.seq ?_
          refine RunC.region ?_
          refine RunL.val (Val.load_agg rfl (.tail _ (.tail _ (.head _))) ty_26 rfl) rfl rfl rfl ?_
          refine RunL.callP (isCall_func rfl ent_25) rfl rfl rfl (fun w hm => Fewest_calls P Q B 0 C w (hSZ w (fun b o h => hm.at (.tail _ (.tail _ (.tail _ (.tail _ (.tail _ (.tail _ (.tail _ (.tail _ (.tail _ (.tail _ (.tail _ (h)))))))))))))) hlZ) ?_
          iterate 4 refine RunL.val (Val.pure rfl) rfl rfl rfl ?_
          refine RunL.new (New.alloc zero_23) rfl rfl rfl (fun b31 => ?_)
          refine RunL.val (Val.pure rfl) rfl rfl rfl ?_
          refine RunL.sto (Sto.store rfl rfl .here ty_23 rfl rfl) rfl rfl ?_
          refine RunL.val (Val.pure rfl) rfl rfl rfl ?_
          refine RunL.nil ?_
          refine RunE.next ?_
          refine RunC.seq ?_
          refine RunC.region ?_
          refine RunL.val (Val.load_agg rfl (.tail _ (.tail _ (.tail _ (.tail _ (.tail _ (.tail _ (.tail _ (.head _)))))))) ty_23 rfl) rfl rfl rfl ?_
          refine RunL.val (Val.load_agg rfl (.tail _ (.tail _ (.head _))) ty_23 rfl) rfl rfl rfl ?_
          refine RunL.val (Val.neq_pair rfl rfl pair_23) rfl rfl rfl ?_
          refine RunL.val (Val.pure rfl) rfl rfl rfl ?_
          refine RunL.orPart (dj := 172) (dp := 176) 4 rfl (fun g172 => by
            have g172' := g172
            try simp only [decide_eq_true_eq, decide_eq_false_iff_not, Bool.not_eq_true', Bool.not_eq_false', Bool.and_eq_true, Bool.or_eq_true, Bool.and_eq_false_iff, Bool.or_eq_false_iff, Int.not_le, Int.not_lt] at g172'
            iterate 4 refine RunL.val (Val.pure rfl) rfl rfl rfl ?_
            exact RunL.segEnd (Sub.cons rfl (Sub.skip rfl (Sub.skip rfl (Sub.skip rfl (Sub.skip rfl (Sub.same rfl (by rw [g172]) (Sub.refl _))))))) (List.Sublist.refl _)
          ) (fun g172 => by
            have g172' := g172
            try simp only [decide_eq_true_eq, decide_eq_false_iff_not, Bool.not_eq_true', Bool.not_eq_false', Bool.and_eq_true, Bool.or_eq_true, Bool.and_eq_false_iff, Bool.or_eq_false_iff, Int.not_le, Int.not_lt] at g172'
            iterate 3 refine RunL.no rfl rfl rfl ?_
            refine RunL.val (Val.pure rfl) rfl rfl rfl ?_
            exact RunL.segEnd (Sub.cons rfl (Sub.skip rfl (Sub.skip rfl (Sub.skip rfl (Sub.skip rfl (Sub.same rfl (by rw [g172]) (Sub.refl _))))))) (List.Sublist.refl _)
          ) ?_
          refine RunL.val (Val.pure rfl) rfl rfl rfl ?_
          refine RunL.orPart (dj := 177) (dp := 181) 4 rfl (fun g177 => by
            have g177' := g177
            try simp only [decide_eq_true_eq, decide_eq_false_iff_not, Bool.not_eq_true', Bool.not_eq_false', Bool.and_eq_true, Bool.or_eq_true, Bool.and_eq_false_iff, Bool.or_eq_false_iff, Int.not_le, Int.not_lt] at g177'
            refine RunL.val (Val.load_agg rfl (.tail _ (.tail _ (.tail _ (.tail _ (.tail _ (.tail _ (.head _))))))) ty_23 rfl) rfl rfl rfl ?_
            refine RunL.val (Val.load_agg rfl (.tail _ (.head _)) ty_23 rfl) rfl rfl rfl ?_
            refine RunL.val (Val.neq_pair rfl rfl pair_23) rfl rfl rfl ?_
            refine RunL.val (Val.pure rfl) rfl rfl rfl ?_
            exact RunL.segEnd (Sub.cons rfl (Sub.skip rfl (Sub.skip rfl (Sub.skip rfl (Sub.skip rfl (Sub.same rfl (by rw [g177]) (Sub.refl _))))))) (List.Sublist.refl _)
          ) (fun g177 => by
            have g177' := g177
            try simp only [decide_eq_true_eq, decide_eq_false_iff_not, Bool.not_eq_true', Bool.not_eq_false', Bool.and_eq_true, Bool.or_eq_true, Bool.and_eq_false_iff, Bool.or_eq_false_iff, Int.not_le, Int.not_lt] at g177'
            iterate 3 refine RunL.no rfl rfl rfl ?_
            refine RunL.val (Val.pure rfl) rfl rfl rfl ?_
            exact RunL.segEnd (Sub.cons rfl (Sub.skip rfl (Sub.skip rfl (Sub.skip rfl (Sub.skip rfl (Sub.same rfl (by rw [g177]) (Sub.refl _))))))) (List.Sublist.refl _)
          ) ?_
          refine RunL.val (Val.pure rfl) rfl rfl rfl ?_
          refine RunL.orPart (dj := 182) (dp := 186) 4 rfl (fun g182 => by
            have g182' := g182
            try simp only [decide_eq_true_eq, decide_eq_false_iff_not, Bool.not_eq_true', Bool.not_eq_false', Bool.and_eq_true, Bool.or_eq_true, Bool.and_eq_false_iff, Bool.or_eq_false_iff, Int.not_le, Int.not_lt] at g182'
            iterate 4 refine RunL.val (Val.pure rfl) rfl rfl rfl ?_
            exact RunL.segEnd (Sub.cons rfl (Sub.skip rfl (Sub.skip rfl (Sub.skip rfl (Sub.skip rfl (Sub.same rfl (by rw [g182]) (Sub.refl _))))))) (List.Sublist.refl _)
          ) (fun g182 => by
            have g182' := g182
            try simp only [decide_eq_true_eq, decide_eq_false_iff_not, Bool.not_eq_true', Bool.not_eq_false', Bool.and_eq_true, Bool.or_eq_true, Bool.and_eq_false_iff, Bool.or_eq_false_iff, Int.not_le, Int.not_lt] at g182'
            iterate 3 refine RunL.no rfl rfl rfl ?_
            refine RunL.val (Val.pure rfl) rfl rfl rfl ?_
            exact RunL.segEnd (Sub.cons rfl (Sub.skip rfl (Sub.skip rfl (Sub.skip rfl (Sub.skip rfl (Sub.same rfl (by rw [g182]) (Sub.refl _))))))) (List.Sublist.refl _)
          ) ?_
          refine RunL.val (Val.pure rfl) rfl rfl rfl ?_
          refine RunL.orPart (dj := 187) (dp := 191) 4 rfl (fun g187 => by
            have g187' := g187
            try simp only [decide_eq_true_eq, decide_eq_false_iff_not, Bool.not_eq_true', Bool.not_eq_false', Bool.and_eq_true, Bool.or_eq_true, Bool.and_eq_false_iff, Bool.or_eq_false_iff, Int.not_le, Int.not_lt] at g187'
            iterate 4 refine RunL.val (Val.pure rfl) rfl rfl rfl ?_
            exact RunL.segEnd (Sub.cons rfl (Sub.skip rfl (Sub.skip rfl (Sub.skip rfl (Sub.skip rfl (Sub.same rfl (by rw [g187]) (Sub.refl _))))))) (List.Sublist.refl _)
          ) (fun g187 => by
            have g187' := g187
            try simp only [decide_eq_true_eq, decide_eq_false_iff_not, Bool.not_eq_true', Bool.not_eq_false', Bool.and_eq_true, Bool.or_eq_true, Bool.and_eq_false_iff, Bool.or_eq_false_iff, Int.not_le, Int.not_lt] at g187'
            iterate 3 refine RunL.no rfl rfl rfl ?_
            refine RunL.val (Val.pure rfl) rfl rfl rfl ?_
            exact RunL.segEnd (Sub.cons rfl (Sub.skip rfl (Sub.skip rfl (Sub.skip rfl (Sub.skip rfl (Sub.same rfl (by rw [g187]) (Sub.refl _))))))) (List.Sublist.refl _)
          ) ?_
          refine RunL.val (Val.pure rfl) rfl rfl rfl ?_
          refine RunL.orPart (dj := 192) (dp := 196) 4 rfl (fun g192 => by
            have g192' := g192
            try simp only [decide_eq_true_eq, decide_eq_false_iff_not, Bool.not_eq_true', Bool.not_eq_false', Bool.and_eq_true, Bool.or_eq_true, Bool.and_eq_false_iff, Bool.or_eq_false_iff, Int.not_le, Int.not_lt] at g192'
            iterate 4 refine RunL.val (Val.pure rfl) rfl rfl rfl ?_
            exact RunL.segEnd (Sub.cons rfl (Sub.skip rfl (Sub.skip rfl (Sub.skip rfl (Sub.skip rfl (Sub.same rfl (by rw [g192]) (Sub.refl _))))))) (List.Sublist.refl _)
          ) (fun g192 => by
            have g192' := g192
            try simp only [decide_eq_true_eq, decide_eq_false_iff_not, Bool.not_eq_true', Bool.not_eq_false', Bool.and_eq_true, Bool.or_eq_true, Bool.and_eq_false_iff, Bool.or_eq_false_iff, Int.not_le, Int.not_lt] at g192'
            iterate 3 refine RunL.no rfl rfl rfl ?_
            refine RunL.val (Val.pure rfl) rfl rfl rfl ?_
            exact RunL.segEnd (Sub.cons rfl (Sub.skip rfl (Sub.skip rfl (Sub.skip rfl (Sub.skip rfl (Sub.same rfl (by rw [g192]) (Sub.refl _))))))) (List.Sublist.refl _)
          ) ?_
          refine RunL.val (Val.pure rfl) rfl rfl rfl ?_
          refine RunL.orPart (dj := 197) (dp := 201) 4 rfl (fun g197 => by
            have g197' := g197
            try simp only [decide_eq_true_eq, decide_eq_false_iff_not, Bool.not_eq_true', Bool.not_eq_false', Bool.and_eq_true, Bool.or_eq_true, Bool.and_eq_false_iff, Bool.or_eq_false_iff, Int.not_le, Int.not_lt] at g197'
            iterate 4 refine RunL.val (Val.pure rfl) rfl rfl rfl ?_
            exact RunL.segEnd (Sub.cons rfl (Sub.skip rfl (Sub.skip rfl (Sub.skip rfl (Sub.skip rfl (Sub.same rfl (by rw [g197]) (Sub.refl _))))))) (List.Sublist.refl _)
          ) (fun g197 => by
            have g197' := g197
            try simp only [decide_eq_true_eq, decide_eq_false_iff_not, Bool.not_eq_true', Bool.not_eq_false', Bool.and_eq_true, Bool.or_eq_true, Bool.and_eq_false_iff, Bool.or_eq_false_iff, Int.not_le, Int.not_lt] at g197'
            iterate 3 refine RunL.no rfl rfl rfl ?_
            refine RunL.val (Val.pure rfl) rfl rfl rfl ?_
            exact RunL.segEnd (Sub.cons rfl (Sub.skip rfl (Sub.skip rfl (Sub.skip rfl (Sub.skip rfl (Sub.same rfl (by rw [g197]) (Sub.refl _))))))) (List.Sublist.refl _)
          ) ?_
          refine RunL.val (Val.pure rfl) rfl rfl rfl ?_
          refine RunL.orPart (dj := 202) (dp := 206) 4 rfl (fun g202 => by
            have g202' := g202
            try simp only [decide_eq_true_eq, decide_eq_false_iff_not, Bool.not_eq_true', Bool.not_eq_false', Bool.and_eq_true, Bool.or_eq_true, Bool.and_eq_false_iff, Bool.or_eq_false_iff, Int.not_le, Int.not_lt] at g202'
            refine RunL.val (Val.load_agg rfl (.tail _ (.tail _ (.tail _ (.tail _ (.tail _ (.head _)))))) ty_23 rfl) rfl rfl rfl ?_
            refine RunL.val (Val.load_agg rfl (.head _) ty_23 rfl) rfl rfl rfl ?_
            refine RunL.val (Val.neq_pair rfl rfl pair_23) rfl rfl rfl ?_
            refine RunL.val (Val.pure rfl) rfl rfl rfl ?_
            exact RunL.segEnd (Sub.cons rfl (Sub.skip rfl (Sub.skip rfl (Sub.skip rfl (Sub.skip rfl (Sub.same rfl (by rw [g202]) (Sub.refl _))))))) (List.Sublist.refl _)
          ) (fun g202 => by
            have g202' := g202
            try simp only [decide_eq_true_eq, decide_eq_false_iff_not, Bool.not_eq_true', Bool.not_eq_false', Bool.and_eq_true, Bool.or_eq_true, Bool.and_eq_false_iff, Bool.or_eq_false_iff, Int.not_le, Int.not_lt] at g202'
            iterate 3 refine RunL.no rfl rfl rfl ?_
            refine RunL.val (Val.pure rfl) rfl rfl rfl ?_
            exact RunL.segEnd (Sub.cons rfl (Sub.skip rfl (Sub.skip rfl (Sub.skip rfl (Sub.skip rfl (Sub.same rfl (by rw [g202]) (Sub.refl _))))))) (List.Sublist.refl _)
          ) ?_
          refine RunL.val (Val.pure rfl) rfl rfl rfl ?_
          refine RunL.orPart (dj := 207) (dp := 211) 4 rfl (fun g207 => by
            have g207' := g207
            try simp only [decide_eq_true_eq, decide_eq_false_iff_not, Bool.not_eq_true', Bool.not_eq_false', Bool.and_eq_true, Bool.or_eq_true, Bool.and_eq_false_iff, Bool.or_eq_false_iff, Int.not_le, Int.not_lt] at g207'
            iterate 4 refine RunL.val (Val.pure rfl) rfl rfl rfl ?_
            exact RunL.segEnd (Sub.cons rfl (Sub.skip rfl (Sub.skip rfl (Sub.skip rfl (Sub.skip rfl (Sub.same rfl (by rw [g207]) (Sub.refl _))))))) (List.Sublist.refl _)
          ) (fun g207 => by
            have g207' := g207
            try simp only [decide_eq_true_eq, decide_eq_false_iff_not, Bool.not_eq_true', Bool.not_eq_false', Bool.and_eq_true, Bool.or_eq_true, Bool.and_eq_false_iff, Bool.or_eq_false_iff, Int.not_le, Int.not_lt] at g207'
            iterate 3 refine RunL.no rfl rfl rfl ?_
            refine RunL.val (Val.pure rfl) rfl rfl rfl ?_
            exact RunL.segEnd (Sub.cons rfl (Sub.skip rfl (Sub.skip rfl (Sub.skip rfl (Sub.skip rfl (Sub.same rfl (by rw [g207]) (Sub.refl _))))))) (List.Sublist.refl _)
          ) ?_
          refine RunL.nil ?_
          refine RunE.next ?_
          refine RunC.cond rfl (fun h => absurd h (by simp [q1, q2, q3, q4])) ?_
          intro c4
          clear c4
          refine RunC.skip ?_
          refine RunE.block_normal ?_
          refine RunE.next ?_
          refine RunC.region ?_
          refine RunL.val (Val.add rfl rfl (IntWalk.i64_in _ ⟨by omega, by omega⟩)) rfl rfl rfl ?_
          refine RunL.val (Val.pure rfl) rfl rfl rfl ?_
          refine RunL.nil ?_
          exact RunE.round (by omega) trivial rfl (Sub.consE (t := 139) rfl rfl (Sub.cons (t := 1) rfl (Sub.cons (t := 3) rfl (Sub.cons (t := 6) rfl (Sub.cons (t := 13) rfl (Sub.cons (t := 14) rfl (Sub.cons (t := 15) rfl (Sub.cons (t := 16) rfl (Sub.cons (t := 17) rfl (Sub.cons (t := 18) rfl (Sub.cons (t := 19) rfl (Sub.cons (t := 20) rfl (Sub.cons (t := 21) rfl (Sub.cons (t := 137) rfl (Sub.cons (t := 138) rfl (Sub.nil _)))))))))))))))) (.cons (.there (.there (.there (.there .here)))) rfl (.cons (.there (.there (.there (.there .here)))) rfl (.cons (.there (.there (.there (.there .here)))) rfl (.cons (.there (.there (.there (.there .here)))) rfl (.cons (.there (.there (.there (.there .here)))) rfl (.cons (.there (.there (.there (.there .here)))) rfl (.cons (.there (.there (.there (.there .here)))) rfl (.cons (.there (.there (.there (.there .here)))) rfl (Pick.skip (Pick.skip (Pick.skip (Pick.skip (Pick.refl _)))))))))))))
      · intro c2
        have c2' := c2; clear c2
        try simp only [decide_eq_true_eq, decide_eq_false_iff_not, Bool.not_eq_true', Bool.not_eq_false', Bool.and_eq_true, Bool.or_eq_true, Bool.and_eq_false_iff, Bool.or_eq_false_iff, Int.not_le, Int.not_lt] at c2'
        refine RunC.exit ?_
        refine RunE.pass_exit ?_
        refine RunE.pass_exit ?_
        refine RunE.block_here ?_
        refine RunE.next ?_
        refine RunC.seq ?_
        refine RunC.region ?_
        refine RunL.callP (isCall_func rfl ent_12) rfl rfl rfl (fun w hm => awake_calls w) ?_
        refine RunL.val (Val.pure rfl) rfl rfl rfl ?_
        refine RunL.nil ?_
        refine RunE.next ?_
        refine RunC.ret ?_
        exact RunE.retP (.r1 rfl (.tmp rfl)) (by first | rfl | simp)
end Go.Proofs.Ythppnhjggdebbaa
