/- Walks of package years: how high a thing stood. -/
import Derived.Test.YtjijeeadmhpfcaaYd
set_option linter.unusedSimpArgs false
set_option linter.unusedVariables false
namespace Go.Proofs.Ytjijeeadmhpfcaa
open Go Go.Eng Go.Pw1

theorem sl_rowAt {w : World} {b o : Nat} {T : TypeId} {cs : List Value} {fr : Nat × Nat} (l : List Int) (h : w.heap[b]? = some (.cells cs.toArray T fr)) (hl : (cs.drop o).take l.length = l.map fun v => .int .i64 v) : Sl w (some ⟨b, o, none⟩) b o 1 (l.map fun v => [.int .i64 v]) :=
  ⟨fun _ => rfl, by simp, fun i hi j hj => by
    obtain rfl : j = 0 := by omega
    have hi' : i < l.length := by simpa using hi
    rw [cell_of_cells h]
    have h2 : ((cs.drop o).take l.length)[i]? = (l.map fun v => Value.int .i64 v)[i]? := by rw [hl]
    rw [List.getElem?_take_of_lt hi', List.getElem?_drop, List.getElem?_map, List.getElem?_eq_getElem hi'] at h2
    simpa using h2⟩
theorem yheights_calls (g : Gl) (a : Ga) (i : Nat) (t u : Th) (z : Z2) (b : Nat) (W : World) (hb : W.heap[b]? = some (.cells (g.cells a).toArray 110 (0, 0))) (hG : GIn W g a)
    (hi1 : i < g.f.things.length) (hi2 : i < g.s.things.length) (ht : g.f.things[i] = t) (hu : g.s.things[i] = u) (hpf : g.f.Ok) (hps : g.s.Ok)
    (hz : ∀ x y : Int, (-4000 ≤ x ∧ x ≤ 4000) → y ∈ [z.1.1, z.1.2, z.2.1, z.2.2] → -5000000000000 ≤ x * y ∧ x * y ≤ 5000000000000) :
    Calls Try.prog 43 #[.pointer (some ⟨b, 0, none⟩), .int .i64 (i : Int), z2v z] W (Pure (z2v (htP g.f t z.1, htP g.s u z.2)) W) := by
  have f1 := hpf.f1
  have f2 := hpf.f2
  have s1 := hps.f1
  have s2 := hps.f2
  have h1 := (hpf.ths _ (List.getElem_mem hi1)).1.2.1
  have h2 := (hps.ths _ (List.getElem_mem hi2)).1.2.1
  rw [ht] at h1
  rw [hu] at h2
  obtain ⟨h3, h4, h5⟩ := h1
  obtain ⟨h6, h7, h8⟩ := h2
  have e10 := hz t.ly.lo z.1.1 (by omega) (by simp)
  have e11 := hz t.ly.lo z.1.2 (by omega) (by simp)
  have e12 := hz t.ly.hi z.1.1 (by omega) (by simp)
  have e13 := hz t.ly.hi z.1.2 (by omega) (by simp)
  have e20 := hz u.ly.lo z.2.1 (by omega) (by simp)
  have e21 := hz u.ly.lo z.2.2 (by omega) (by simp)
  have e22 := hz u.ly.hi z.2.1 (by omega) (by simp)
  have e23 := hz u.ly.hi z.2.2 (by omega) (by simp)
  refine calls_start Try.func43 rfl rfl ?_
  refine RunC.seq ?_
  refine RunC.region ?_
  refine RunL.new (New.box rfl) rfl rfl rfl (fun b5 => ?_)
  refine RunL.new (New.alloc zero_72) rfl rfl rfl (fun b6 => ?_)
  refine RunL.nil ?_
  refine RunE.next ?_
  refine RunC.seq ?_
  refine RunC.seq ?_
  refine RunC.region ?_
  refine RunL.callP (isCall_func rfl ent_73) rfl rfl rfl (fun w hm => yviews_calls w) ?_
  refine RunL.val (Val.pure rfl) rfl rfl rfl ?_
  refine RunL.nil ?_
  refine RunE.next ?_
  refine RunC.block ?_
  refine RunC.unroll 2 ?_
  refine RunC.seq ?_
  refine RunC.region ?_
  refine RunL.val (Val.pure rfl) rfl rfl rfl ?_
  refine RunL.nil ?_
  refine RunE.next ?_
  refine RunC.seq ?_
  refine RunC.cond rfl ?_ (fun h => absurd h (by decide))
  intro c0
  clear c0
  refine RunC.skip ?_
  refine RunE.next ?_
  refine RunC.seq ?_
  refine RunC.block ?_
  refine RunC.seq ?_
  refine RunC.region ?_
  refine RunL.val (Val.pure rfl) rfl rfl rfl ?_
  refine RunL.val (Val.index1 rfl rfl arr1_113 (by decide) (by decide) rfl) rfl rfl rfl ?_
  refine RunL.val (Val.pure rfl) rfl rfl rfl ?_
  refine RunL.val (Val.pure rfl) rfl rfl rfl ?_
  refine RunL.nil ?_
  refine RunE.next ?_
  refine RunC.seq ?_
  refine RunC.region ?_
  refine RunL.val (Val.pure rfl) rfl rfl rfl ?_
  refine RunL.val (Val.pure rfl) rfl rfl rfl ?_
  refine RunL.callP (isCall_value rfl rfl ent_90) rfl rfl rfl (fun w hm => yfirst_calls g a _ w (hm.old_at hb (by simp))) ?_
  refine RunL.new (New.alloc zero_26) rfl rfl rfl (fun b9 => ?_)
  refine RunL.sto (Sto.store rfl rfl .here ty_26 rfl rfl) rfl rfl ?_
  refine RunL.nil ?_
  refine RunE.next ?_
  refine RunC.seq ?_
  refine RunC.region ?_
  refine RunL.val (Val.fieldAddr rfl fld_26_5) rfl rfl rfl ?_
  refine RunL.val (Val.load_one rfl (.head _) ty_24 rfl) rfl rfl rfl ?_
  refine RunL.val (Val.pure rfl) rfl rfl rfl ?_
  refine RunL.val (Val.indexAddr_slp rfl rfl sl_24 (by omega) (by omega) (hG.s1.ptrM hi1)) rfl rfl rfl ?_
  refine RunL.val (Val.fieldAddr rfl fld_54_0) rfl rfl rfl ?_
  refine RunL.val (Val.fieldAddr rfl fld_52_1) rfl rfl rfl ?_
  refine RunL.val (Val.load_gen rfl (fun w hm => hG.s1.loadPart hm (by simp) ty_23 hi1 ht (j := 2) (by decide) (vs := [.int .i64 t.ly.lo, .int .i64 t.ly.hi]) rfl (by decide) (by simp))) rfl rfl rfl ?_
  refine RunL.new (New.alloc zero_23) rfl rfl rfl (fun b10 => ?_)
  refine RunL.sto (Sto.store rfl rfl .here ty_23 rfl rfl) rfl rfl ?_
  refine RunL.nil ?_
  refine RunE.next ?_
  refine RunC.seq ?_
  refine RunC.region ?_
  refine RunL.val (Val.pure rfl) rfl rfl rfl ?_
  refine RunL.nil ?_
  refine RunE.next ?_
  refine RunC.seq ?_
  refine RunC.seq ?_
  refine RunC.region ?_
  refine RunL.val (Val.fieldAddr rfl fld_23_0) rfl rfl rfl ?_
  refine RunL.val (Val.load_one rfl (.head _) ty_3 rfl) rfl rfl rfl ?_
  refine RunL.val (Val.fieldAddr rfl fld_23_1) rfl rfl rfl ?_
  refine RunL.val (Val.load_one rfl (.head _) ty_3 rfl) rfl rfl rfl ?_
  refine RunL.new (New.buildSlice (parts := [(0, .tmp 34), (1, .tmp 36)]) rfl sl_119 zero_3 rfl rfl rfl rfl) rfl rfl rfl (fun b37 => ?_)
  refine RunL.val (Val.len_sl rfl sl_119) rfl rfl rfl ?_
  refine RunL.val (Val.pure rfl) rfl rfl rfl ?_
  refine RunL.nil ?_
  refine RunE.next ?_
  refine RunC.block ?_
  refine RunC.unroll 2 ?_
  refine RunC.seq ?_
  refine RunC.region ?_
  refine RunL.val (Val.pure rfl) rfl rfl rfl ?_
  refine RunL.nil ?_
  refine RunE.next ?_
  refine RunC.seq ?_
  refine RunC.cond rfl ?_ (fun h => absurd h (by decide))
  intro c1
  clear c1
  refine RunC.skip ?_
  refine RunE.next ?_
  refine RunC.seq ?_
  refine RunC.block ?_
  refine RunC.seq ?_
  refine RunC.region ?_
  refine RunL.val (Val.indexAddr_sl rfl rfl sl_119 (by omega) (by omega)) rfl rfl rfl ?_
  refine RunL.val (Val.load_one rfl (.head _) ty_3 rfl) rfl rfl rfl ?_
  refine RunL.val (Val.pure rfl) rfl rfl rfl ?_
  refine RunL.nil ?_
  refine RunE.next ?_
  refine RunC.seq ?_
  refine RunC.draw 11 fol_ (.cons .here rfl (.cons .here rfl (.cons .here rfl (.cons .here rfl (.cons .here rfl .nil))))) ?_
  refine RunA.val (i := 0) rfl (by kernel_rfl) (by kernel_rfl) (Val.pure rfl) rfl rfl rfl (fun _ _ _ h => h) (.cons .here rfl (.cons .here rfl (.cons .here rfl (.cons .here rfl (.cons .here rfl .nil))))) rfl ?_
  refine RunA.val (i := 1) rfl (by kernel_rfl) (by kernel_rfl) (Val.indexAddr_arr rfl rfl arr_72 (by decide) (by decide)) rfl rfl rfl (fun _ _ _ h => h) (.cons .here rfl (.cons .here rfl (.cons .here rfl (.cons .here rfl (.cons .here rfl .nil))))) rfl ?_
  refine RunA.val (i := 2) rfl (by kernel_rfl) (by kernel_rfl) (Val.fieldAddr rfl fld_64_0) rfl rfl rfl (fun _ _ _ h => h) (.cons .here rfl (.cons .here rfl (.cons .here rfl (.cons .here rfl (.cons .here rfl .nil))))) rfl ?_
  refine RunA.val (i := 3) rfl (by kernel_rfl) (by kernel_rfl) (Val.load_one rfl (.tail _ (.tail _ (.tail _ (.tail _ (.head _))))) ty_3 rfl) rfl rfl rfl (fun _ _ _ h => h) (.cons .here rfl (.cons .here rfl (.cons .here rfl (.cons .here rfl (.cons .here rfl .nil))))) rfl ?_
  refine RunA.val (i := 4) rfl (by kernel_rfl) (by kernel_rfl) (Val.pure rfl) rfl rfl rfl (fun _ _ _ h => h) (.cons .here rfl (.cons .here rfl (.cons .here rfl (.cons .here rfl (.cons .here rfl .nil))))) rfl ?_
  refine RunA.val (i := 5) rfl (by kernel_rfl) (by kernel_rfl) (Val.indexAddr_arr rfl rfl arr_72 (by decide) (by decide)) rfl rfl rfl (fun _ _ _ h => h) (.cons .here rfl (.cons .here rfl (.cons .here rfl (.cons .here rfl (.cons .here rfl .nil))))) rfl ?_
  refine RunA.val (i := 6) rfl (by kernel_rfl) (by kernel_rfl) (Val.fieldAddr rfl fld_64_1) rfl rfl rfl (fun _ _ _ h => h) (.cons .here rfl (.cons .here rfl (.cons .here rfl (.cons .here rfl (.cons .here rfl .nil))))) rfl ?_
  refine RunA.val (i := 7) rfl (by kernel_rfl) (by kernel_rfl) (Val.load_one rfl (.tail _ (.tail _ (.tail _ (.tail _ (.head _))))) ty_3 rfl) rfl rfl rfl (fun _ _ _ h => h) (.cons .here rfl (.cons .here rfl (.cons .here rfl (.cons .here rfl (.cons .here rfl .nil))))) rfl ?_
  refine RunA.val (i := 10) rfl (by kernel_rfl) (by kernel_rfl) (Val.pure rfl) rfl rfl rfl (fun _ _ _ h => h) (.cons .here rfl (.cons .here rfl (.cons .here rfl (.cons .here rfl (.cons .here rfl .nil))))) rfl ?_
  refine RunA.one (i := 8) (by kernel_rfl) (by kernel_rfl) ?_
  refine RunI.new rfl (New.buildSlice (parts := [(0, .tmp 46), (1, .tmp 50)]) rfl sl_119 zero_3 rfl rfl rfl rfl) rfl rfl rfl (fun b51 => (RunK.toA (.cons .here rfl (.cons .here rfl (.cons .here rfl (.cons .here rfl (.cons .here rfl (.cons .here rfl .nil)))))) (.cons (.there .here) rfl (.cons (.there .here) rfl (.cons (.there .here) rfl (.cons (.there .here) rfl (.cons (.there .here) rfl .nil))))) rfl ?_))
  refine RunA.val (i := 9) rfl (by kernel_rfl) (by kernel_rfl) (Val.len_sl rfl sl_119) rfl rfl rfl (fun _ _ _ h => h) (.cons .here rfl (.cons .here rfl (.cons .here rfl (.cons .here rfl (.cons .here rfl (.cons .here rfl .nil)))))) rfl ?_
  refine RunA.done (by kernel_rfl) ?_
  refine RunE.next ?_
  refine RunC.block ?_
  refine RunC.unroll 2 ?_
  refine RunC.seq ?_
  refine RunC.region ?_
  refine RunL.val (Val.pure rfl) rfl rfl rfl ?_
  refine RunL.nil ?_
  refine RunE.next ?_
  refine RunC.seq ?_
  refine RunC.cond rfl ?_ (fun h => absurd h (by decide))
  intro c2
  clear c2
  refine RunC.skip ?_
  refine RunE.next ?_
  refine RunC.seq ?_
  refine RunC.block ?_
  refine RunC.seq ?_
  refine RunC.region ?_
  refine RunL.val (Val.indexAddr_sl rfl rfl sl_119 (by omega) (by omega)) rfl rfl rfl ?_
  refine RunL.val (Val.load_one rfl (.head _) ty_3 rfl) rfl rfl rfl ?_
  refine RunL.val (Val.pure rfl) rfl rfl rfl ?_
  refine RunL.nil ?_
  refine RunE.next ?_
  refine RunC.seq ?_
  refine RunC.region ?_
  refine RunL.val (Val.fieldAddr rfl fld_26_0) rfl rfl rfl ?_
  refine RunL.val (Val.fieldAddr rfl fld_23_0) rfl rfl rfl ?_
  refine RunL.val (Val.load_one rfl (.tail _ (.tail _ (.tail _ (.head _)))) ty_3 rfl) rfl rfl rfl ?_
  refine RunL.val (Val.fieldAddr rfl fld_26_0) rfl rfl rfl ?_
  refine RunL.val (Val.fieldAddr rfl fld_23_1) rfl rfl rfl ?_
  refine RunL.val (Val.load_one rfl (.tail _ (.tail _ (.tail _ (.head _)))) ty_3 rfl) rfl rfl rfl ?_
  refine RunL.new (New.buildSlice (parts := [(0, .tmp 59), (1, .tmp 62)]) rfl sl_119 zero_3 rfl rfl rfl rfl) rfl rfl rfl (fun b63 => ?_)
  refine RunL.val (Val.len_sl rfl sl_119) rfl rfl rfl ?_
  refine RunL.val (Val.pure rfl) rfl rfl rfl ?_
  refine RunL.nil ?_
  refine RunE.next ?_
  refine RunC.block ?_
  refine RunC.unroll 2 ?_
  refine RunC.seq ?_
  refine RunC.region ?_
  refine RunL.val (Val.pure rfl) rfl rfl rfl ?_
  refine RunL.nil ?_
  refine RunE.next ?_
  refine RunC.seq ?_
  refine RunC.cond rfl ?_ (fun h => absurd h (by decide))
  intro c3
  clear c3
  refine RunC.skip ?_
  refine RunE.next ?_
  refine RunC.seq ?_
  refine RunC.block ?_
  refine RunC.seq ?_
  refine RunC.region ?_
  refine RunL.val (Val.indexAddr_sl rfl rfl sl_119 (by omega) (by omega)) rfl rfl rfl ?_
  refine RunL.val (Val.load_one rfl (.head _) ty_3 rfl) rfl rfl rfl ?_
  refine RunL.val (Val.pure rfl) rfl rfl rfl ?_
  refine RunL.nil ?_
  refine RunE.next ?_
  refine RunC.region ?_
  iterate 3 refine RunL.val (Val.pure rfl) rfl rfl rfl ?_
  refine RunL.val (Val.mul rfl rfl (IntWalk.i64_in _ ⟨by omega, by omega⟩)) rfl rfl rfl ?_
  refine RunL.val (Val.pure rfl) rfl rfl rfl ?_
  refine RunL.callP (isCall_func rfl ent_47) rfl rfl rfl (fun w hm => ydown_calls _ _ (by omega) (by omega) w) ?_
  refine RunL.new (New.buildSlice (parts := [(0, .tmp 74)]) rfl sl_119 zero_3 rfl rfl rfl rfl) rfl rfl rfl (fun b75 => ?_)
  refine RunL.append (A := [(b75, _), (b63, _), (b51, _), (b37, _), (b10, _), (b9, _), (b6, _), (b5, _)]) (B := _) (x := none) (ys := _) ap_119 rfl rfl rfl OwnOk.start rfl (fun h => by cases h) (fun w hm => src_blk (hm.at (.head _))) (one_of rfl) (by simp only [maxLen]; omega) (by omega) rfl (fun z76 hz76 => ?_)
  refine RunL.val (Val.pure rfl) rfl rfl rfl ?_
  refine RunL.nil ?_
  refine RunE.block_normal ?_
  refine RunE.next ?_
  refine RunC.region ?_
  refine RunL.val (Val.add rfl rfl (IntWalk.i64_in _ ⟨by decide, by decide⟩)) rfl rfl rfl ?_
  refine RunL.val (Val.pure rfl) rfl rfl rfl ?_
  refine RunL.nil ?_
  refine RunE.keep (Sub.cons (t := 0) rfl (Sub.cons (t := 1) rfl (Sub.cons (t := 5) rfl (Sub.cons (t := 6) rfl (Sub.cons (t := 7) rfl (Sub.cons (t := 9) rfl (Sub.cons (t := 10) rfl (Sub.cons (t := 11) rfl (Sub.cons (t := 13) rfl (Sub.cons (t := 15) rfl (Sub.cons (t := 18) rfl (Sub.cons (t := 19) rfl (Sub.cons (t := 37) rfl (Sub.cons (t := 38) rfl (Sub.cons (t := 39) rfl (Sub.cons (t := 51) rfl (Sub.cons (t := 52) rfl (Sub.cons (t := 53) rfl (Sub.cons (t := 63) rfl (Sub.cons (t := 64) rfl (Sub.cons (t := 65) rfl (Sub.nil _)))))))))))))))))))))) (.cons (.there .here) rfl (.cons (.there .here) rfl (.cons (.there (.there .here)) rfl (.cons (.there (.there .here)) rfl (.cons (.there .here) rfl (.cons (.there (.there .here)) rfl (.cons (.there .here) rfl (Pick.skip (Pick.refl _))))))))) ?_
  refine RunE.rounds ?_
  refine RunC.seq ?_
  refine RunC.region ?_
  refine RunL.val (Val.pure rfl) rfl rfl rfl ?_
  refine RunL.nil ?_
  refine RunE.next ?_
  refine RunC.seq ?_
  refine RunC.cond rfl ?_ (fun h => absurd h (by decide))
  intro c3
  clear c3
  refine RunC.skip ?_
  refine RunE.next ?_
  refine RunC.seq ?_
  refine RunC.block ?_
  refine RunC.seq ?_
  refine RunC.region ?_
  refine RunL.val (Val.indexAddr_sl rfl rfl sl_119 (by omega) (by omega)) rfl rfl rfl ?_
  refine RunL.val (Val.load_one rfl (.head _) ty_3 rfl) rfl rfl rfl ?_
  refine RunL.val (Val.pure rfl) rfl rfl rfl ?_
  refine RunL.nil ?_
  refine RunE.next ?_
  refine RunC.region ?_
  iterate 3 refine RunL.val (Val.pure rfl) rfl rfl rfl ?_
  refine RunL.val (Val.mul rfl rfl (IntWalk.i64_in _ ⟨by omega, by omega⟩)) rfl rfl rfl ?_
  refine RunL.val (Val.pure rfl) rfl rfl rfl ?_
  refine RunL.callP (isCall_func rfl ent_47) rfl rfl rfl (fun w hm => ydown_calls _ _ (by omega) (by omega) w) ?_
  refine RunL.new (New.buildSlice (parts := [(0, .tmp 74)]) rfl sl_119 zero_3 rfl rfl rfl rfl) rfl rfl rfl (fun b75 => ?_)
  refine RunL.append (A := [(b75, _), (b63, _), (b51, _), (b10, _), (b9, _), (b37, _), (b5, _), (b6, _)]) (B := _) (x := z76) (ys := _) ap_119 rfl rfl rfl hz76 rfl (fun h => by cases h) (fun w hm => src_blk (hm.at (.head _))) (one_of rfl) (by simp only [maxLen]; omega) (by omega) rfl (fun z76 hz76 => ?_)
  refine RunL.val (Val.pure rfl) rfl rfl rfl ?_
  refine RunL.nil ?_
  refine RunE.block_normal ?_
  refine RunE.next ?_
  refine RunC.region ?_
  refine RunL.val (Val.add rfl rfl (IntWalk.i64_in _ ⟨by decide, by decide⟩)) rfl rfl rfl ?_
  refine RunL.val (Val.pure rfl) rfl rfl rfl ?_
  refine RunL.nil ?_
  refine RunE.keep (Sub.cons (t := 0) rfl (Sub.cons (t := 1) rfl (Sub.cons (t := 5) rfl (Sub.cons (t := 6) rfl (Sub.cons (t := 7) rfl (Sub.cons (t := 9) rfl (Sub.cons (t := 10) rfl (Sub.cons (t := 11) rfl (Sub.cons (t := 13) rfl (Sub.cons (t := 15) rfl (Sub.cons (t := 18) rfl (Sub.cons (t := 19) rfl (Sub.cons (t := 37) rfl (Sub.cons (t := 38) rfl (Sub.cons (t := 39) rfl (Sub.cons (t := 51) rfl (Sub.cons (t := 52) rfl (Sub.cons (t := 53) rfl (Sub.cons (t := 63) rfl (Sub.cons (t := 64) rfl (Sub.cons (t := 65) rfl (Sub.nil _)))))))))))))))))))))) (.cons (.there .here) rfl (.cons (.there .here) rfl (.cons (.there .here) rfl (.cons (.there .here) rfl (.cons (.there .here) rfl (.cons (.there .here) rfl (.cons (.there .here) rfl (Pick.skip (Pick.refl _))))))))) ?_
  refine RunE.rounds ?_
  refine RunC.seq ?_
  refine RunC.region ?_
  refine RunL.val (Val.pure rfl) rfl rfl rfl ?_
  refine RunL.nil ?_
  refine RunE.next ?_
  refine RunC.seq ?_
  refine RunC.cond rfl (fun h => absurd h (by decide)) ?_
  intro c3
  clear c3
  refine RunC.exit ?_
  refine RunE.pass_exit ?_
  refine RunE.pass_exit ?_
  refine RunE.block_here ?_
  refine RunE.block_normal ?_
  refine RunE.next ?_
  refine RunC.region ?_
  refine RunL.val (Val.add rfl rfl (IntWalk.i64_in _ ⟨by decide, by decide⟩)) rfl rfl rfl ?_
  refine RunL.val (Val.pure rfl) rfl rfl rfl ?_
  refine RunL.nil ?_
  refine RunE.keep (Sub.cons (t := 0) rfl (Sub.cons (t := 1) rfl (Sub.cons (t := 5) rfl (Sub.cons (t := 6) rfl (Sub.cons (t := 7) rfl (Sub.cons (t := 9) rfl (Sub.cons (t := 10) rfl (Sub.cons (t := 11) rfl (Sub.cons (t := 13) rfl (Sub.cons (t := 18) rfl (Sub.cons (t := 19) rfl (Sub.cons (t := 37) rfl (Sub.cons (t := 38) rfl (Sub.cons (t := 39) rfl (Sub.cons (t := 51) rfl (Sub.cons (t := 52) rfl (Sub.cons (t := 53) rfl (Sub.nil _)))))))))))))))))) (.cons (.there .here) rfl (.cons (.there .here) rfl (.cons (.there .here) rfl (.cons (.there .here) rfl (.cons (.there .here) rfl (.cons (.there .here) rfl (Pick.skip (Pick.refl _)))))))) ?_
  refine RunE.rounds ?_
  refine RunC.seq ?_
  refine RunC.region ?_
  refine RunL.val (Val.pure rfl) rfl rfl rfl ?_
  refine RunL.nil ?_
  refine RunE.next ?_
  refine RunC.seq ?_
  refine RunC.cond rfl ?_ (fun h => absurd h (by decide))
  intro c2
  clear c2
  refine RunC.skip ?_
  refine RunE.next ?_
  refine RunC.seq ?_
  refine RunC.block ?_
  refine RunC.seq ?_
  refine RunC.region ?_
  refine RunL.val (Val.indexAddr_sl rfl rfl sl_119 (by omega) (by omega)) rfl rfl rfl ?_
  refine RunL.val (Val.load_one rfl (.head _) ty_3 rfl) rfl rfl rfl ?_
  refine RunL.val (Val.pure rfl) rfl rfl rfl ?_
  refine RunL.nil ?_
  refine RunE.next ?_
  refine RunC.seq ?_
  refine RunC.region ?_
  refine RunL.val (Val.fieldAddr rfl fld_26_0) rfl rfl rfl ?_
  refine RunL.val (Val.fieldAddr rfl fld_23_0) rfl rfl rfl ?_
  refine RunL.val (Val.load_one rfl (.tail _ (.tail _ (.head _))) ty_3 rfl) rfl rfl rfl ?_
  refine RunL.val (Val.fieldAddr rfl fld_26_0) rfl rfl rfl ?_
  refine RunL.val (Val.fieldAddr rfl fld_23_1) rfl rfl rfl ?_
  refine RunL.val (Val.load_one rfl (.tail _ (.tail _ (.head _))) ty_3 rfl) rfl rfl rfl ?_
  refine RunL.new (New.buildSlice (parts := [(0, .tmp 59), (1, .tmp 62)]) rfl sl_119 zero_3 rfl rfl rfl rfl) rfl rfl rfl (fun b63 => ?_)
  refine RunL.val (Val.len_sl rfl sl_119) rfl rfl rfl ?_
  refine RunL.val (Val.pure rfl) rfl rfl rfl ?_
  refine RunL.nil ?_
  refine RunE.next ?_
  refine RunC.block ?_
  refine RunC.unroll 2 ?_
  refine RunC.seq ?_
  refine RunC.region ?_
  refine RunL.val (Val.pure rfl) rfl rfl rfl ?_
  refine RunL.nil ?_
  refine RunE.next ?_
  refine RunC.seq ?_
  refine RunC.cond rfl ?_ (fun h => absurd h (by decide))
  intro c3
  clear c3
  refine RunC.skip ?_
  refine RunE.next ?_
  refine RunC.seq ?_
  refine RunC.block ?_
  refine RunC.seq ?_
  refine RunC.region ?_
  refine RunL.val (Val.indexAddr_sl rfl rfl sl_119 (by omega) (by omega)) rfl rfl rfl ?_
  refine RunL.val (Val.load_one rfl (.head _) ty_3 rfl) rfl rfl rfl ?_
  refine RunL.val (Val.pure rfl) rfl rfl rfl ?_
  refine RunL.nil ?_
  refine RunE.next ?_
  refine RunC.region ?_
  iterate 3 refine RunL.val (Val.pure rfl) rfl rfl rfl ?_
  refine RunL.val (Val.mul rfl rfl (IntWalk.i64_in _ ⟨by omega, by omega⟩)) rfl rfl rfl ?_
  refine RunL.val (Val.pure rfl) rfl rfl rfl ?_
  refine RunL.callP (isCall_func rfl ent_47) rfl rfl rfl (fun w hm => ydown_calls _ _ (by omega) (by omega) w) ?_
  refine RunL.new (New.buildSlice (parts := [(0, .tmp 74)]) rfl sl_119 zero_3 rfl rfl rfl rfl) rfl rfl rfl (fun b75 => ?_)
  refine RunL.append (A := [(b75, _), (b63, _), (b51, _), (b10, _), (b9, _), (b37, _), (b5, _), (b6, _)]) (B := _) (x := z76) (ys := _) ap_119 rfl rfl rfl hz76 rfl (fun h => by cases h) (fun w hm => src_blk (hm.at (.head _))) (one_of rfl) (by simp only [maxLen]; omega) (by omega) rfl (fun z76 hz76 => ?_)
  refine RunL.val (Val.pure rfl) rfl rfl rfl ?_
  refine RunL.nil ?_
  refine RunE.block_normal ?_
  refine RunE.next ?_
  refine RunC.region ?_
  refine RunL.val (Val.add rfl rfl (IntWalk.i64_in _ ⟨by decide, by decide⟩)) rfl rfl rfl ?_
  refine RunL.val (Val.pure rfl) rfl rfl rfl ?_
  refine RunL.nil ?_
  refine RunE.keep (Sub.cons (t := 0) rfl (Sub.cons (t := 1) rfl (Sub.cons (t := 5) rfl (Sub.cons (t := 6) rfl (Sub.cons (t := 7) rfl (Sub.cons (t := 9) rfl (Sub.cons (t := 10) rfl (Sub.cons (t := 11) rfl (Sub.cons (t := 13) rfl (Sub.cons (t := 15) rfl (Sub.cons (t := 18) rfl (Sub.cons (t := 19) rfl (Sub.cons (t := 37) rfl (Sub.cons (t := 38) rfl (Sub.cons (t := 39) rfl (Sub.cons (t := 51) rfl (Sub.cons (t := 52) rfl (Sub.cons (t := 53) rfl (Sub.cons (t := 63) rfl (Sub.cons (t := 64) rfl (Sub.cons (t := 65) rfl (Sub.nil _)))))))))))))))))))))) (.cons (.there .here) rfl (.cons (.there .here) rfl (.cons (.there .here) rfl (.cons (.there .here) rfl (.cons (.there .here) rfl (.cons (.there .here) rfl (.cons (.there .here) rfl (Pick.skip (Pick.refl _))))))))) ?_
  refine RunE.rounds ?_
  refine RunC.seq ?_
  refine RunC.region ?_
  refine RunL.val (Val.pure rfl) rfl rfl rfl ?_
  refine RunL.nil ?_
  refine RunE.next ?_
  refine RunC.seq ?_
  refine RunC.cond rfl ?_ (fun h => absurd h (by decide))
  intro c3
  clear c3
  refine RunC.skip ?_
  refine RunE.next ?_
  refine RunC.seq ?_
  refine RunC.block ?_
  refine RunC.seq ?_
  refine RunC.region ?_
  refine RunL.val (Val.indexAddr_sl rfl rfl sl_119 (by omega) (by omega)) rfl rfl rfl ?_
  refine RunL.val (Val.load_one rfl (.head _) ty_3 rfl) rfl rfl rfl ?_
  refine RunL.val (Val.pure rfl) rfl rfl rfl ?_
  refine RunL.nil ?_
  refine RunE.next ?_
  refine RunC.region ?_
  iterate 3 refine RunL.val (Val.pure rfl) rfl rfl rfl ?_
  refine RunL.val (Val.mul rfl rfl (IntWalk.i64_in _ ⟨by omega, by omega⟩)) rfl rfl rfl ?_
  refine RunL.val (Val.pure rfl) rfl rfl rfl ?_
  refine RunL.callP (isCall_func rfl ent_47) rfl rfl rfl (fun w hm => ydown_calls _ _ (by omega) (by omega) w) ?_
  refine RunL.new (New.buildSlice (parts := [(0, .tmp 74)]) rfl sl_119 zero_3 rfl rfl rfl rfl) rfl rfl rfl (fun b75 => ?_)
  refine RunL.append (A := [(b75, _), (b63, _), (b51, _), (b10, _), (b9, _), (b37, _), (b5, _), (b6, _)]) (B := _) (x := z76) (ys := _) ap_119 rfl rfl rfl hz76 rfl (fun h => by cases h) (fun w hm => src_blk (hm.at (.head _))) (one_of rfl) (by simp only [maxLen]; omega) (by omega) rfl (fun z76 hz76 => ?_)
  refine RunL.val (Val.pure rfl) rfl rfl rfl ?_
  refine RunL.nil ?_
  refine RunE.block_normal ?_
  refine RunE.next ?_
  refine RunC.region ?_
  refine RunL.val (Val.add rfl rfl (IntWalk.i64_in _ ⟨by decide, by decide⟩)) rfl rfl rfl ?_
  refine RunL.val (Val.pure rfl) rfl rfl rfl ?_
  refine RunL.nil ?_
  refine RunE.keep (Sub.cons (t := 0) rfl (Sub.cons (t := 1) rfl (Sub.cons (t := 5) rfl (Sub.cons (t := 6) rfl (Sub.cons (t := 7) rfl (Sub.cons (t := 9) rfl (Sub.cons (t := 10) rfl (Sub.cons (t := 11) rfl (Sub.cons (t := 13) rfl (Sub.cons (t := 15) rfl (Sub.cons (t := 18) rfl (Sub.cons (t := 19) rfl (Sub.cons (t := 37) rfl (Sub.cons (t := 38) rfl (Sub.cons (t := 39) rfl (Sub.cons (t := 51) rfl (Sub.cons (t := 52) rfl (Sub.cons (t := 53) rfl (Sub.cons (t := 63) rfl (Sub.cons (t := 64) rfl (Sub.cons (t := 65) rfl (Sub.nil _)))))))))))))))))))))) (.cons (.there .here) rfl (.cons (.there .here) rfl (.cons (.there .here) rfl (.cons (.there .here) rfl (.cons (.there .here) rfl (.cons (.there .here) rfl (.cons (.there .here) rfl (Pick.skip (Pick.refl _))))))))) ?_
  refine RunE.rounds ?_
  refine RunC.seq ?_
  refine RunC.region ?_
  refine RunL.val (Val.pure rfl) rfl rfl rfl ?_
  refine RunL.nil ?_
  refine RunE.next ?_
  refine RunC.seq ?_
  refine RunC.cond rfl (fun h => absurd h (by decide)) ?_
  intro c3
  clear c3
  refine RunC.exit ?_
  refine RunE.pass_exit ?_
  refine RunE.pass_exit ?_
  refine RunE.block_here ?_
  refine RunE.block_normal ?_
  refine RunE.next ?_
  refine RunC.region ?_
  refine RunL.val (Val.add rfl rfl (IntWalk.i64_in _ ⟨by decide, by decide⟩)) rfl rfl rfl ?_
  refine RunL.val (Val.pure rfl) rfl rfl rfl ?_
  refine RunL.nil ?_
  refine RunE.keep (Sub.cons (t := 0) rfl (Sub.cons (t := 1) rfl (Sub.cons (t := 5) rfl (Sub.cons (t := 6) rfl (Sub.cons (t := 7) rfl (Sub.cons (t := 9) rfl (Sub.cons (t := 10) rfl (Sub.cons (t := 11) rfl (Sub.cons (t := 13) rfl (Sub.cons (t := 18) rfl (Sub.cons (t := 19) rfl (Sub.cons (t := 37) rfl (Sub.cons (t := 38) rfl (Sub.cons (t := 39) rfl (Sub.cons (t := 51) rfl (Sub.cons (t := 52) rfl (Sub.cons (t := 53) rfl (Sub.nil _)))))))))))))))))) (.cons (.there .here) rfl (.cons (.there .here) rfl (.cons (.there .here) rfl (.cons (.there .here) rfl (.cons (.there .here) rfl (.cons (.there .here) rfl (Pick.skip (Pick.refl _)))))))) ?_
  refine RunE.rounds ?_
  refine RunC.seq ?_
  refine RunC.region ?_
  refine RunL.val (Val.pure rfl) rfl rfl rfl ?_
  refine RunL.nil ?_
  refine RunE.next ?_
  refine RunC.seq ?_
  refine RunC.cond rfl (fun h => absurd h (by decide)) ?_
  intro c2
  clear c2
  refine RunC.exit ?_
  refine RunE.pass_exit ?_
  refine RunE.pass_exit ?_
  refine RunE.block_here ?_
  refine RunE.block_normal ?_
  refine RunE.next ?_
  refine RunC.region ?_
  refine RunL.val (Val.add rfl rfl (IntWalk.i64_in _ ⟨by decide, by decide⟩)) rfl rfl rfl ?_
  refine RunL.val (Val.pure rfl) rfl rfl rfl ?_
  refine RunL.nil ?_
  refine RunE.keep (Sub.cons (t := 0) rfl (Sub.cons (t := 1) rfl (Sub.cons (t := 5) rfl (Sub.cons (t := 6) rfl (Sub.cons (t := 7) rfl (Sub.cons (t := 9) rfl (Sub.cons (t := 10) rfl (Sub.cons (t := 11) rfl (Sub.cons (t := 18) rfl (Sub.cons (t := 19) rfl (Sub.cons (t := 37) rfl (Sub.cons (t := 38) rfl (Sub.cons (t := 39) rfl (Sub.nil _)))))))))))))) (.cons (.there .here) rfl (.cons (.there .here) rfl (.cons (.there .here) rfl (.cons (.there .here) rfl (.cons (.there .here) rfl (Pick.skip (Pick.refl _))))))) ?_
  refine RunE.rounds ?_
  refine RunC.seq ?_
  refine RunC.region ?_
  refine RunL.val (Val.pure rfl) rfl rfl rfl ?_
  refine RunL.nil ?_
  refine RunE.next ?_
  refine RunC.seq ?_
  refine RunC.cond rfl ?_ (fun h => absurd h (by decide))
  intro c1
  clear c1
  refine RunC.skip ?_
  refine RunE.next ?_
  refine RunC.seq ?_
  refine RunC.block ?_
  refine RunC.seq ?_
  refine RunC.region ?_
  refine RunL.val (Val.indexAddr_sl rfl rfl sl_119 (by omega) (by omega)) rfl rfl rfl ?_
  refine RunL.val (Val.load_one rfl (.tail _ (.tail _ (.head _))) ty_3 rfl) rfl rfl rfl ?_
  refine RunL.val (Val.pure rfl) rfl rfl rfl ?_
  refine RunL.nil ?_
  refine RunE.next ?_
  refine RunC.seq ?_
  refine RunC.draw 11 fol_ (.cons .here rfl (.cons .here rfl (.cons .here rfl (.cons .here rfl (.cons .here rfl .nil))))) ?_
  refine RunA.val (i := 0) rfl (by kernel_rfl) (by kernel_rfl) (Val.pure rfl) rfl rfl rfl (fun _ _ _ h => h) (.cons .here rfl (.cons .here rfl (.cons .here rfl (.cons .here rfl (.cons .here rfl .nil))))) rfl ?_
  refine RunA.val (i := 1) rfl (by kernel_rfl) (by kernel_rfl) (Val.indexAddr_arr rfl rfl arr_72 (by decide) (by decide)) rfl rfl rfl (fun _ _ _ h => h) (.cons .here rfl (.cons .here rfl (.cons .here rfl (.cons .here rfl (.cons .here rfl .nil))))) rfl ?_
  refine RunA.val (i := 2) rfl (by kernel_rfl) (by kernel_rfl) (Val.fieldAddr rfl fld_64_0) rfl rfl rfl (fun _ _ _ h => h) (.cons .here rfl (.cons .here rfl (.cons .here rfl (.cons .here rfl (.cons .here rfl .nil))))) rfl ?_
  refine RunA.val (i := 3) rfl (by kernel_rfl) (by kernel_rfl) (Val.load_one rfl (.tail _ (.tail _ (.tail _ (.head _)))) ty_3 rfl) rfl rfl rfl (fun _ _ _ h => h) (.cons .here rfl (.cons .here rfl (.cons .here rfl (.cons .here rfl (.cons .here rfl .nil))))) rfl ?_
  refine RunA.val (i := 4) rfl (by kernel_rfl) (by kernel_rfl) (Val.pure rfl) rfl rfl rfl (fun _ _ _ h => h) (.cons .here rfl (.cons .here rfl (.cons .here rfl (.cons .here rfl (.cons .here rfl .nil))))) rfl ?_
  refine RunA.val (i := 5) rfl (by kernel_rfl) (by kernel_rfl) (Val.indexAddr_arr rfl rfl arr_72 (by decide) (by decide)) rfl rfl rfl (fun _ _ _ h => h) (.cons .here rfl (.cons .here rfl (.cons .here rfl (.cons .here rfl (.cons .here rfl .nil))))) rfl ?_
  refine RunA.val (i := 6) rfl (by kernel_rfl) (by kernel_rfl) (Val.fieldAddr rfl fld_64_1) rfl rfl rfl (fun _ _ _ h => h) (.cons .here rfl (.cons .here rfl (.cons .here rfl (.cons .here rfl (.cons .here rfl .nil))))) rfl ?_
  refine RunA.val (i := 7) rfl (by kernel_rfl) (by kernel_rfl) (Val.load_one rfl (.tail _ (.tail _ (.tail _ (.head _)))) ty_3 rfl) rfl rfl rfl (fun _ _ _ h => h) (.cons .here rfl (.cons .here rfl (.cons .here rfl (.cons .here rfl (.cons .here rfl .nil))))) rfl ?_
  refine RunA.val (i := 10) rfl (by kernel_rfl) (by kernel_rfl) (Val.pure rfl) rfl rfl rfl (fun _ _ _ h => h) (.cons .here rfl (.cons .here rfl (.cons .here rfl (.cons .here rfl (.cons .here rfl .nil))))) rfl ?_
  refine RunA.one (i := 8) (by kernel_rfl) (by kernel_rfl) ?_
  refine RunI.new rfl (New.buildSlice (parts := [(0, .tmp 46), (1, .tmp 50)]) rfl sl_119 zero_3 rfl rfl rfl rfl) rfl rfl rfl (fun b51 => (RunK.toA (.cons .here rfl (.cons .here rfl (.cons .here rfl (.cons .here rfl (.cons .here rfl (.cons .here rfl .nil)))))) (.cons (.there .here) rfl (.cons (.there .here) rfl (.cons (.there .here) rfl (.cons (.there .here) rfl (.cons (.there .here) rfl .nil))))) rfl ?_))
  refine RunA.val (i := 9) rfl (by kernel_rfl) (by kernel_rfl) (Val.len_sl rfl sl_119) rfl rfl rfl (fun _ _ _ h => h) (.cons .here rfl (.cons .here rfl (.cons .here rfl (.cons .here rfl (.cons .here rfl (.cons .here rfl .nil)))))) rfl ?_
  refine RunA.done (by kernel_rfl) ?_
  refine RunE.next ?_
  refine RunC.block ?_
  refine RunC.unroll 2 ?_
  refine RunC.seq ?_
  refine RunC.region ?_
  refine RunL.val (Val.pure rfl) rfl rfl rfl ?_
  refine RunL.nil ?_
  refine RunE.next ?_
  refine RunC.seq ?_
  refine RunC.cond rfl ?_ (fun h => absurd h (by decide))
  intro c2
  clear c2
  refine RunC.skip ?_
  refine RunE.next ?_
  refine RunC.seq ?_
  refine RunC.block ?_
  refine RunC.seq ?_
  refine RunC.region ?_
  refine RunL.val (Val.indexAddr_sl rfl rfl sl_119 (by omega) (by omega)) rfl rfl rfl ?_
  refine RunL.val (Val.load_one rfl (.head _) ty_3 rfl) rfl rfl rfl ?_
  refine RunL.val (Val.pure rfl) rfl rfl rfl ?_
  refine RunL.nil ?_
  refine RunE.next ?_
  refine RunC.seq ?_
  refine RunC.region ?_
  refine RunL.val (Val.fieldAddr rfl fld_26_0) rfl rfl rfl ?_
  refine RunL.val (Val.fieldAddr rfl fld_23_0) rfl rfl rfl ?_
  refine RunL.val (Val.load_one rfl (.tail _ (.tail _ (.head _))) ty_3 rfl) rfl rfl rfl ?_
  refine RunL.val (Val.fieldAddr rfl fld_26_0) rfl rfl rfl ?_
  refine RunL.val (Val.fieldAddr rfl fld_23_1) rfl rfl rfl ?_
  refine RunL.val (Val.load_one rfl (.tail _ (.tail _ (.head _))) ty_3 rfl) rfl rfl rfl ?_
  refine RunL.new (New.buildSlice (parts := [(0, .tmp 59), (1, .tmp 62)]) rfl sl_119 zero_3 rfl rfl rfl rfl) rfl rfl rfl (fun b63 => ?_)
  refine RunL.val (Val.len_sl rfl sl_119) rfl rfl rfl ?_
  refine RunL.val (Val.pure rfl) rfl rfl rfl ?_
  refine RunL.nil ?_
  refine RunE.next ?_
  refine RunC.block ?_
  refine RunC.unroll 2 ?_
  refine RunC.seq ?_
  refine RunC.region ?_
  refine RunL.val (Val.pure rfl) rfl rfl rfl ?_
  refine RunL.nil ?_
  refine RunE.next ?_
  refine RunC.seq ?_
  refine RunC.cond rfl ?_ (fun h => absurd h (by decide))
  intro c3
  clear c3
  refine RunC.skip ?_
  refine RunE.next ?_
  refine RunC.seq ?_
  refine RunC.block ?_
  refine RunC.seq ?_
  refine RunC.region ?_
  refine RunL.val (Val.indexAddr_sl rfl rfl sl_119 (by omega) (by omega)) rfl rfl rfl ?_
  refine RunL.val (Val.load_one rfl (.head _) ty_3 rfl) rfl rfl rfl ?_
  refine RunL.val (Val.pure rfl) rfl rfl rfl ?_
  refine RunL.nil ?_
  refine RunE.next ?_
  refine RunC.region ?_
  iterate 3 refine RunL.val (Val.pure rfl) rfl rfl rfl ?_
  refine RunL.val (Val.mul rfl rfl (IntWalk.i64_in _ ⟨by omega, by omega⟩)) rfl rfl rfl ?_
  refine RunL.val (Val.pure rfl) rfl rfl rfl ?_
  refine RunL.callP (isCall_func rfl ent_47) rfl rfl rfl (fun w hm => ydown_calls _ _ (by omega) (by omega) w) ?_
  refine RunL.new (New.buildSlice (parts := [(0, .tmp 74)]) rfl sl_119 zero_3 rfl rfl rfl rfl) rfl rfl rfl (fun b75 => ?_)
  refine RunL.append (A := [(b75, _), (b63, _), (b51, _), (b10, _), (b9, _), (b37, _), (b5, _), (b6, _)]) (B := _) (x := z76) (ys := _) ap_119 rfl rfl rfl hz76 rfl (fun h => by cases h) (fun w hm => src_blk (hm.at (.head _))) (one_of rfl) (by simp only [maxLen]; omega) (by omega) rfl (fun z76 hz76 => ?_)
  refine RunL.val (Val.pure rfl) rfl rfl rfl ?_
  refine RunL.nil ?_
  refine RunE.block_normal ?_
  refine RunE.next ?_
  refine RunC.region ?_
  refine RunL.val (Val.add rfl rfl (IntWalk.i64_in _ ⟨by decide, by decide⟩)) rfl rfl rfl ?_
  refine RunL.val (Val.pure rfl) rfl rfl rfl ?_
  refine RunL.nil ?_
  refine RunE.keep (Sub.cons (t := 0) rfl (Sub.cons (t := 1) rfl (Sub.cons (t := 5) rfl (Sub.cons (t := 6) rfl (Sub.cons (t := 7) rfl (Sub.cons (t := 9) rfl (Sub.cons (t := 10) rfl (Sub.cons (t := 11) rfl (Sub.cons (t := 13) rfl (Sub.cons (t := 15) rfl (Sub.cons (t := 18) rfl (Sub.cons (t := 19) rfl (Sub.cons (t := 37) rfl (Sub.cons (t := 38) rfl (Sub.cons (t := 39) rfl (Sub.cons (t := 51) rfl (Sub.cons (t := 52) rfl (Sub.cons (t := 53) rfl (Sub.cons (t := 63) rfl (Sub.cons (t := 64) rfl (Sub.cons (t := 65) rfl (Sub.nil _)))))))))))))))))))))) (.cons (.there .here) rfl (.cons (.there .here) rfl (.cons (.there .here) rfl (.cons (.there .here) rfl (.cons (.there .here) rfl (.cons (.there .here) rfl (.cons (.there .here) rfl (Pick.skip (Pick.refl _))))))))) ?_
  refine RunE.rounds ?_
  refine RunC.seq ?_
  refine RunC.region ?_
  refine RunL.val (Val.pure rfl) rfl rfl rfl ?_
  refine RunL.nil ?_
  refine RunE.next ?_
  refine RunC.seq ?_
  refine RunC.cond rfl ?_ (fun h => absurd h (by decide))
  intro c3
  clear c3
  refine RunC.skip ?_
  refine RunE.next ?_
  refine RunC.seq ?_
  refine RunC.block ?_
  refine RunC.seq ?_
  refine RunC.region ?_
  refine RunL.val (Val.indexAddr_sl rfl rfl sl_119 (by omega) (by omega)) rfl rfl rfl ?_
  refine RunL.val (Val.load_one rfl (.head _) ty_3 rfl) rfl rfl rfl ?_
  refine RunL.val (Val.pure rfl) rfl rfl rfl ?_
  refine RunL.nil ?_
  refine RunE.next ?_
  refine RunC.region ?_
  iterate 3 refine RunL.val (Val.pure rfl) rfl rfl rfl ?_
  refine RunL.val (Val.mul rfl rfl (IntWalk.i64_in _ ⟨by omega, by omega⟩)) rfl rfl rfl ?_
  refine RunL.val (Val.pure rfl) rfl rfl rfl ?_
  refine RunL.callP (isCall_func rfl ent_47) rfl rfl rfl (fun w hm => ydown_calls _ _ (by omega) (by omega) w) ?_
  refine RunL.new (New.buildSlice (parts := [(0, .tmp 74)]) rfl sl_119 zero_3 rfl rfl rfl rfl) rfl rfl rfl (fun b75 => ?_)
  refine RunL.append (A := [(b75, _), (b63, _), (b51, _), (b10, _), (b9, _), (b37, _), (b5, _), (b6, _)]) (B := _) (x := z76) (ys := _) ap_119 rfl rfl rfl hz76 rfl (fun h => by cases h) (fun w hm => src_blk (hm.at (.head _))) (one_of rfl) (by simp only [maxLen]; omega) (by omega) rfl (fun z76 hz76 => ?_)
  refine RunL.val (Val.pure rfl) rfl rfl rfl ?_
  refine RunL.nil ?_
  refine RunE.block_normal ?_
  refine RunE.next ?_
  refine RunC.region ?_
  refine RunL.val (Val.add rfl rfl (IntWalk.i64_in _ ⟨by decide, by decide⟩)) rfl rfl rfl ?_
  refine RunL.val (Val.pure rfl) rfl rfl rfl ?_
  refine RunL.nil ?_
  refine RunE.keep (Sub.cons (t := 0) rfl (Sub.cons (t := 1) rfl (Sub.cons (t := 5) rfl (Sub.cons (t := 6) rfl (Sub.cons (t := 7) rfl (Sub.cons (t := 9) rfl (Sub.cons (t := 10) rfl (Sub.cons (t := 11) rfl (Sub.cons (t := 13) rfl (Sub.cons (t := 15) rfl (Sub.cons (t := 18) rfl (Sub.cons (t := 19) rfl (Sub.cons (t := 37) rfl (Sub.cons (t := 38) rfl (Sub.cons (t := 39) rfl (Sub.cons (t := 51) rfl (Sub.cons (t := 52) rfl (Sub.cons (t := 53) rfl (Sub.cons (t := 63) rfl (Sub.cons (t := 64) rfl (Sub.cons (t := 65) rfl (Sub.nil _)))))))))))))))))))))) (.cons (.there .here) rfl (.cons (.there .here) rfl (.cons (.there .here) rfl (.cons (.there .here) rfl (.cons (.there .here) rfl (.cons (.there .here) rfl (.cons (.there .here) rfl (Pick.skip (Pick.refl _))))))))) ?_
  refine RunE.rounds ?_
  refine RunC.seq ?_
  refine RunC.region ?_
  refine RunL.val (Val.pure rfl) rfl rfl rfl ?_
  refine RunL.nil ?_
  refine RunE.next ?_
  refine RunC.seq ?_
  refine RunC.cond rfl (fun h => absurd h (by decide)) ?_
  intro c3
  clear c3
  refine RunC.exit ?_
  refine RunE.pass_exit ?_
  refine RunE.pass_exit ?_
  refine RunE.block_here ?_
  refine RunE.block_normal ?_
  refine RunE.next ?_
  refine RunC.region ?_
  refine RunL.val (Val.add rfl rfl (IntWalk.i64_in _ ⟨by decide, by decide⟩)) rfl rfl rfl ?_
  refine RunL.val (Val.pure rfl) rfl rfl rfl ?_
  refine RunL.nil ?_
  refine RunE.keep (Sub.cons (t := 0) rfl (Sub.cons (t := 1) rfl (Sub.cons (t := 5) rfl (Sub.cons (t := 6) rfl (Sub.cons (t := 7) rfl (Sub.cons (t := 9) rfl (Sub.cons (t := 10) rfl (Sub.cons (t := 11) rfl (Sub.cons (t := 13) rfl (Sub.cons (t := 18) rfl (Sub.cons (t := 19) rfl (Sub.cons (t := 37) rfl (Sub.cons (t := 38) rfl (Sub.cons (t := 39) rfl (Sub.cons (t := 51) rfl (Sub.cons (t := 52) rfl (Sub.cons (t := 53) rfl (Sub.nil _)))))))))))))))))) (.cons (.there .here) rfl (.cons (.there .here) rfl (.cons (.there .here) rfl (.cons (.there .here) rfl (.cons (.there .here) rfl (.cons (.there .here) rfl (Pick.skip (Pick.refl _)))))))) ?_
  refine RunE.rounds ?_
  refine RunC.seq ?_
  refine RunC.region ?_
  refine RunL.val (Val.pure rfl) rfl rfl rfl ?_
  refine RunL.nil ?_
  refine RunE.next ?_
  refine RunC.seq ?_
  refine RunC.cond rfl ?_ (fun h => absurd h (by decide))
  intro c2
  clear c2
  refine RunC.skip ?_
  refine RunE.next ?_
  refine RunC.seq ?_
  refine RunC.block ?_
  refine RunC.seq ?_
  refine RunC.region ?_
  refine RunL.val (Val.indexAddr_sl rfl rfl sl_119 (by omega) (by omega)) rfl rfl rfl ?_
  refine RunL.val (Val.load_one rfl (.head _) ty_3 rfl) rfl rfl rfl ?_
  refine RunL.val (Val.pure rfl) rfl rfl rfl ?_
  refine RunL.nil ?_
  refine RunE.next ?_
  refine RunC.seq ?_
  refine RunC.region ?_
  refine RunL.val (Val.fieldAddr rfl fld_26_0) rfl rfl rfl ?_
  refine RunL.val (Val.fieldAddr rfl fld_23_0) rfl rfl rfl ?_
  refine RunL.val (Val.load_one rfl (.tail _ (.tail _ (.head _))) ty_3 rfl) rfl rfl rfl ?_
  refine RunL.val (Val.fieldAddr rfl fld_26_0) rfl rfl rfl ?_
  refine RunL.val (Val.fieldAddr rfl fld_23_1) rfl rfl rfl ?_
  refine RunL.val (Val.load_one rfl (.tail _ (.tail _ (.head _))) ty_3 rfl) rfl rfl rfl ?_
  refine RunL.new (New.buildSlice (parts := [(0, .tmp 59), (1, .tmp 62)]) rfl sl_119 zero_3 rfl rfl rfl rfl) rfl rfl rfl (fun b63 => ?_)
  refine RunL.val (Val.len_sl rfl sl_119) rfl rfl rfl ?_
  refine RunL.val (Val.pure rfl) rfl rfl rfl ?_
  refine RunL.nil ?_
  refine RunE.next ?_
  refine RunC.block ?_
  refine RunC.unroll 2 ?_
  refine RunC.seq ?_
  refine RunC.region ?_
  refine RunL.val (Val.pure rfl) rfl rfl rfl ?_
  refine RunL.nil ?_
  refine RunE.next ?_
  refine RunC.seq ?_
  refine RunC.cond rfl ?_ (fun h => absurd h (by decide))
  intro c3
  clear c3
  refine RunC.skip ?_
  refine RunE.next ?_
  refine RunC.seq ?_
  refine RunC.block ?_
  refine RunC.seq ?_
  refine RunC.region ?_
  refine RunL.val (Val.indexAddr_sl rfl rfl sl_119 (by omega) (by omega)) rfl rfl rfl ?_
  refine RunL.val (Val.load_one rfl (.head _) ty_3 rfl) rfl rfl rfl ?_
  refine RunL.val (Val.pure rfl) rfl rfl rfl ?_
  refine RunL.nil ?_
  refine RunE.next ?_
  refine RunC.region ?_
  iterate 3 refine RunL.val (Val.pure rfl) rfl rfl rfl ?_
  refine RunL.val (Val.mul rfl rfl (IntWalk.i64_in _ ⟨by omega, by omega⟩)) rfl rfl rfl ?_
  refine RunL.val (Val.pure rfl) rfl rfl rfl ?_
  refine RunL.callP (isCall_func rfl ent_47) rfl rfl rfl (fun w hm => ydown_calls _ _ (by omega) (by omega) w) ?_
  refine RunL.new (New.buildSlice (parts := [(0, .tmp 74)]) rfl sl_119 zero_3 rfl rfl rfl rfl) rfl rfl rfl (fun b75 => ?_)
  refine RunL.append (A := [(b75, _), (b63, _), (b51, _), (b10, _), (b9, _), (b37, _), (b5, _), (b6, _)]) (B := _) (x := z76) (ys := _) ap_119 rfl rfl rfl hz76 rfl (fun h => by cases h) (fun w hm => src_blk (hm.at (.head _))) (one_of rfl) (by simp only [maxLen]; omega) (by omega) rfl (fun z76 hz76 => ?_)
  refine RunL.val (Val.pure rfl) rfl rfl rfl ?_
  refine RunL.nil ?_
  refine RunE.block_normal ?_
  refine RunE.next ?_
  refine RunC.region ?_
  refine RunL.val (Val.add rfl rfl (IntWalk.i64_in _ ⟨by decide, by decide⟩)) rfl rfl rfl ?_
  refine RunL.val (Val.pure rfl) rfl rfl rfl ?_
  refine RunL.nil ?_
  refine RunE.keep (Sub.cons (t := 0) rfl (Sub.cons (t := 1) rfl (Sub.cons (t := 5) rfl (Sub.cons (t := 6) rfl (Sub.cons (t := 7) rfl (Sub.cons (t := 9) rfl (Sub.cons (t := 10) rfl (Sub.cons (t := 11) rfl (Sub.cons (t := 13) rfl (Sub.cons (t := 15) rfl (Sub.cons (t := 18) rfl (Sub.cons (t := 19) rfl (Sub.cons (t := 37) rfl (Sub.cons (t := 38) rfl (Sub.cons (t := 39) rfl (Sub.cons (t := 51) rfl (Sub.cons (t := 52) rfl (Sub.cons (t := 53) rfl (Sub.cons (t := 63) rfl (Sub.cons (t := 64) rfl (Sub.cons (t := 65) rfl (Sub.nil _)))))))))))))))))))))) (.cons (.there .here) rfl (.cons (.there .here) rfl (.cons (.there .here) rfl (.cons (.there .here) rfl (.cons (.there .here) rfl (.cons (.there .here) rfl (.cons (.there .here) rfl (Pick.skip (Pick.refl _))))))))) ?_
  refine RunE.rounds ?_
  refine RunC.seq ?_
  refine RunC.region ?_
  refine RunL.val (Val.pure rfl) rfl rfl rfl ?_
  refine RunL.nil ?_
  refine RunE.next ?_
  refine RunC.seq ?_
  refine RunC.cond rfl ?_ (fun h => absurd h (by decide))
  intro c3
  clear c3
  refine RunC.skip ?_
  refine RunE.next ?_
  refine RunC.seq ?_
  refine RunC.block ?_
  refine RunC.seq ?_
  refine RunC.region ?_
  refine RunL.val (Val.indexAddr_sl rfl rfl sl_119 (by omega) (by omega)) rfl rfl rfl ?_
  refine RunL.val (Val.load_one rfl (.head _) ty_3 rfl) rfl rfl rfl ?_
  refine RunL.val (Val.pure rfl) rfl rfl rfl ?_
  refine RunL.nil ?_
  refine RunE.next ?_
  refine RunC.region ?_
  iterate 3 refine RunL.val (Val.pure rfl) rfl rfl rfl ?_
  refine RunL.val (Val.mul rfl rfl (IntWalk.i64_in _ ⟨by omega, by omega⟩)) rfl rfl rfl ?_
  refine RunL.val (Val.pure rfl) rfl rfl rfl ?_
  refine RunL.callP (isCall_func rfl ent_47) rfl rfl rfl (fun w hm => ydown_calls _ _ (by omega) (by omega) w) ?_
  refine RunL.new (New.buildSlice (parts := [(0, .tmp 74)]) rfl sl_119 zero_3 rfl rfl rfl rfl) rfl rfl rfl (fun b75 => ?_)
  refine RunL.append (A := [(b75, _), (b63, _), (b51, _), (b10, _), (b9, _), (b37, _), (b5, _), (b6, _)]) (B := _) (x := z76) (ys := _) ap_119 rfl rfl rfl hz76 rfl (fun h => by cases h) (fun w hm => src_blk (hm.at (.head _))) (one_of rfl) (by simp only [maxLen]; omega) (by omega) rfl (fun z76 hz76 => ?_)
  refine RunL.val (Val.pure rfl) rfl rfl rfl ?_
  refine RunL.nil ?_
  refine RunE.block_normal ?_
  refine RunE.next ?_
  refine RunC.region ?_
  refine RunL.val (Val.add rfl rfl (IntWalk.i64_in _ ⟨by decide, by decide⟩)) rfl rfl rfl ?_
  refine RunL.val (Val.pure rfl) rfl rfl rfl ?_
  refine RunL.nil ?_
  refine RunE.keep (Sub.cons (t := 0) rfl (Sub.cons (t := 1) rfl (Sub.cons (t := 5) rfl (Sub.cons (t := 6) rfl (Sub.cons (t := 7) rfl (Sub.cons (t := 9) rfl (Sub.cons (t := 10) rfl (Sub.cons (t := 11) rfl (Sub.cons (t := 13) rfl (Sub.cons (t := 15) rfl (Sub.cons (t := 18) rfl (Sub.cons (t := 19) rfl (Sub.cons (t := 37) rfl (Sub.cons (t := 38) rfl (Sub.cons (t := 39) rfl (Sub.cons (t := 51) rfl (Sub.cons (t := 52) rfl (Sub.cons (t := 53) rfl (Sub.cons (t := 63) rfl (Sub.cons (t := 64) rfl (Sub.cons (t := 65) rfl (Sub.nil _)))))))))))))))))))))) (.cons (.there .here) rfl (.cons (.there .here) rfl (.cons (.there .here) rfl (.cons (.there .here) rfl (.cons (.there .here) rfl (.cons (.there .here) rfl (.cons (.there .here) rfl (Pick.skip (Pick.refl _))))))))) ?_
  refine RunE.rounds ?_
  refine RunC.seq ?_
  refine RunC.region ?_
  refine RunL.val (Val.pure rfl) rfl rfl rfl ?_
  refine RunL.nil ?_
  refine RunE.next ?_
  refine RunC.seq ?_
  refine RunC.cond rfl (fun h => absurd h (by decide)) ?_
  intro c3
  clear c3
  refine RunC.exit ?_
  refine RunE.pass_exit ?_
  refine RunE.pass_exit ?_
  refine RunE.block_here ?_
  refine RunE.block_normal ?_
  refine RunE.next ?_
  refine RunC.region ?_
  refine RunL.val (Val.add rfl rfl (IntWalk.i64_in _ ⟨by decide, by decide⟩)) rfl rfl rfl ?_
  refine RunL.val (Val.pure rfl) rfl rfl rfl ?_
  refine RunL.nil ?_
  refine RunE.keep (Sub.cons (t := 0) rfl (Sub.cons (t := 1) rfl (Sub.cons (t := 5) rfl (Sub.cons (t := 6) rfl (Sub.cons (t := 7) rfl (Sub.cons (t := 9) rfl (Sub.cons (t := 10) rfl (Sub.cons (t := 11) rfl (Sub.cons (t := 13) rfl (Sub.cons (t := 18) rfl (Sub.cons (t := 19) rfl (Sub.cons (t := 37) rfl (Sub.cons (t := 38) rfl (Sub.cons (t := 39) rfl (Sub.cons (t := 51) rfl (Sub.cons (t := 52) rfl (Sub.cons (t := 53) rfl (Sub.nil _)))))))))))))))))) (.cons (.there .here) rfl (.cons (.there .here) rfl (.cons (.there .here) rfl (.cons (.there .here) rfl (.cons (.there .here) rfl (.cons (.there .here) rfl (Pick.skip (Pick.refl _)))))))) ?_
  refine RunE.rounds ?_
  refine RunC.seq ?_
  refine RunC.region ?_
  refine RunL.val (Val.pure rfl) rfl rfl rfl ?_
  refine RunL.nil ?_
  refine RunE.next ?_
  refine RunC.seq ?_
  refine RunC.cond rfl (fun h => absurd h (by decide)) ?_
  intro c2
  clear c2
  refine RunC.exit ?_
  refine RunE.pass_exit ?_
  refine RunE.pass_exit ?_
  refine RunE.block_here ?_
  refine RunE.block_normal ?_
  refine RunE.next ?_
  refine RunC.region ?_
  refine RunL.val (Val.add rfl rfl (IntWalk.i64_in _ ⟨by decide, by decide⟩)) rfl rfl rfl ?_
  refine RunL.val (Val.pure rfl) rfl rfl rfl ?_
  refine RunL.nil ?_
  refine RunE.keep (Sub.cons (t := 0) rfl (Sub.cons (t := 1) rfl (Sub.cons (t := 5) rfl (Sub.cons (t := 6) rfl (Sub.cons (t := 7) rfl (Sub.cons (t := 9) rfl (Sub.cons (t := 10) rfl (Sub.cons (t := 11) rfl (Sub.cons (t := 18) rfl (Sub.cons (t := 19) rfl (Sub.cons (t := 37) rfl (Sub.cons (t := 38) rfl (Sub.cons (t := 39) rfl (Sub.nil _)))))))))))))) (.cons (.there .here) rfl (.cons (.there .here) rfl (.cons (.there .here) rfl (.cons (.there .here) rfl (.cons (.there .here) rfl (Pick.skip (Pick.refl _))))))) ?_
  refine RunE.rounds ?_
  refine RunC.seq ?_
  refine RunC.region ?_
  refine RunL.val (Val.pure rfl) rfl rfl rfl ?_
  refine RunL.nil ?_
  refine RunE.next ?_
  refine RunC.seq ?_
  refine RunC.cond rfl (fun h => absurd h (by decide)) ?_
  intro c1
  clear c1
  refine RunC.exit ?_
  refine RunE.pass_exit ?_
  refine RunE.pass_exit ?_
  refine RunE.block_here ?_
  refine RunE.next ?_
  obtain ⟨bz76, cz76, rz76, rfl, lz761, lz762, lz763⟩ := hz76.has (by decide)
  refine RunC.draw 14 fol_ (.cons .here rfl (.cons .here rfl (.cons .here rfl (.cons .here rfl (.cons (.there .here) rfl .nil))))) ?_
  refine RunA.val (i := 0) rfl (by kernel_rfl) (by kernel_rfl) (Val.pure rfl) rfl rfl rfl (fun _ _ _ h => h) (.cons .here rfl (.cons .here rfl (.cons .here rfl (.cons .here rfl (.cons (.there .here) rfl .nil))))) rfl ?_
  refine RunA.val (i := 1) rfl (by kernel_rfl) (by kernel_rfl) (Val.pure rfl) rfl rfl rfl (fun _ _ _ h => h) (.cons .here rfl (.cons .here rfl (.cons .here rfl (.cons .here rfl (.cons (.there .here) rfl .nil))))) rfl ?_
  refine RunA.val (i := 2) rfl (by kernel_rfl) (by kernel_rfl) (Val.pure rfl) rfl rfl rfl (fun _ _ _ h => h) (.cons .here rfl (.cons .here rfl (.cons .here rfl (.cons .here rfl (.cons (.there .here) rfl .nil))))) rfl ?_
  refine RunA.val (i := 3) rfl (by kernel_rfl) (by kernel_rfl) (Val.indexAddr_sl rfl rfl sl_119 (by omega) (by omega)) rfl rfl rfl (fun _ _ _ h => h) (.cons .here rfl (.cons .here rfl (.cons .here rfl (.cons .here rfl (.cons (.there .here) rfl .nil))))) rfl ?_
  refine RunA.val (i := 4) rfl (by kernel_rfl) (by kernel_rfl) (Val.load_one rfl (.tail _ (.tail _ (.tail _ (.tail _ (.head _))))) ty_3 rfl) rfl rfl rfl (fun _ _ _ h => h) (.cons .here rfl (.cons .here rfl (.cons .here rfl (.cons .here rfl (.cons (.there .here) rfl .nil))))) rfl ?_
  refine RunA.val (i := 5) rfl (by kernel_rfl) (by kernel_rfl) (Val.pure rfl) rfl rfl rfl (fun _ _ _ h => h) (.cons .here rfl (.cons .here rfl (.cons .here rfl (.cons .here rfl (.cons (.there .here) rfl .nil))))) rfl ?_
  refine RunA.val (i := 6) rfl (by kernel_rfl) (by kernel_rfl) (Val.sliceFrom rfl rfl sl_119 rfl (by decide) (by omega) (by omega)) rfl rfl rfl (fun _ _ _ h => h) (.cons .here rfl (.cons .here rfl (.cons .here rfl (.cons .here rfl (.cons (.there .here) rfl .nil))))) rfl ?_
  refine RunA.one (i := 7) (by kernel_rfl) (by kernel_rfl) ?_
  refine RunI.callP rfl (isCall_func rfl ent_77) rfl rfl rfl (fun w hm => yends_calls _ (htL g.f t z.1) _ _ _ _ w (sl_rowAt _ (hm.at (.tail _ (.tail _ (.tail _ (.tail _ (.tail _ (.head _))))))) rfl) (by simp [htL])) (RunK.toA (.cons .here rfl (.cons .here rfl (.cons .here rfl (.cons .here rfl (.cons (.there .here) rfl .nil))))) (.cons .here rfl (.cons .here rfl (.cons .here rfl (.cons .here rfl (.cons .here rfl .nil))))) rfl ?_)
  refine RunA.val (i := 8) rfl (by kernel_rfl) (by kernel_rfl) (Val.pure rfl) rfl rfl rfl (fun _ _ _ h => h) (.cons .here rfl (.cons .here rfl (.cons .here rfl (.cons .here rfl (.cons (.there .here) rfl .nil))))) rfl ?_
  refine RunA.val (i := 9) rfl (by kernel_rfl) (by kernel_rfl) (Val.pure rfl) rfl rfl rfl (fun _ _ _ h => h) (.cons .here rfl (.cons .here rfl (.cons .here rfl (.cons .here rfl (.cons (.there .here) rfl .nil))))) rfl ?_
  refine RunA.val (i := 10) rfl (by kernel_rfl) (by kernel_rfl) (Val.pure rfl) rfl rfl rfl (fun _ _ _ h => h) (.cons .here rfl (.cons .here rfl (.cons .here rfl (.cons .here rfl (.cons (.there .here) rfl .nil))))) rfl ?_
  refine RunA.val (i := 11) rfl (by kernel_rfl) (by kernel_rfl) (Val.indexAddr_arr rfl rfl arr_72 (by decide) (by decide)) rfl rfl rfl (fun _ _ _ h => h) (.cons .here rfl (.cons .here rfl (.cons .here rfl (.cons .here rfl (.cons (.there .here) rfl .nil))))) rfl ?_
  refine RunA.val (i := 12) rfl (by kernel_rfl) (by kernel_rfl) (Val.fieldAddr rfl fld_64_0) rfl rfl rfl (fun _ _ _ h => h) (.cons .here rfl (.cons .here rfl (.cons .here rfl (.cons .here rfl (.cons (.there .here) rfl .nil))))) rfl ?_
  refine RunA.one (i := 13) (by kernel_rfl) (by kernel_rfl) ?_
  refine RunI.sto rfl (Sto.store rfl rfl (.there (.there (.there (.there .here)))) ty_3 rfl rfl) rfl rfl (RunK.toA (.cons .here rfl (.cons .here rfl (.cons .here rfl (.cons .here rfl (.cons (.there .here) rfl .nil))))) (.cons .here rfl (.cons .here rfl (.cons .here rfl (.cons .here rfl (.cons .here rfl .nil))))) rfl ?_)
  refine RunA.toB (by kernel_rfl) ?_
  refine RunB.one (i := 14) (by kernel_rfl) ?_
  refine RunI.val rfl (Val.indexAddr_arr rfl rfl arr_72 (by decide) (by decide)) rfl rfl rfl (RunK.toB ?_)
  refine RunB.one (i := 15) (by kernel_rfl) ?_
  refine RunI.val rfl (Val.fieldAddr rfl fld_64_1) rfl rfl rfl (RunK.toB ?_)
  refine RunB.one (i := 16) (by kernel_rfl) ?_
  refine RunI.sto rfl (Sto.store rfl rfl (.there (.there (.there (.there .here)))) ty_3 rfl rfl) rfl rfl (RunK.toB ?_)
  refine RunB.done (by kernel_rfl) ?_
  refine RunE.block_normal ?_
  refine RunE.next ?_
  refine RunC.region ?_
  refine RunL.val (Val.add rfl rfl (IntWalk.i64_in _ ⟨by decide, by decide⟩)) rfl rfl rfl ?_
  refine RunL.val (Val.pure rfl) rfl rfl rfl ?_
  refine RunL.nil ?_
  refine RunE.keep (Sub.cons (t := 0) rfl (Sub.cons (t := 1) rfl (Sub.cons (t := 5) rfl (Sub.cons (t := 6) rfl (Sub.cons (t := 18) rfl (Sub.cons (t := 19) rfl (Sub.nil _))))))) (.cons (.there (.there (.there .here))) rfl (.cons (.there (.there (.there .here))) rfl .nil)) ?_
  refine RunE.rounds ?_
  refine RunC.seq ?_
  refine RunC.region ?_
  refine RunL.val (Val.pure rfl) rfl rfl rfl ?_
  refine RunL.nil ?_
  refine RunE.next ?_
  refine RunC.seq ?_
  refine RunC.cond rfl ?_ (fun h => absurd h (by decide))
  intro c0
  clear c0
  refine RunC.skip ?_
  refine RunE.next ?_
  refine RunC.seq ?_
  refine RunC.block ?_
  refine RunC.seq ?_
  refine RunC.region ?_
  refine RunL.val (Val.pure rfl) rfl rfl rfl ?_
  refine RunL.val (Val.index1 rfl rfl arr1_113 (by decide) (by decide) rfl) rfl rfl rfl ?_
  refine RunL.val (Val.pure rfl) rfl rfl rfl ?_
  refine RunL.val (Val.pure rfl) rfl rfl rfl ?_
  refine RunL.nil ?_
  refine RunE.next ?_
  refine RunC.seq ?_
  refine RunC.region ?_
  refine RunL.val (Val.pure rfl) rfl rfl rfl ?_
  refine RunL.val (Val.pure rfl) rfl rfl rfl ?_
  refine RunL.callP (isCall_value rfl rfl ent_91) rfl rfl rfl (fun w hm => ysecond_calls g a _ w (hm.old_at hb (by simp))) ?_
  refine RunL.new (New.alloc zero_26) rfl rfl rfl (fun b9 => ?_)
  refine RunL.sto (Sto.store rfl rfl .here ty_26 rfl rfl) rfl rfl ?_
  refine RunL.nil ?_
  refine RunE.next ?_
  refine RunC.seq ?_
  refine RunC.region ?_
  refine RunL.val (Val.fieldAddr rfl fld_26_5) rfl rfl rfl ?_
  refine RunL.val (Val.load_one rfl (.head _) ty_24 rfl) rfl rfl rfl ?_
  refine RunL.val (Val.pure rfl) rfl rfl rfl ?_
  refine RunL.val (Val.indexAddr_slp rfl rfl sl_24 (by omega) (by omega) (hG.s2.ptrM hi2)) rfl rfl rfl ?_
  refine RunL.val (Val.fieldAddr rfl fld_54_0) rfl rfl rfl ?_
  refine RunL.val (Val.fieldAddr rfl fld_52_1) rfl rfl rfl ?_
  refine RunL.val (Val.load_gen rfl (fun w hm => hG.s2.loadPart hm (by simp) ty_23 hi2 hu (j := 2) (by decide) (vs := [.int .i64 u.ly.lo, .int .i64 u.ly.hi]) rfl (by decide) (by simp))) rfl rfl rfl ?_
  refine RunL.new (New.alloc zero_23) rfl rfl rfl (fun b10 => ?_)
  refine RunL.sto (Sto.store rfl rfl .here ty_23 rfl rfl) rfl rfl ?_
  refine RunL.nil ?_
  refine RunE.next ?_
  refine RunC.seq ?_
  refine RunC.region ?_
  refine RunL.val (Val.pure rfl) rfl rfl rfl ?_
  refine RunL.nil ?_
  refine RunE.next ?_
  refine RunC.seq ?_
  refine RunC.seq ?_
  refine RunC.region ?_
  refine RunL.val (Val.fieldAddr rfl fld_23_0) rfl rfl rfl ?_
  refine RunL.val (Val.load_one rfl (.head _) ty_3 rfl) rfl rfl rfl ?_
  refine RunL.val (Val.fieldAddr rfl fld_23_1) rfl rfl rfl ?_
  refine RunL.val (Val.load_one rfl (.head _) ty_3 rfl) rfl rfl rfl ?_
  refine RunL.new (New.buildSlice (parts := [(0, .tmp 34), (1, .tmp 36)]) rfl sl_119 zero_3 rfl rfl rfl rfl) rfl rfl rfl (fun b37 => ?_)
  refine RunL.val (Val.len_sl rfl sl_119) rfl rfl rfl ?_
  refine RunL.val (Val.pure rfl) rfl rfl rfl ?_
  refine RunL.nil ?_
  refine RunE.next ?_
  refine RunC.block ?_
  refine RunC.unroll 2 ?_
  refine RunC.seq ?_
  refine RunC.region ?_
  refine RunL.val (Val.pure rfl) rfl rfl rfl ?_
  refine RunL.nil ?_
  refine RunE.next ?_
  refine RunC.seq ?_
  refine RunC.cond rfl ?_ (fun h => absurd h (by decide))
  intro c1
  clear c1
  refine RunC.skip ?_
  refine RunE.next ?_
  refine RunC.seq ?_
  refine RunC.block ?_
  refine RunC.seq ?_
  refine RunC.region ?_
  refine RunL.val (Val.indexAddr_sl rfl rfl sl_119 (by omega) (by omega)) rfl rfl rfl ?_
  refine RunL.val (Val.load_one rfl (.head _) ty_3 rfl) rfl rfl rfl ?_
  refine RunL.val (Val.pure rfl) rfl rfl rfl ?_
  refine RunL.nil ?_
  refine RunE.next ?_
  refine RunC.seq ?_
  refine RunC.draw 11 fol_ (.cons .here rfl (.cons .here rfl (.cons .here rfl (.cons .here rfl (.cons .here rfl .nil))))) ?_
  refine RunA.val (i := 0) rfl (by kernel_rfl) (by kernel_rfl) (Val.pure rfl) rfl rfl rfl (fun _ _ _ h => h) (.cons .here rfl (.cons .here rfl (.cons .here rfl (.cons .here rfl (.cons .here rfl .nil))))) rfl ?_
  refine RunA.val (i := 1) rfl (by kernel_rfl) (by kernel_rfl) (Val.indexAddr_arr rfl rfl arr_72 (by decide) (by decide)) rfl rfl rfl (fun _ _ _ h => h) (.cons .here rfl (.cons .here rfl (.cons .here rfl (.cons .here rfl (.cons .here rfl .nil))))) rfl ?_
  refine RunA.val (i := 2) rfl (by kernel_rfl) (by kernel_rfl) (Val.fieldAddr rfl fld_64_0) rfl rfl rfl (fun _ _ _ h => h) (.cons .here rfl (.cons .here rfl (.cons .here rfl (.cons .here rfl (.cons .here rfl .nil))))) rfl ?_
  refine RunA.val (i := 3) rfl (by kernel_rfl) (by kernel_rfl) (Val.load_one rfl (.tail _ (.tail _ (.tail _ (.head _)))) ty_3 rfl) rfl rfl rfl (fun _ _ _ h => h) (.cons .here rfl (.cons .here rfl (.cons .here rfl (.cons .here rfl (.cons .here rfl .nil))))) rfl ?_
  refine RunA.val (i := 4) rfl (by kernel_rfl) (by kernel_rfl) (Val.pure rfl) rfl rfl rfl (fun _ _ _ h => h) (.cons .here rfl (.cons .here rfl (.cons .here rfl (.cons .here rfl (.cons .here rfl .nil))))) rfl ?_
  refine RunA.val (i := 5) rfl (by kernel_rfl) (by kernel_rfl) (Val.indexAddr_arr rfl rfl arr_72 (by decide) (by decide)) rfl rfl rfl (fun _ _ _ h => h) (.cons .here rfl (.cons .here rfl (.cons .here rfl (.cons .here rfl (.cons .here rfl .nil))))) rfl ?_
  refine RunA.val (i := 6) rfl (by kernel_rfl) (by kernel_rfl) (Val.fieldAddr rfl fld_64_1) rfl rfl rfl (fun _ _ _ h => h) (.cons .here rfl (.cons .here rfl (.cons .here rfl (.cons .here rfl (.cons .here rfl .nil))))) rfl ?_
  refine RunA.val (i := 7) rfl (by kernel_rfl) (by kernel_rfl) (Val.load_one rfl (.tail _ (.tail _ (.tail _ (.head _)))) ty_3 rfl) rfl rfl rfl (fun _ _ _ h => h) (.cons .here rfl (.cons .here rfl (.cons .here rfl (.cons .here rfl (.cons .here rfl .nil))))) rfl ?_
  refine RunA.val (i := 10) rfl (by kernel_rfl) (by kernel_rfl) (Val.pure rfl) rfl rfl rfl (fun _ _ _ h => h) (.cons .here rfl (.cons .here rfl (.cons .here rfl (.cons .here rfl (.cons .here rfl .nil))))) rfl ?_
  refine RunA.one (i := 8) (by kernel_rfl) (by kernel_rfl) ?_
  refine RunI.new rfl (New.buildSlice (parts := [(0, .tmp 46), (1, .tmp 50)]) rfl sl_119 zero_3 rfl rfl rfl rfl) rfl rfl rfl (fun b51 => (RunK.toA (.cons .here rfl (.cons .here rfl (.cons .here rfl (.cons .here rfl (.cons .here rfl (.cons .here rfl .nil)))))) (.cons (.there .here) rfl (.cons (.there .here) rfl (.cons (.there .here) rfl (.cons (.there .here) rfl (.cons (.there .here) rfl .nil))))) rfl ?_))
  refine RunA.val (i := 9) rfl (by kernel_rfl) (by kernel_rfl) (Val.len_sl rfl sl_119) rfl rfl rfl (fun _ _ _ h => h) (.cons .here rfl (.cons .here rfl (.cons .here rfl (.cons .here rfl (.cons .here rfl (.cons .here rfl .nil)))))) rfl ?_
  refine RunA.done (by kernel_rfl) ?_
  refine RunE.next ?_
  refine RunC.block ?_
  refine RunC.unroll 2 ?_
  refine RunC.seq ?_
  refine RunC.region ?_
  refine RunL.val (Val.pure rfl) rfl rfl rfl ?_
  refine RunL.nil ?_
  refine RunE.next ?_
  refine RunC.seq ?_
  refine RunC.cond rfl ?_ (fun h => absurd h (by decide))
  intro c2
  clear c2
  refine RunC.skip ?_
  refine RunE.next ?_
  refine RunC.seq ?_
  refine RunC.block ?_
  refine RunC.seq ?_
  refine RunC.region ?_
  refine RunL.val (Val.indexAddr_sl rfl rfl sl_119 (by omega) (by omega)) rfl rfl rfl ?_
  refine RunL.val (Val.load_one rfl (.head _) ty_3 rfl) rfl rfl rfl ?_
  refine RunL.val (Val.pure rfl) rfl rfl rfl ?_
  refine RunL.nil ?_
  refine RunE.next ?_
  refine RunC.seq ?_
  refine RunC.region ?_
  refine RunL.val (Val.fieldAddr rfl fld_26_0) rfl rfl rfl ?_
  refine RunL.val (Val.fieldAddr rfl fld_23_0) rfl rfl rfl ?_
  refine RunL.val (Val.load_one rfl (.tail _ (.tail _ (.tail _ (.head _)))) ty_3 rfl) rfl rfl rfl ?_
  refine RunL.val (Val.fieldAddr rfl fld_26_0) rfl rfl rfl ?_
  refine RunL.val (Val.fieldAddr rfl fld_23_1) rfl rfl rfl ?_
  refine RunL.val (Val.load_one rfl (.tail _ (.tail _ (.tail _ (.head _)))) ty_3 rfl) rfl rfl rfl ?_
  refine RunL.new (New.buildSlice (parts := [(0, .tmp 59), (1, .tmp 62)]) rfl sl_119 zero_3 rfl rfl rfl rfl) rfl rfl rfl (fun b63 => ?_)
  refine RunL.val (Val.len_sl rfl sl_119) rfl rfl rfl ?_
  refine RunL.val (Val.pure rfl) rfl rfl rfl ?_
  refine RunL.nil ?_
  refine RunE.next ?_
  refine RunC.block ?_
  refine RunC.unroll 2 ?_
  refine RunC.seq ?_
  refine RunC.region ?_
  refine RunL.val (Val.pure rfl) rfl rfl rfl ?_
  refine RunL.nil ?_
  refine RunE.next ?_
  refine RunC.seq ?_
  refine RunC.cond rfl ?_ (fun h => absurd h (by decide))
  intro c3
  clear c3
  refine RunC.skip ?_
  refine RunE.next ?_
  refine RunC.seq ?_
  refine RunC.block ?_
  refine RunC.seq ?_
  refine RunC.region ?_
  refine RunL.val (Val.indexAddr_sl rfl rfl sl_119 (by omega) (by omega)) rfl rfl rfl ?_
  refine RunL.val (Val.load_one rfl (.head _) ty_3 rfl) rfl rfl rfl ?_
  refine RunL.val (Val.pure rfl) rfl rfl rfl ?_
  refine RunL.nil ?_
  refine RunE.next ?_
  refine RunC.region ?_
  iterate 3 refine RunL.val (Val.pure rfl) rfl rfl rfl ?_
  refine RunL.val (Val.mul rfl rfl (IntWalk.i64_in _ ⟨by omega, by omega⟩)) rfl rfl rfl ?_
  refine RunL.val (Val.pure rfl) rfl rfl rfl ?_
  refine RunL.callP (isCall_func rfl ent_47) rfl rfl rfl (fun w hm => ydown_calls _ _ (by omega) (by omega) w) ?_
  refine RunL.new (New.buildSlice (parts := [(0, .tmp 74)]) rfl sl_119 zero_3 rfl rfl rfl rfl) rfl rfl rfl (fun b75 => ?_)
  refine RunL.append (A := [(b75, _), (b63, _), (b51, _), (b37, _), (b10, _), (b9, _), (b5, _), (b6, _)]) (B := _) (x := none) (ys := _) ap_119 rfl rfl rfl OwnOk.start rfl (fun h => by cases h) (fun w hm => src_blk (hm.at (.head _))) (one_of rfl) (by simp only [maxLen]; omega) (by omega) rfl (fun z76 hz76 => ?_)
  refine RunL.val (Val.pure rfl) rfl rfl rfl ?_
  refine RunL.nil ?_
  refine RunE.block_normal ?_
  refine RunE.next ?_
  refine RunC.region ?_
  refine RunL.val (Val.add rfl rfl (IntWalk.i64_in _ ⟨by decide, by decide⟩)) rfl rfl rfl ?_
  refine RunL.val (Val.pure rfl) rfl rfl rfl ?_
  refine RunL.nil ?_
  refine RunE.keep (Sub.cons (t := 0) rfl (Sub.cons (t := 1) rfl (Sub.cons (t := 5) rfl (Sub.cons (t := 6) rfl (Sub.cons (t := 7) rfl (Sub.cons (t := 9) rfl (Sub.cons (t := 10) rfl (Sub.cons (t := 11) rfl (Sub.cons (t := 13) rfl (Sub.cons (t := 15) rfl (Sub.cons (t := 18) rfl (Sub.cons (t := 19) rfl (Sub.cons (t := 37) rfl (Sub.cons (t := 38) rfl (Sub.cons (t := 39) rfl (Sub.cons (t := 51) rfl (Sub.cons (t := 52) rfl (Sub.cons (t := 53) rfl (Sub.cons (t := 63) rfl (Sub.cons (t := 64) rfl (Sub.cons (t := 65) rfl (Sub.nil _)))))))))))))))))))))) (.cons (.there .here) rfl (.cons (.there .here) rfl (.cons (.there (.there .here)) rfl (.cons (.there (.there .here)) rfl (.cons (.there .here) rfl (.cons (.there .here) rfl (.cons (.there .here) rfl (Pick.skip (Pick.refl _))))))))) ?_
  refine RunE.rounds ?_
  refine RunC.seq ?_
  refine RunC.region ?_
  refine RunL.val (Val.pure rfl) rfl rfl rfl ?_
  refine RunL.nil ?_
  refine RunE.next ?_
  refine RunC.seq ?_
  refine RunC.cond rfl ?_ (fun h => absurd h (by decide))
  intro c3
  clear c3
  refine RunC.skip ?_
  refine RunE.next ?_
  refine RunC.seq ?_
  refine RunC.block ?_
  refine RunC.seq ?_
  refine RunC.region ?_
  refine RunL.val (Val.indexAddr_sl rfl rfl sl_119 (by omega) (by omega)) rfl rfl rfl ?_
  refine RunL.val (Val.load_one rfl (.head _) ty_3 rfl) rfl rfl rfl ?_
  refine RunL.val (Val.pure rfl) rfl rfl rfl ?_
  refine RunL.nil ?_
  refine RunE.next ?_
  refine RunC.region ?_
  iterate 3 refine RunL.val (Val.pure rfl) rfl rfl rfl ?_
  refine RunL.val (Val.mul rfl rfl (IntWalk.i64_in _ ⟨by omega, by omega⟩)) rfl rfl rfl ?_
  refine RunL.val (Val.pure rfl) rfl rfl rfl ?_
  refine RunL.callP (isCall_func rfl ent_47) rfl rfl rfl (fun w hm => ydown_calls _ _ (by omega) (by omega) w) ?_
  refine RunL.new (New.buildSlice (parts := [(0, .tmp 74)]) rfl sl_119 zero_3 rfl rfl rfl rfl) rfl rfl rfl (fun b75 => ?_)
  refine RunL.append (A := [(b75, _), (b63, _), (b51, _), (b10, _), (b9, _), (b37, _), (b5, _), (b6, _)]) (B := _) (x := z76) (ys := _) ap_119 rfl rfl rfl hz76 rfl (fun h => by cases h) (fun w hm => src_blk (hm.at (.head _))) (one_of rfl) (by simp only [maxLen]; omega) (by omega) rfl (fun z76 hz76 => ?_)
  refine RunL.val (Val.pure rfl) rfl rfl rfl ?_
  refine RunL.nil ?_
  refine RunE.block_normal ?_
  refine RunE.next ?_
  refine RunC.region ?_
  refine RunL.val (Val.add rfl rfl (IntWalk.i64_in _ ⟨by decide, by decide⟩)) rfl rfl rfl ?_
  refine RunL.val (Val.pure rfl) rfl rfl rfl ?_
  refine RunL.nil ?_
  refine RunE.keep (Sub.cons (t := 0) rfl (Sub.cons (t := 1) rfl (Sub.cons (t := 5) rfl (Sub.cons (t := 6) rfl (Sub.cons (t := 7) rfl (Sub.cons (t := 9) rfl (Sub.cons (t := 10) rfl (Sub.cons (t := 11) rfl (Sub.cons (t := 13) rfl (Sub.cons (t := 15) rfl (Sub.cons (t := 18) rfl (Sub.cons (t := 19) rfl (Sub.cons (t := 37) rfl (Sub.cons (t := 38) rfl (Sub.cons (t := 39) rfl (Sub.cons (t := 51) rfl (Sub.cons (t := 52) rfl (Sub.cons (t := 53) rfl (Sub.cons (t := 63) rfl (Sub.cons (t := 64) rfl (Sub.cons (t := 65) rfl (Sub.nil _)))))))))))))))))))))) (.cons (.there .here) rfl (.cons (.there .here) rfl (.cons (.there .here) rfl (.cons (.there .here) rfl (.cons (.there .here) rfl (.cons (.there .here) rfl (.cons (.there .here) rfl (Pick.skip (Pick.refl _))))))))) ?_
  refine RunE.rounds ?_
  refine RunC.seq ?_
  refine RunC.region ?_
  refine RunL.val (Val.pure rfl) rfl rfl rfl ?_
  refine RunL.nil ?_
  refine RunE.next ?_
  refine RunC.seq ?_
  refine RunC.cond rfl (fun h => absurd h (by decide)) ?_
  intro c3
  clear c3
  refine RunC.exit ?_
  refine RunE.pass_exit ?_
  refine RunE.pass_exit ?_
  refine RunE.block_here ?_
  refine RunE.block_normal ?_
  refine RunE.next ?_
  refine RunC.region ?_
  refine RunL.val (Val.add rfl rfl (IntWalk.i64_in _ ⟨by decide, by decide⟩)) rfl rfl rfl ?_
  refine RunL.val (Val.pure rfl) rfl rfl rfl ?_
  refine RunL.nil ?_
  refine RunE.keep (Sub.cons (t := 0) rfl (Sub.cons (t := 1) rfl (Sub.cons (t := 5) rfl (Sub.cons (t := 6) rfl (Sub.cons (t := 7) rfl (Sub.cons (t := 9) rfl (Sub.cons (t := 10) rfl (Sub.cons (t := 11) rfl (Sub.cons (t := 13) rfl (Sub.cons (t := 18) rfl (Sub.cons (t := 19) rfl (Sub.cons (t := 37) rfl (Sub.cons (t := 38) rfl (Sub.cons (t := 39) rfl (Sub.cons (t := 51) rfl (Sub.cons (t := 52) rfl (Sub.cons (t := 53) rfl (Sub.nil _)))))))))))))))))) (.cons (.there .here) rfl (.cons (.there .here) rfl (.cons (.there .here) rfl (.cons (.there .here) rfl (.cons (.there .here) rfl (.cons (.there .here) rfl (Pick.skip (Pick.refl _)))))))) ?_
  refine RunE.rounds ?_
  refine RunC.seq ?_
  refine RunC.region ?_
  refine RunL.val (Val.pure rfl) rfl rfl rfl ?_
  refine RunL.nil ?_
  refine RunE.next ?_
  refine RunC.seq ?_
  refine RunC.cond rfl ?_ (fun h => absurd h (by decide))
  intro c2
  clear c2
  refine RunC.skip ?_
  refine RunE.next ?_
  refine RunC.seq ?_
  refine RunC.block ?_
  refine RunC.seq ?_
  refine RunC.region ?_
  refine RunL.val (Val.indexAddr_sl rfl rfl sl_119 (by omega) (by omega)) rfl rfl rfl ?_
  refine RunL.val (Val.load_one rfl (.head _) ty_3 rfl) rfl rfl rfl ?_
  refine RunL.val (Val.pure rfl) rfl rfl rfl ?_
  refine RunL.nil ?_
  refine RunE.next ?_
  refine RunC.seq ?_
  refine RunC.region ?_
  refine RunL.val (Val.fieldAddr rfl fld_26_0) rfl rfl rfl ?_
  refine RunL.val (Val.fieldAddr rfl fld_23_0) rfl rfl rfl ?_
  refine RunL.val (Val.load_one rfl (.tail _ (.tail _ (.head _))) ty_3 rfl) rfl rfl rfl ?_
  refine RunL.val (Val.fieldAddr rfl fld_26_0) rfl rfl rfl ?_
  refine RunL.val (Val.fieldAddr rfl fld_23_1) rfl rfl rfl ?_
  refine RunL.val (Val.load_one rfl (.tail _ (.tail _ (.head _))) ty_3 rfl) rfl rfl rfl ?_
  refine RunL.new (New.buildSlice (parts := [(0, .tmp 59), (1, .tmp 62)]) rfl sl_119 zero_3 rfl rfl rfl rfl) rfl rfl rfl (fun b63 => ?_)
  refine RunL.val (Val.len_sl rfl sl_119) rfl rfl rfl ?_
  refine RunL.val (Val.pure rfl) rfl rfl rfl ?_
  refine RunL.nil ?_
  refine RunE.next ?_
  refine RunC.block ?_
  refine RunC.unroll 2 ?_
  refine RunC.seq ?_
  refine RunC.region ?_
  refine RunL.val (Val.pure rfl) rfl rfl rfl ?_
  refine RunL.nil ?_
  refine RunE.next ?_
  refine RunC.seq ?_
  refine RunC.cond rfl ?_ (fun h => absurd h (by decide))
  intro c3
  clear c3
  refine RunC.skip ?_
  refine RunE.next ?_
  refine RunC.seq ?_
  refine RunC.block ?_
  refine RunC.seq ?_
  refine RunC.region ?_
  refine RunL.val (Val.indexAddr_sl rfl rfl sl_119 (by omega) (by omega)) rfl rfl rfl ?_
  refine RunL.val (Val.load_one rfl (.head _) ty_3 rfl) rfl rfl rfl ?_
  refine RunL.val (Val.pure rfl) rfl rfl rfl ?_
  refine RunL.nil ?_
  refine RunE.next ?_
  refine RunC.region ?_
  iterate 3 refine RunL.val (Val.pure rfl) rfl rfl rfl ?_
  refine RunL.val (Val.mul rfl rfl (IntWalk.i64_in _ ⟨by omega, by omega⟩)) rfl rfl rfl ?_
  refine RunL.val (Val.pure rfl) rfl rfl rfl ?_
  refine RunL.callP (isCall_func rfl ent_47) rfl rfl rfl (fun w hm => ydown_calls _ _ (by omega) (by omega) w) ?_
  refine RunL.new (New.buildSlice (parts := [(0, .tmp 74)]) rfl sl_119 zero_3 rfl rfl rfl rfl) rfl rfl rfl (fun b75 => ?_)
  refine RunL.append (A := [(b75, _), (b63, _), (b51, _), (b10, _), (b9, _), (b37, _), (b5, _), (b6, _)]) (B := _) (x := z76) (ys := _) ap_119 rfl rfl rfl hz76 rfl (fun h => by cases h) (fun w hm => src_blk (hm.at (.head _))) (one_of rfl) (by simp only [maxLen]; omega) (by omega) rfl (fun z76 hz76 => ?_)
  refine RunL.val (Val.pure rfl) rfl rfl rfl ?_
  refine RunL.nil ?_
  refine RunE.block_normal ?_
  refine RunE.next ?_
  refine RunC.region ?_
  refine RunL.val (Val.add rfl rfl (IntWalk.i64_in _ ⟨by decide, by decide⟩)) rfl rfl rfl ?_
  refine RunL.val (Val.pure rfl) rfl rfl rfl ?_
  refine RunL.nil ?_
  refine RunE.keep (Sub.cons (t := 0) rfl (Sub.cons (t := 1) rfl (Sub.cons (t := 5) rfl (Sub.cons (t := 6) rfl (Sub.cons (t := 7) rfl (Sub.cons (t := 9) rfl (Sub.cons (t := 10) rfl (Sub.cons (t := 11) rfl (Sub.cons (t := 13) rfl (Sub.cons (t := 15) rfl (Sub.cons (t := 18) rfl (Sub.cons (t := 19) rfl (Sub.cons (t := 37) rfl (Sub.cons (t := 38) rfl (Sub.cons (t := 39) rfl (Sub.cons (t := 51) rfl (Sub.cons (t := 52) rfl (Sub.cons (t := 53) rfl (Sub.cons (t := 63) rfl (Sub.cons (t := 64) rfl (Sub.cons (t := 65) rfl (Sub.nil _)))))))))))))))))))))) (.cons (.there .here) rfl (.cons (.there .here) rfl (.cons (.there .here) rfl (.cons (.there .here) rfl (.cons (.there .here) rfl (.cons (.there .here) rfl (.cons (.there .here) rfl (Pick.skip (Pick.refl _))))))))) ?_
  refine RunE.rounds ?_
  refine RunC.seq ?_
  refine RunC.region ?_
  refine RunL.val (Val.pure rfl) rfl rfl rfl ?_
  refine RunL.nil ?_
  refine RunE.next ?_
  refine RunC.seq ?_
  refine RunC.cond rfl ?_ (fun h => absurd h (by decide))
  intro c3
  clear c3
  refine RunC.skip ?_
  refine RunE.next ?_
  refine RunC.seq ?_
  refine RunC.block ?_
  refine RunC.seq ?_
  refine RunC.region ?_
  refine RunL.val (Val.indexAddr_sl rfl rfl sl_119 (by omega) (by omega)) rfl rfl rfl ?_
  refine RunL.val (Val.load_one rfl (.head _) ty_3 rfl) rfl rfl rfl ?_
  refine RunL.val (Val.pure rfl) rfl rfl rfl ?_
  refine RunL.nil ?_
  refine RunE.next ?_
  refine RunC.region ?_
  iterate 3 refine RunL.val (Val.pure rfl) rfl rfl rfl ?_
  refine RunL.val (Val.mul rfl rfl (IntWalk.i64_in _ ⟨by omega, by omega⟩)) rfl rfl rfl ?_
  refine RunL.val (Val.pure rfl) rfl rfl rfl ?_
  refine RunL.callP (isCall_func rfl ent_47) rfl rfl rfl (fun w hm => ydown_calls _ _ (by omega) (by omega) w) ?_
  refine RunL.new (New.buildSlice (parts := [(0, .tmp 74)]) rfl sl_119 zero_3 rfl rfl rfl rfl) rfl rfl rfl (fun b75 => ?_)
  refine RunL.append (A := [(b75, _), (b63, _), (b51, _), (b10, _), (b9, _), (b37, _), (b5, _), (b6, _)]) (B := _) (x := z76) (ys := _) ap_119 rfl rfl rfl hz76 rfl (fun h => by cases h) (fun w hm => src_blk (hm.at (.head _))) (one_of rfl) (by simp only [maxLen]; omega) (by omega) rfl (fun z76 hz76 => ?_)
  refine RunL.val (Val.pure rfl) rfl rfl rfl ?_
  refine RunL.nil ?_
  refine RunE.block_normal ?_
  refine RunE.next ?_
  refine RunC.region ?_
  refine RunL.val (Val.add rfl rfl (IntWalk.i64_in _ ⟨by decide, by decide⟩)) rfl rfl rfl ?_
  refine RunL.val (Val.pure rfl) rfl rfl rfl ?_
  refine RunL.nil ?_
  refine RunE.keep (Sub.cons (t := 0) rfl (Sub.cons (t := 1) rfl (Sub.cons (t := 5) rfl (Sub.cons (t := 6) rfl (Sub.cons (t := 7) rfl (Sub.cons (t := 9) rfl (Sub.cons (t := 10) rfl (Sub.cons (t := 11) rfl (Sub.cons (t := 13) rfl (Sub.cons (t := 15) rfl (Sub.cons (t := 18) rfl (Sub.cons (t := 19) rfl (Sub.cons (t := 37) rfl (Sub.cons (t := 38) rfl (Sub.cons (t := 39) rfl (Sub.cons (t := 51) rfl (Sub.cons (t := 52) rfl (Sub.cons (t := 53) rfl (Sub.cons (t := 63) rfl (Sub.cons (t := 64) rfl (Sub.cons (t := 65) rfl (Sub.nil _)))))))))))))))))))))) (.cons (.there .here) rfl (.cons (.there .here) rfl (.cons (.there .here) rfl (.cons (.there .here) rfl (.cons (.there .here) rfl (.cons (.there .here) rfl (.cons (.there .here) rfl (Pick.skip (Pick.refl _))))))))) ?_
  refine RunE.rounds ?_
  refine RunC.seq ?_
  refine RunC.region ?_
  refine RunL.val (Val.pure rfl) rfl rfl rfl ?_
  refine RunL.nil ?_
  refine RunE.next ?_
  refine RunC.seq ?_
  refine RunC.cond rfl (fun h => absurd h (by decide)) ?_
  intro c3
  clear c3
  refine RunC.exit ?_
  refine RunE.pass_exit ?_
  refine RunE.pass_exit ?_
  refine RunE.block_here ?_
  refine RunE.block_normal ?_
  refine RunE.next ?_
  refine RunC.region ?_
  refine RunL.val (Val.add rfl rfl (IntWalk.i64_in _ ⟨by decide, by decide⟩)) rfl rfl rfl ?_
  refine RunL.val (Val.pure rfl) rfl rfl rfl ?_
  refine RunL.nil ?_
  refine RunE.keep (Sub.cons (t := 0) rfl (Sub.cons (t := 1) rfl (Sub.cons (t := 5) rfl (Sub.cons (t := 6) rfl (Sub.cons (t := 7) rfl (Sub.cons (t := 9) rfl (Sub.cons (t := 10) rfl (Sub.cons (t := 11) rfl (Sub.cons (t := 13) rfl (Sub.cons (t := 18) rfl (Sub.cons (t := 19) rfl (Sub.cons (t := 37) rfl (Sub.cons (t := 38) rfl (Sub.cons (t := 39) rfl (Sub.cons (t := 51) rfl (Sub.cons (t := 52) rfl (Sub.cons (t := 53) rfl (Sub.nil _)))))))))))))))))) (.cons (.there .here) rfl (.cons (.there .here) rfl (.cons (.there .here) rfl (.cons (.there .here) rfl (.cons (.there .here) rfl (.cons (.there .here) rfl (Pick.skip (Pick.refl _)))))))) ?_
  refine RunE.rounds ?_
  refine RunC.seq ?_
  refine RunC.region ?_
  refine RunL.val (Val.pure rfl) rfl rfl rfl ?_
  refine RunL.nil ?_
  refine RunE.next ?_
  refine RunC.seq ?_
  refine RunC.cond rfl (fun h => absurd h (by decide)) ?_
  intro c2
  clear c2
  refine RunC.exit ?_
  refine RunE.pass_exit ?_
  refine RunE.pass_exit ?_
  refine RunE.block_here ?_
  refine RunE.block_normal ?_
  refine RunE.next ?_
  refine RunC.region ?_
  refine RunL.val (Val.add rfl rfl (IntWalk.i64_in _ ⟨by decide, by decide⟩)) rfl rfl rfl ?_
  refine RunL.val (Val.pure rfl) rfl rfl rfl ?_
  refine RunL.nil ?_
  refine RunE.keep (Sub.cons (t := 0) rfl (Sub.cons (t := 1) rfl (Sub.cons (t := 5) rfl (Sub.cons (t := 6) rfl (Sub.cons (t := 7) rfl (Sub.cons (t := 9) rfl (Sub.cons (t := 10) rfl (Sub.cons (t := 11) rfl (Sub.cons (t := 18) rfl (Sub.cons (t := 19) rfl (Sub.cons (t := 37) rfl (Sub.cons (t := 38) rfl (Sub.cons (t := 39) rfl (Sub.nil _)))))))))))))) (.cons (.there .here) rfl (.cons (.there .here) rfl (.cons (.there .here) rfl (.cons (.there .here) rfl (.cons (.there .here) rfl (Pick.skip (Pick.refl _))))))) ?_
  refine RunE.rounds ?_
  refine RunC.seq ?_
  refine RunC.region ?_
  refine RunL.val (Val.pure rfl) rfl rfl rfl ?_
  refine RunL.nil ?_
  refine RunE.next ?_
  refine RunC.seq ?_
  refine RunC.cond rfl ?_ (fun h => absurd h (by decide))
  intro c1
  clear c1
  refine RunC.skip ?_
  refine RunE.next ?_
  refine RunC.seq ?_
  refine RunC.block ?_
  refine RunC.seq ?_
  refine RunC.region ?_
  refine RunL.val (Val.indexAddr_sl rfl rfl sl_119 (by omega) (by omega)) rfl rfl rfl ?_
  refine RunL.val (Val.load_one rfl (.tail _ (.tail _ (.head _))) ty_3 rfl) rfl rfl rfl ?_
  refine RunL.val (Val.pure rfl) rfl rfl rfl ?_
  refine RunL.nil ?_
  refine RunE.next ?_
  refine RunC.seq ?_
  refine RunC.draw 11 fol_ (.cons .here rfl (.cons .here rfl (.cons .here rfl (.cons .here rfl (.cons .here rfl .nil))))) ?_
  refine RunA.val (i := 0) rfl (by kernel_rfl) (by kernel_rfl) (Val.pure rfl) rfl rfl rfl (fun _ _ _ h => h) (.cons .here rfl (.cons .here rfl (.cons .here rfl (.cons .here rfl (.cons .here rfl .nil))))) rfl ?_
  refine RunA.val (i := 1) rfl (by kernel_rfl) (by kernel_rfl) (Val.indexAddr_arr rfl rfl arr_72 (by decide) (by decide)) rfl rfl rfl (fun _ _ _ h => h) (.cons .here rfl (.cons .here rfl (.cons .here rfl (.cons .here rfl (.cons .here rfl .nil))))) rfl ?_
  refine RunA.val (i := 2) rfl (by kernel_rfl) (by kernel_rfl) (Val.fieldAddr rfl fld_64_0) rfl rfl rfl (fun _ _ _ h => h) (.cons .here rfl (.cons .here rfl (.cons .here rfl (.cons .here rfl (.cons .here rfl .nil))))) rfl ?_
  refine RunA.val (i := 3) rfl (by kernel_rfl) (by kernel_rfl) (Val.load_one rfl (.tail _ (.tail _ (.tail _ (.head _)))) ty_3 rfl) rfl rfl rfl (fun _ _ _ h => h) (.cons .here rfl (.cons .here rfl (.cons .here rfl (.cons .here rfl (.cons .here rfl .nil))))) rfl ?_
  refine RunA.val (i := 4) rfl (by kernel_rfl) (by kernel_rfl) (Val.pure rfl) rfl rfl rfl (fun _ _ _ h => h) (.cons .here rfl (.cons .here rfl (.cons .here rfl (.cons .here rfl (.cons .here rfl .nil))))) rfl ?_
  refine RunA.val (i := 5) rfl (by kernel_rfl) (by kernel_rfl) (Val.indexAddr_arr rfl rfl arr_72 (by decide) (by decide)) rfl rfl rfl (fun _ _ _ h => h) (.cons .here rfl (.cons .here rfl (.cons .here rfl (.cons .here rfl (.cons .here rfl .nil))))) rfl ?_
  refine RunA.val (i := 6) rfl (by kernel_rfl) (by kernel_rfl) (Val.fieldAddr rfl fld_64_1) rfl rfl rfl (fun _ _ _ h => h) (.cons .here rfl (.cons .here rfl (.cons .here rfl (.cons .here rfl (.cons .here rfl .nil))))) rfl ?_
  refine RunA.val (i := 7) rfl (by kernel_rfl) (by kernel_rfl) (Val.load_one rfl (.tail _ (.tail _ (.tail _ (.head _)))) ty_3 rfl) rfl rfl rfl (fun _ _ _ h => h) (.cons .here rfl (.cons .here rfl (.cons .here rfl (.cons .here rfl (.cons .here rfl .nil))))) rfl ?_
  refine RunA.val (i := 10) rfl (by kernel_rfl) (by kernel_rfl) (Val.pure rfl) rfl rfl rfl (fun _ _ _ h => h) (.cons .here rfl (.cons .here rfl (.cons .here rfl (.cons .here rfl (.cons .here rfl .nil))))) rfl ?_
  refine RunA.one (i := 8) (by kernel_rfl) (by kernel_rfl) ?_
  refine RunI.new rfl (New.buildSlice (parts := [(0, .tmp 46), (1, .tmp 50)]) rfl sl_119 zero_3 rfl rfl rfl rfl) rfl rfl rfl (fun b51 => (RunK.toA (.cons .here rfl (.cons .here rfl (.cons .here rfl (.cons .here rfl (.cons .here rfl (.cons .here rfl .nil)))))) (.cons (.there .here) rfl (.cons (.there .here) rfl (.cons (.there .here) rfl (.cons (.there .here) rfl (.cons (.there .here) rfl .nil))))) rfl ?_))
  refine RunA.val (i := 9) rfl (by kernel_rfl) (by kernel_rfl) (Val.len_sl rfl sl_119) rfl rfl rfl (fun _ _ _ h => h) (.cons .here rfl (.cons .here rfl (.cons .here rfl (.cons .here rfl (.cons .here rfl (.cons .here rfl .nil)))))) rfl ?_
  refine RunA.done (by kernel_rfl) ?_
  refine RunE.next ?_
  refine RunC.block ?_
  refine RunC.unroll 2 ?_
  refine RunC.seq ?_
  refine RunC.region ?_
  refine RunL.val (Val.pure rfl) rfl rfl rfl ?_
  refine RunL.nil ?_
  refine RunE.next ?_
  refine RunC.seq ?_
  refine RunC.cond rfl ?_ (fun h => absurd h (by decide))
  intro c2
  clear c2
  refine RunC.skip ?_
  refine RunE.next ?_
  refine RunC.seq ?_
  refine RunC.block ?_
  refine RunC.seq ?_
  refine RunC.region ?_
  refine RunL.val (Val.indexAddr_sl rfl rfl sl_119 (by omega) (by omega)) rfl rfl rfl ?_
  refine RunL.val (Val.load_one rfl (.head _) ty_3 rfl) rfl rfl rfl ?_
  refine RunL.val (Val.pure rfl) rfl rfl rfl ?_
  refine RunL.nil ?_
  refine RunE.next ?_
  refine RunC.seq ?_
  refine RunC.region ?_
  refine RunL.val (Val.fieldAddr rfl fld_26_0) rfl rfl rfl ?_
  refine RunL.val (Val.fieldAddr rfl fld_23_0) rfl rfl rfl ?_
  refine RunL.val (Val.load_one rfl (.tail _ (.tail _ (.head _))) ty_3 rfl) rfl rfl rfl ?_
  refine RunL.val (Val.fieldAddr rfl fld_26_0) rfl rfl rfl ?_
  refine RunL.val (Val.fieldAddr rfl fld_23_1) rfl rfl rfl ?_
  refine RunL.val (Val.load_one rfl (.tail _ (.tail _ (.head _))) ty_3 rfl) rfl rfl rfl ?_
  refine RunL.new (New.buildSlice (parts := [(0, .tmp 59), (1, .tmp 62)]) rfl sl_119 zero_3 rfl rfl rfl rfl) rfl rfl rfl (fun b63 => ?_)
  refine RunL.val (Val.len_sl rfl sl_119) rfl rfl rfl ?_
  refine RunL.val (Val.pure rfl) rfl rfl rfl ?_
  refine RunL.nil ?_
  refine RunE.next ?_
  refine RunC.block ?_
  refine RunC.unroll 2 ?_
  refine RunC.seq ?_
  refine RunC.region ?_
  refine RunL.val (Val.pure rfl) rfl rfl rfl ?_
  refine RunL.nil ?_
  refine RunE.next ?_
  refine RunC.seq ?_
  refine RunC.cond rfl ?_ (fun h => absurd h (by decide))
  intro c3
  clear c3
  refine RunC.skip ?_
  refine RunE.next ?_
  refine RunC.seq ?_
  refine RunC.block ?_
  refine RunC.seq ?_
  refine RunC.region ?_
  refine RunL.val (Val.indexAddr_sl rfl rfl sl_119 (by omega) (by omega)) rfl rfl rfl ?_
  refine RunL.val (Val.load_one rfl (.head _) ty_3 rfl) rfl rfl rfl ?_
  refine RunL.val (Val.pure rfl) rfl rfl rfl ?_
  refine RunL.nil ?_
  refine RunE.next ?_
  refine RunC.region ?_
  iterate 3 refine RunL.val (Val.pure rfl) rfl rfl rfl ?_
  refine RunL.val (Val.mul rfl rfl (IntWalk.i64_in _ ⟨by omega, by omega⟩)) rfl rfl rfl ?_
  refine RunL.val (Val.pure rfl) rfl rfl rfl ?_
  refine RunL.callP (isCall_func rfl ent_47) rfl rfl rfl (fun w hm => ydown_calls _ _ (by omega) (by omega) w) ?_
  refine RunL.new (New.buildSlice (parts := [(0, .tmp 74)]) rfl sl_119 zero_3 rfl rfl rfl rfl) rfl rfl rfl (fun b75 => ?_)
  refine RunL.append (A := [(b75, _), (b63, _), (b51, _), (b10, _), (b9, _), (b37, _), (b5, _), (b6, _)]) (B := _) (x := z76) (ys := _) ap_119 rfl rfl rfl hz76 rfl (fun h => by cases h) (fun w hm => src_blk (hm.at (.head _))) (one_of rfl) (by simp only [maxLen]; omega) (by omega) rfl (fun z76 hz76 => ?_)
  refine RunL.val (Val.pure rfl) rfl rfl rfl ?_
  refine RunL.nil ?_
  refine RunE.block_normal ?_
  refine RunE.next ?_
  refine RunC.region ?_
  refine RunL.val (Val.add rfl rfl (IntWalk.i64_in _ ⟨by decide, by decide⟩)) rfl rfl rfl ?_
  refine RunL.val (Val.pure rfl) rfl rfl rfl ?_
  refine RunL.nil ?_
  refine RunE.keep (Sub.cons (t := 0) rfl (Sub.cons (t := 1) rfl (Sub.cons (t := 5) rfl (Sub.cons (t := 6) rfl (Sub.cons (t := 7) rfl (Sub.cons (t := 9) rfl (Sub.cons (t := 10) rfl (Sub.cons (t := 11) rfl (Sub.cons (t := 13) rfl (Sub.cons (t := 15) rfl (Sub.cons (t := 18) rfl (Sub.cons (t := 19) rfl (Sub.cons (t := 37) rfl (Sub.cons (t := 38) rfl (Sub.cons (t := 39) rfl (Sub.cons (t := 51) rfl (Sub.cons (t := 52) rfl (Sub.cons (t := 53) rfl (Sub.cons (t := 63) rfl (Sub.cons (t := 64) rfl (Sub.cons (t := 65) rfl (Sub.nil _)))))))))))))))))))))) (.cons (.there .here) rfl (.cons (.there .here) rfl (.cons (.there .here) rfl (.cons (.there .here) rfl (.cons (.there .here) rfl (.cons (.there .here) rfl (.cons (.there .here) rfl (Pick.skip (Pick.refl _))))))))) ?_
  refine RunE.rounds ?_
  refine RunC.seq ?_
  refine RunC.region ?_
  refine RunL.val (Val.pure rfl) rfl rfl rfl ?_
  refine RunL.nil ?_
  refine RunE.next ?_
  refine RunC.seq ?_
  refine RunC.cond rfl ?_ (fun h => absurd h (by decide))
  intro c3
  clear c3
  refine RunC.skip ?_
  refine RunE.next ?_
  refine RunC.seq ?_
  refine RunC.block ?_
  refine RunC.seq ?_
  refine RunC.region ?_
  refine RunL.val (Val.indexAddr_sl rfl rfl sl_119 (by omega) (by omega)) rfl rfl rfl ?_
  refine RunL.val (Val.load_one rfl (.head _) ty_3 rfl) rfl rfl rfl ?_
  refine RunL.val (Val.pure rfl) rfl rfl rfl ?_
  refine RunL.nil ?_
  refine RunE.next ?_
  refine RunC.region ?_
  iterate 3 refine RunL.val (Val.pure rfl) rfl rfl rfl ?_
  refine RunL.val (Val.mul rfl rfl (IntWalk.i64_in _ ⟨by omega, by omega⟩)) rfl rfl rfl ?_
  refine RunL.val (Val.pure rfl) rfl rfl rfl ?_
  refine RunL.callP (isCall_func rfl ent_47) rfl rfl rfl (fun w hm => ydown_calls _ _ (by omega) (by omega) w) ?_
  refine RunL.new (New.buildSlice (parts := [(0, .tmp 74)]) rfl sl_119 zero_3 rfl rfl rfl rfl) rfl rfl rfl (fun b75 => ?_)
  refine RunL.append (A := [(b75, _), (b63, _), (b51, _), (b10, _), (b9, _), (b37, _), (b5, _), (b6, _)]) (B := _) (x := z76) (ys := _) ap_119 rfl rfl rfl hz76 rfl (fun h => by cases h) (fun w hm => src_blk (hm.at (.head _))) (one_of rfl) (by simp only [maxLen]; omega) (by omega) rfl (fun z76 hz76 => ?_)
  refine RunL.val (Val.pure rfl) rfl rfl rfl ?_
  refine RunL.nil ?_
  refine RunE.block_normal ?_
  refine RunE.next ?_
  refine RunC.region ?_
  refine RunL.val (Val.add rfl rfl (IntWalk.i64_in _ ⟨by decide, by decide⟩)) rfl rfl rfl ?_
  refine RunL.val (Val.pure rfl) rfl rfl rfl ?_
  refine RunL.nil ?_
  refine RunE.keep (Sub.cons (t := 0) rfl (Sub.cons (t := 1) rfl (Sub.cons (t := 5) rfl (Sub.cons (t := 6) rfl (Sub.cons (t := 7) rfl (Sub.cons (t := 9) rfl (Sub.cons (t := 10) rfl (Sub.cons (t := 11) rfl (Sub.cons (t := 13) rfl (Sub.cons (t := 15) rfl (Sub.cons (t := 18) rfl (Sub.cons (t := 19) rfl (Sub.cons (t := 37) rfl (Sub.cons (t := 38) rfl (Sub.cons (t := 39) rfl (Sub.cons (t := 51) rfl (Sub.cons (t := 52) rfl (Sub.cons (t := 53) rfl (Sub.cons (t := 63) rfl (Sub.cons (t := 64) rfl (Sub.cons (t := 65) rfl (Sub.nil _)))))))))))))))))))))) (.cons (.there .here) rfl (.cons (.there .here) rfl (.cons (.there .here) rfl (.cons (.there .here) rfl (.cons (.there .here) rfl (.cons (.there .here) rfl (.cons (.there .here) rfl (Pick.skip (Pick.refl _))))))))) ?_
  refine RunE.rounds ?_
  refine RunC.seq ?_
  refine RunC.region ?_
  refine RunL.val (Val.pure rfl) rfl rfl rfl ?_
  refine RunL.nil ?_
  refine RunE.next ?_
  refine RunC.seq ?_
  refine RunC.cond rfl (fun h => absurd h (by decide)) ?_
  intro c3
  clear c3
  refine RunC.exit ?_
  refine RunE.pass_exit ?_
  refine RunE.pass_exit ?_
  refine RunE.block_here ?_
  refine RunE.block_normal ?_
  refine RunE.next ?_
  refine RunC.region ?_
  refine RunL.val (Val.add rfl rfl (IntWalk.i64_in _ ⟨by decide, by decide⟩)) rfl rfl rfl ?_
  refine RunL.val (Val.pure rfl) rfl rfl rfl ?_
  refine RunL.nil ?_
  refine RunE.keep (Sub.cons (t := 0) rfl (Sub.cons (t := 1) rfl (Sub.cons (t := 5) rfl (Sub.cons (t := 6) rfl (Sub.cons (t := 7) rfl (Sub.cons (t := 9) rfl (Sub.cons (t := 10) rfl (Sub.cons (t := 11) rfl (Sub.cons (t := 13) rfl (Sub.cons (t := 18) rfl (Sub.cons (t := 19) rfl (Sub.cons (t := 37) rfl (Sub.cons (t := 38) rfl (Sub.cons (t := 39) rfl (Sub.cons (t := 51) rfl (Sub.cons (t := 52) rfl (Sub.cons (t := 53) rfl (Sub.nil _)))))))))))))))))) (.cons (.there .here) rfl (.cons (.there .here) rfl (.cons (.there .here) rfl (.cons (.there .here) rfl (.cons (.there .here) rfl (.cons (.there .here) rfl (Pick.skip (Pick.refl _)))))))) ?_
  refine RunE.rounds ?_
  refine RunC.seq ?_
  refine RunC.region ?_
  refine RunL.val (Val.pure rfl) rfl rfl rfl ?_
  refine RunL.nil ?_
  refine RunE.next ?_
  refine RunC.seq ?_
  refine RunC.cond rfl ?_ (fun h => absurd h (by decide))
  intro c2
  clear c2
  refine RunC.skip ?_
  refine RunE.next ?_
  refine RunC.seq ?_
  refine RunC.block ?_
  refine RunC.seq ?_
  refine RunC.region ?_
  refine RunL.val (Val.indexAddr_sl rfl rfl sl_119 (by omega) (by omega)) rfl rfl rfl ?_
  refine RunL.val (Val.load_one rfl (.head _) ty_3 rfl) rfl rfl rfl ?_
  refine RunL.val (Val.pure rfl) rfl rfl rfl ?_
  refine RunL.nil ?_
  refine RunE.next ?_
  refine RunC.seq ?_
  refine RunC.region ?_
  refine RunL.val (Val.fieldAddr rfl fld_26_0) rfl rfl rfl ?_
  refine RunL.val (Val.fieldAddr rfl fld_23_0) rfl rfl rfl ?_
  refine RunL.val (Val.load_one rfl (.tail _ (.tail _ (.head _))) ty_3 rfl) rfl rfl rfl ?_
  refine RunL.val (Val.fieldAddr rfl fld_26_0) rfl rfl rfl ?_
  refine RunL.val (Val.fieldAddr rfl fld_23_1) rfl rfl rfl ?_
  refine RunL.val (Val.load_one rfl (.tail _ (.tail _ (.head _))) ty_3 rfl) rfl rfl rfl ?_
  refine RunL.new (New.buildSlice (parts := [(0, .tmp 59), (1, .tmp 62)]) rfl sl_119 zero_3 rfl rfl rfl rfl) rfl rfl rfl (fun b63 => ?_)
  refine RunL.val (Val.len_sl rfl sl_119) rfl rfl rfl ?_
  refine RunL.val (Val.pure rfl) rfl rfl rfl ?_
  refine RunL.nil ?_
  refine RunE.next ?_
  refine RunC.block ?_
  refine RunC.unroll 2 ?_
  refine RunC.seq ?_
  refine RunC.region ?_
  refine RunL.val (Val.pure rfl) rfl rfl rfl ?_
  refine RunL.nil ?_
  refine RunE.next ?_
  refine RunC.seq ?_
  refine RunC.cond rfl ?_ (fun h => absurd h (by decide))
  intro c3
  clear c3
  refine RunC.skip ?_
  refine RunE.next ?_
  refine RunC.seq ?_
  refine RunC.block ?_
  refine RunC.seq ?_
  refine RunC.region ?_
  refine RunL.val (Val.indexAddr_sl rfl rfl sl_119 (by omega) (by omega)) rfl rfl rfl ?_
  refine RunL.val (Val.load_one rfl (.head _) ty_3 rfl) rfl rfl rfl ?_
  refine RunL.val (Val.pure rfl) rfl rfl rfl ?_
  refine RunL.nil ?_
  refine RunE.next ?_
  refine RunC.region ?_
  iterate 3 refine RunL.val (Val.pure rfl) rfl rfl rfl ?_
  refine RunL.val (Val.mul rfl rfl (IntWalk.i64_in _ ⟨by omega, by omega⟩)) rfl rfl rfl ?_
  refine RunL.val (Val.pure rfl) rfl rfl rfl ?_
  refine RunL.callP (isCall_func rfl ent_47) rfl rfl rfl (fun w hm => ydown_calls _ _ (by omega) (by omega) w) ?_
  refine RunL.new (New.buildSlice (parts := [(0, .tmp 74)]) rfl sl_119 zero_3 rfl rfl rfl rfl) rfl rfl rfl (fun b75 => ?_)
  refine RunL.append (A := [(b75, _), (b63, _), (b51, _), (b10, _), (b9, _), (b37, _), (b5, _), (b6, _)]) (B := _) (x := z76) (ys := _) ap_119 rfl rfl rfl hz76 rfl (fun h => by cases h) (fun w hm => src_blk (hm.at (.head _))) (one_of rfl) (by simp only [maxLen]; omega) (by omega) rfl (fun z76 hz76 => ?_)
  refine RunL.val (Val.pure rfl) rfl rfl rfl ?_
  refine RunL.nil ?_
  refine RunE.block_normal ?_
  refine RunE.next ?_
  refine RunC.region ?_
  refine RunL.val (Val.add rfl rfl (IntWalk.i64_in _ ⟨by decide, by decide⟩)) rfl rfl rfl ?_
  refine RunL.val (Val.pure rfl) rfl rfl rfl ?_
  refine RunL.nil ?_
  refine RunE.keep (Sub.cons (t := 0) rfl (Sub.cons (t := 1) rfl (Sub.cons (t := 5) rfl (Sub.cons (t := 6) rfl (Sub.cons (t := 7) rfl (Sub.cons (t := 9) rfl (Sub.cons (t := 10) rfl (Sub.cons (t := 11) rfl (Sub.cons (t := 13) rfl (Sub.cons (t := 15) rfl (Sub.cons (t := 18) rfl (Sub.cons (t := 19) rfl (Sub.cons (t := 37) rfl (Sub.cons (t := 38) rfl (Sub.cons (t := 39) rfl (Sub.cons (t := 51) rfl (Sub.cons (t := 52) rfl (Sub.cons (t := 53) rfl (Sub.cons (t := 63) rfl (Sub.cons (t := 64) rfl (Sub.cons (t := 65) rfl (Sub.nil _)))))))))))))))))))))) (.cons (.there .here) rfl (.cons (.there .here) rfl (.cons (.there .here) rfl (.cons (.there .here) rfl (.cons (.there .here) rfl (.cons (.there .here) rfl (.cons (.there .here) rfl (Pick.skip (Pick.refl _))))))))) ?_
  refine RunE.rounds ?_
  refine RunC.seq ?_
  refine RunC.region ?_
  refine RunL.val (Val.pure rfl) rfl rfl rfl ?_
  refine RunL.nil ?_
  refine RunE.next ?_
  refine RunC.seq ?_
  refine RunC.cond rfl ?_ (fun h => absurd h (by decide))
  intro c3
  clear c3
  refine RunC.skip ?_
  refine RunE.next ?_
  refine RunC.seq ?_
  refine RunC.block ?_
  refine RunC.seq ?_
  refine RunC.region ?_
  refine RunL.val (Val.indexAddr_sl rfl rfl sl_119 (by omega) (by omega)) rfl rfl rfl ?_
  refine RunL.val (Val.load_one rfl (.head _) ty_3 rfl) rfl rfl rfl ?_
  refine RunL.val (Val.pure rfl) rfl rfl rfl ?_
  refine RunL.nil ?_
  refine RunE.next ?_
  refine RunC.region ?_
  iterate 3 refine RunL.val (Val.pure rfl) rfl rfl rfl ?_
  refine RunL.val (Val.mul rfl rfl (IntWalk.i64_in _ ⟨by omega, by omega⟩)) rfl rfl rfl ?_
  refine RunL.val (Val.pure rfl) rfl rfl rfl ?_
  refine RunL.callP (isCall_func rfl ent_47) rfl rfl rfl (fun w hm => ydown_calls _ _ (by omega) (by omega) w) ?_
  refine RunL.new (New.buildSlice (parts := [(0, .tmp 74)]) rfl sl_119 zero_3 rfl rfl rfl rfl) rfl rfl rfl (fun b75 => ?_)
  refine RunL.append (A := [(b75, _), (b63, _), (b51, _), (b10, _), (b9, _), (b37, _), (b5, _), (b6, _)]) (B := _) (x := z76) (ys := _) ap_119 rfl rfl rfl hz76 rfl (fun h => by cases h) (fun w hm => src_blk (hm.at (.head _))) (one_of rfl) (by simp only [maxLen]; omega) (by omega) rfl (fun z76 hz76 => ?_)
  refine RunL.val (Val.pure rfl) rfl rfl rfl ?_
  refine RunL.nil ?_
  refine RunE.block_normal ?_
  refine RunE.next ?_
  refine RunC.region ?_
  refine RunL.val (Val.add rfl rfl (IntWalk.i64_in _ ⟨by decide, by decide⟩)) rfl rfl rfl ?_
  refine RunL.val (Val.pure rfl) rfl rfl rfl ?_
  refine RunL.nil ?_
  refine RunE.keep (Sub.cons (t := 0) rfl (Sub.cons (t := 1) rfl (Sub.cons (t := 5) rfl (Sub.cons (t := 6) rfl (Sub.cons (t := 7) rfl (Sub.cons (t := 9) rfl (Sub.cons (t := 10) rfl (Sub.cons (t := 11) rfl (Sub.cons (t := 13) rfl (Sub.cons (t := 15) rfl (Sub.cons (t := 18) rfl (Sub.cons (t := 19) rfl (Sub.cons (t := 37) rfl (Sub.cons (t := 38) rfl (Sub.cons (t := 39) rfl (Sub.cons (t := 51) rfl (Sub.cons (t := 52) rfl (Sub.cons (t := 53) rfl (Sub.cons (t := 63) rfl (Sub.cons (t := 64) rfl (Sub.cons (t := 65) rfl (Sub.nil _)))))))))))))))))))))) (.cons (.there .here) rfl (.cons (.there .here) rfl (.cons (.there .here) rfl (.cons (.there .here) rfl (.cons (.there .here) rfl (.cons (.there .here) rfl (.cons (.there .here) rfl (Pick.skip (Pick.refl _))))))))) ?_
  refine RunE.rounds ?_
  refine RunC.seq ?_
  refine RunC.region ?_
  refine RunL.val (Val.pure rfl) rfl rfl rfl ?_
  refine RunL.nil ?_
  refine RunE.next ?_
  refine RunC.seq ?_
  refine RunC.cond rfl (fun h => absurd h (by decide)) ?_
  intro c3
  clear c3
  refine RunC.exit ?_
  refine RunE.pass_exit ?_
  refine RunE.pass_exit ?_
  refine RunE.block_here ?_
  refine RunE.block_normal ?_
  refine RunE.next ?_
  refine RunC.region ?_
  refine RunL.val (Val.add rfl rfl (IntWalk.i64_in _ ⟨by decide, by decide⟩)) rfl rfl rfl ?_
  refine RunL.val (Val.pure rfl) rfl rfl rfl ?_
  refine RunL.nil ?_
  refine RunE.keep (Sub.cons (t := 0) rfl (Sub.cons (t := 1) rfl (Sub.cons (t := 5) rfl (Sub.cons (t := 6) rfl (Sub.cons (t := 7) rfl (Sub.cons (t := 9) rfl (Sub.cons (t := 10) rfl (Sub.cons (t := 11) rfl (Sub.cons (t := 13) rfl (Sub.cons (t := 18) rfl (Sub.cons (t := 19) rfl (Sub.cons (t := 37) rfl (Sub.cons (t := 38) rfl (Sub.cons (t := 39) rfl (Sub.cons (t := 51) rfl (Sub.cons (t := 52) rfl (Sub.cons (t := 53) rfl (Sub.nil _)))))))))))))))))) (.cons (.there .here) rfl (.cons (.there .here) rfl (.cons (.there .here) rfl (.cons (.there .here) rfl (.cons (.there .here) rfl (.cons (.there .here) rfl (Pick.skip (Pick.refl _)))))))) ?_
  refine RunE.rounds ?_
  refine RunC.seq ?_
  refine RunC.region ?_
  refine RunL.val (Val.pure rfl) rfl rfl rfl ?_
  refine RunL.nil ?_
  refine RunE.next ?_
  refine RunC.seq ?_
  refine RunC.cond rfl (fun h => absurd h (by decide)) ?_
  intro c2
  clear c2
  refine RunC.exit ?_
  refine RunE.pass_exit ?_
  refine RunE.pass_exit ?_
  refine RunE.block_here ?_
  refine RunE.block_normal ?_
  refine RunE.next ?_
  refine RunC.region ?_
  refine RunL.val (Val.add rfl rfl (IntWalk.i64_in _ ⟨by decide, by decide⟩)) rfl rfl rfl ?_
  refine RunL.val (Val.pure rfl) rfl rfl rfl ?_
  refine RunL.nil ?_
  refine RunE.keep (Sub.cons (t := 0) rfl (Sub.cons (t := 1) rfl (Sub.cons (t := 5) rfl (Sub.cons (t := 6) rfl (Sub.cons (t := 7) rfl (Sub.cons (t := 9) rfl (Sub.cons (t := 10) rfl (Sub.cons (t := 11) rfl (Sub.cons (t := 18) rfl (Sub.cons (t := 19) rfl (Sub.cons (t := 37) rfl (Sub.cons (t := 38) rfl (Sub.cons (t := 39) rfl (Sub.nil _)))))))))))))) (.cons (.there .here) rfl (.cons (.there .here) rfl (.cons (.there .here) rfl (.cons (.there .here) rfl (.cons (.there .here) rfl (Pick.skip (Pick.refl _))))))) ?_
  refine RunE.rounds ?_
  refine RunC.seq ?_
  refine RunC.region ?_
  refine RunL.val (Val.pure rfl) rfl rfl rfl ?_
  refine RunL.nil ?_
  refine RunE.next ?_
  refine RunC.seq ?_
  refine RunC.cond rfl (fun h => absurd h (by decide)) ?_
  intro c1
  clear c1
  refine RunC.exit ?_
  refine RunE.pass_exit ?_
  refine RunE.pass_exit ?_
  refine RunE.block_here ?_
  refine RunE.next ?_
  obtain ⟨bz76, cz76, rz76, rfl, lz761, lz762, lz763⟩ := hz76.has (by decide)
  refine RunC.draw 14 fol_ (.cons .here rfl (.cons .here rfl (.cons .here rfl (.cons .here rfl (.cons (.there .here) rfl .nil))))) ?_
  refine RunA.val (i := 0) rfl (by kernel_rfl) (by kernel_rfl) (Val.pure rfl) rfl rfl rfl (fun _ _ _ h => h) (.cons .here rfl (.cons .here rfl (.cons .here rfl (.cons .here rfl (.cons (.there .here) rfl .nil))))) rfl ?_
  refine RunA.val (i := 1) rfl (by kernel_rfl) (by kernel_rfl) (Val.pure rfl) rfl rfl rfl (fun _ _ _ h => h) (.cons .here rfl (.cons .here rfl (.cons .here rfl (.cons .here rfl (.cons (.there .here) rfl .nil))))) rfl ?_
  refine RunA.val (i := 2) rfl (by kernel_rfl) (by kernel_rfl) (Val.pure rfl) rfl rfl rfl (fun _ _ _ h => h) (.cons .here rfl (.cons .here rfl (.cons .here rfl (.cons .here rfl (.cons (.there .here) rfl .nil))))) rfl ?_
  refine RunA.val (i := 3) rfl (by kernel_rfl) (by kernel_rfl) (Val.indexAddr_sl rfl rfl sl_119 (by omega) (by omega)) rfl rfl rfl (fun _ _ _ h => h) (.cons .here rfl (.cons .here rfl (.cons .here rfl (.cons .here rfl (.cons (.there .here) rfl .nil))))) rfl ?_
  refine RunA.val (i := 4) rfl (by kernel_rfl) (by kernel_rfl) (Val.load_one rfl (.tail _ (.tail _ (.tail _ (.tail _ (.head _))))) ty_3 rfl) rfl rfl rfl (fun _ _ _ h => h) (.cons .here rfl (.cons .here rfl (.cons .here rfl (.cons .here rfl (.cons (.there .here) rfl .nil))))) rfl ?_
  refine RunA.val (i := 5) rfl (by kernel_rfl) (by kernel_rfl) (Val.pure rfl) rfl rfl rfl (fun _ _ _ h => h) (.cons .here rfl (.cons .here rfl (.cons .here rfl (.cons .here rfl (.cons (.there .here) rfl .nil))))) rfl ?_
  refine RunA.val (i := 6) rfl (by kernel_rfl) (by kernel_rfl) (Val.sliceFrom rfl rfl sl_119 rfl (by decide) (by omega) (by omega)) rfl rfl rfl (fun _ _ _ h => h) (.cons .here rfl (.cons .here rfl (.cons .here rfl (.cons .here rfl (.cons (.there .here) rfl .nil))))) rfl ?_
  refine RunA.one (i := 7) (by kernel_rfl) (by kernel_rfl) ?_
  refine RunI.callP rfl (isCall_func rfl ent_77) rfl rfl rfl (fun w hm => yends_calls _ (htL g.s u z.2) _ _ _ _ w (sl_rowAt _ (hm.at (.tail _ (.tail _ (.tail _ (.tail _ (.tail _ (.head _))))))) rfl) (by simp [htL])) (RunK.toA (.cons .here rfl (.cons .here rfl (.cons .here rfl (.cons .here rfl (.cons (.there .here) rfl .nil))))) (.cons .here rfl (.cons .here rfl (.cons .here rfl (.cons .here rfl (.cons .here rfl .nil))))) rfl ?_)
  refine RunA.val (i := 8) rfl (by kernel_rfl) (by kernel_rfl) (Val.pure rfl) rfl rfl rfl (fun _ _ _ h => h) (.cons .here rfl (.cons .here rfl (.cons .here rfl (.cons .here rfl (.cons (.there .here) rfl .nil))))) rfl ?_
  refine RunA.val (i := 9) rfl (by kernel_rfl) (by kernel_rfl) (Val.pure rfl) rfl rfl rfl (fun _ _ _ h => h) (.cons .here rfl (.cons .here rfl (.cons .here rfl (.cons .here rfl (.cons (.there .here) rfl .nil))))) rfl ?_
  refine RunA.val (i := 10) rfl (by kernel_rfl) (by kernel_rfl) (Val.pure rfl) rfl rfl rfl (fun _ _ _ h => h) (.cons .here rfl (.cons .here rfl (.cons .here rfl (.cons .here rfl (.cons (.there .here) rfl .nil))))) rfl ?_
  refine RunA.val (i := 11) rfl (by kernel_rfl) (by kernel_rfl) (Val.indexAddr_arr rfl rfl arr_72 (by decide) (by decide)) rfl rfl rfl (fun _ _ _ h => h) (.cons .here rfl (.cons .here rfl (.cons .here rfl (.cons .here rfl (.cons (.there .here) rfl .nil))))) rfl ?_
  refine RunA.val (i := 12) rfl (by kernel_rfl) (by kernel_rfl) (Val.fieldAddr rfl fld_64_0) rfl rfl rfl (fun _ _ _ h => h) (.cons .here rfl (.cons .here rfl (.cons .here rfl (.cons .here rfl (.cons (.there .here) rfl .nil))))) rfl ?_
  refine RunA.one (i := 13) (by kernel_rfl) (by kernel_rfl) ?_
  refine RunI.sto rfl (Sto.store rfl rfl (.there (.there (.there (.there .here)))) ty_3 rfl rfl) rfl rfl (RunK.toA (.cons .here rfl (.cons .here rfl (.cons .here rfl (.cons .here rfl (.cons (.there .here) rfl .nil))))) (.cons .here rfl (.cons .here rfl (.cons .here rfl (.cons .here rfl (.cons .here rfl .nil))))) rfl ?_)
  refine RunA.toB (by kernel_rfl) ?_
  refine RunB.one (i := 14) (by kernel_rfl) ?_
  refine RunI.val rfl (Val.indexAddr_arr rfl rfl arr_72 (by decide) (by decide)) rfl rfl rfl (RunK.toB ?_)
  refine RunB.one (i := 15) (by kernel_rfl) ?_
  refine RunI.val rfl (Val.fieldAddr rfl fld_64_1) rfl rfl rfl (RunK.toB ?_)
  refine RunB.one (i := 16) (by kernel_rfl) ?_
  refine RunI.sto rfl (Sto.store rfl rfl (.there (.there (.there (.there .here)))) ty_3 rfl rfl) rfl rfl (RunK.toB ?_)
  refine RunB.done (by kernel_rfl) ?_
  refine RunE.block_normal ?_
  refine RunE.next ?_
  refine RunC.region ?_
  refine RunL.val (Val.add rfl rfl (IntWalk.i64_in _ ⟨by decide, by decide⟩)) rfl rfl rfl ?_
  refine RunL.val (Val.pure rfl) rfl rfl rfl ?_
  refine RunL.nil ?_
  refine RunE.keep (Sub.cons (t := 0) rfl (Sub.cons (t := 1) rfl (Sub.cons (t := 5) rfl (Sub.cons (t := 6) rfl (Sub.cons (t := 18) rfl (Sub.cons (t := 19) rfl (Sub.nil _))))))) (.cons (.there (.there (.there .here))) rfl (.cons (.there (.there (.there .here))) rfl .nil)) ?_
  refine RunE.rounds ?_
  refine RunC.seq ?_
  refine RunC.region ?_
  refine RunL.val (Val.pure rfl) rfl rfl rfl ?_
  refine RunL.nil ?_
  refine RunE.next ?_
  refine RunC.seq ?_
  refine RunC.cond rfl (fun h => absurd h (by decide)) ?_
  intro c0
  clear c0
  refine RunC.exit ?_
  refine RunE.pass_exit ?_
  refine RunE.pass_exit ?_
  refine RunE.block_here ?_
  refine RunE.next ?_
  refine RunC.seq ?_
  refine RunC.region ?_
  refine RunL.val (Val.load_agg rfl (.tail _ (.head _)) ty_72 rfl) rfl rfl rfl ?_
  refine RunL.sto (Sto.store rfl rfl (.there .here) ty_72 rfl rfl) rfl rfl ?_
  refine RunL.nil ?_
  refine RunE.next ?_
  refine RunC.ret ?_
  exact RunE.retP (.r1 rfl (.agg rfl (.tail _ (.head _)) ty_72 rfl)) (by simp [z2v, z2c, htP])
end Go.Proofs.Ytjijeeadmhpfcaa
