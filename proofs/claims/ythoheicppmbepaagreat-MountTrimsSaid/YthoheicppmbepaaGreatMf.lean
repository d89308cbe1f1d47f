/- Walks of package mount: rooms, eyes. -/
import Derived.Test.YthoheicppmbepaaGreatMe
set_option linter.unusedSimpArgs false
set_option linter.unusedVariables false
namespace Go.Pw1
open Go Go.Eng
theorem eyes_vis {c : Cd} {t : Tr} {x : List Nat} (h : ∀ i, i < (mEnts c.p).length → i ∈ x) (hv : ∀ i ∈ x, i < (mEnts c.p).length) : narL (1, 10000) (x.map fun i => eyeB c t (shiftX c.p (keyN c.p i)).1) = eyesOf c t := by
  unfold eyesOf
  refine narL_eq fun z => ⟨fun hz => ?_, fun hz => ?_⟩
  · obtain ⟨i, hi, rfl⟩ := List.mem_map.1 hz
    have h1 := (key_at (hv i hi)).1
    exact List.mem_map.2 ⟨_, List.getElem_mem (by rw [← mEnts_len]; exact hv i hi), by rw [h1]⟩
  · obtain ⟨e, he, rfl⟩ := List.mem_map.1 hz
    obtain ⟨i, hi, rfl⟩ := List.getElem_of_mem he
    have hi2 : i < (mEnts c.p).length := by rw [mEnts_len]; exact hi
    exact List.mem_map.2 ⟨i, h i hi2, by rw [(key_at hi2).1]⟩
end Go.Pw1
namespace Go.Proofs.YthoheicppmbepaaGreat
open Go Go.Eng Go.Pw1

theorem mnarrowed_calls (a : Int × Int) (l : List (Int × Int)) (q : Option Addr) (b o cap : Nat) (W : World) (hS : Sl W q b o 2 (l.map b2c)) (hl : l.length ≤ 100) :
    Calls Tryz.prog 32 #[b2v a, .slice q l.length cap] W (Pure (b2v (narL a l)) W) := by
  refine calls_start Tryz.func32 rfl rfl ?_
  refine RunC.seq ?_
  refine RunC.region ?_
  refine RunL.new (New.box rfl) rfl rfl rfl (fun b2 => ?_)
  refine RunL.new (New.alloc zero_68) rfl rfl rfl (fun b4 => ?_)
  refine RunL.nil ?_
  refine RunE.next ?_
  refine RunC.seq ?_
  refine RunC.seq ?_
  refine RunC.region ?_
  refine RunL.val (Val.pure rfl) rfl rfl rfl ?_
  refine RunL.val (Val.len_sl rfl sl_103) rfl rfl rfl ?_
  refine RunL.val (Val.pure rfl) rfl rfl rfl ?_
  refine RunL.nil ?_
  refine RunE.next ?_
  refine RunC.block ?_
  refine RunC.loopK (l.length) (fun k q => (9, .int .i64 (k : Int)) :: q) (fun _ => _) (fun k => [(b2, .cells (b2c (narL a (l.take k))).toArray 68 (0, 0))]) (fun _ => True) trivial rfl (Sub.consE (t := 9) rfl rfl (Sub.cons (t := 7) rfl (Sub.cons (t := 8) rfl (Sub.cons (t := 2) rfl (Sub.cons (t := 4) rfl (Sub.nil _)))))) (.cons (.there .here) rfl (.cons .here rfl .nil)) ?_
  intro k kN kI
  clear kI
  refine RunC.seq ?_
  refine RunC.region ?_
  refine RunL.val (Val.pure rfl) rfl rfl rfl ?_
  refine RunL.nil ?_
  refine RunE.next ?_
  refine RunC.seq ?_
  refine RunC.cond rfl ?_ ?_
  · intro c0
    have c0' := c0; clear c0
    try simp only [decide_eq_true_eq, decide_eq_false_iff_not, Bool.not_eq_true', Bool.not_eq_false', Bool.and_eq_true, Bool.or_eq_true, Bool.and_eq_false_iff, Bool.or_eq_false_iff, Int.not_le, Int.not_lt] at c0'
    have hk : k < l.length := by omega
    obtain ⟨x, hx⟩ : ∃ x, l[k] = x := ⟨_, rfl⟩
    refine RunC.skip ?_
    refine RunE.next ?_
    refine RunC.seq ?_
    refine RunC.block ?_
    refine RunC.seq ?_
    refine RunC.region ?_
    refine RunL.val (Val.indexAddr_slp rfl rfl sl_103 (by omega) (by omega) (hS.ptrM hk)) rfl rfl rfl ?_
    refine RunL.val (Val.load_gen rfl (fun w hm => hS.loadX (by decide) hm (by simp) ty_68 hk hx)) rfl rfl rfl ?_
    refine RunL.new (New.alloc zero_68) rfl rfl rfl (fun b6 => ?_)
    refine RunL.sto (Sto.store rfl rfl .here ty_68 rfl rfl) rfl rfl ?_
    refine RunL.nil ?_
    refine RunE.next ?_
    refine RunC.region ?_
    refine RunL.val (Val.fieldAddr rfl fld_68_0) rfl rfl rfl ?_
    refine RunL.val (Val.load_one rfl (.tail _ (.head _)) ty_3 rfl) rfl rfl rfl ?_
    refine RunL.val (Val.fieldAddr rfl fld_68_0) rfl rfl rfl ?_
    refine RunL.val (Val.load_one rfl (.head _) ty_3 rfl) rfl rfl rfl ?_
    refine RunL.val (Val.max rfl rfl) rfl rfl rfl ?_
    refine RunL.val (Val.fieldAddr rfl fld_68_1) rfl rfl rfl ?_
    refine RunL.val (Val.load_one rfl (.tail _ (.head _)) ty_3 rfl) rfl rfl rfl ?_
    refine RunL.val (Val.fieldAddr rfl fld_68_1) rfl rfl rfl ?_
    refine RunL.val (Val.load_one rfl (.head _) ty_3 rfl) rfl rfl rfl ?_
    refine RunL.val (Val.min rfl rfl) rfl rfl rfl ?_
    refine RunL.val (Val.build (parts := [(0, .tmp 17), (1, .tmp 22)]) rfl zero_68 places_68 rfl) rfl rfl rfl ?_
    refine RunL.sto (Sto.store rfl rfl (.there .here) ty_68 rfl rfl) rfl rfl ?_
    refine RunL.nil ?_
    refine RunE.block_normal ?_
    refine RunE.next ?_
    refine RunC.region ?_
    refine RunL.val (Val.add rfl rfl (IntWalk.i64_in _ ⟨by omega, by omega⟩)) rfl rfl rfl ?_
    refine RunL.val (Val.pure rfl) rfl rfl rfl ?_
    refine RunL.nil ?_
    exact RunE.round (by omega) trivial rfl (Sub.consE (t := 9) rfl rfl (Sub.cons (t := 7) rfl (Sub.cons (t := 8) rfl (Sub.cons (t := 2) rfl (Sub.cons (t := 4) rfl (Sub.nil _)))))) (.cons (.there .here) (by rw [List.take_succ_eq_append_getElem hk, narL_snoc, hx]; rfl) (.cons (.there .here) rfl .nil))
  · intro c0
    have c0' := c0; clear c0
    try simp only [decide_eq_true_eq, decide_eq_false_iff_not, Bool.not_eq_true', Bool.not_eq_false', Bool.and_eq_true, Bool.or_eq_true, Bool.and_eq_false_iff, Bool.or_eq_false_iff, Int.not_le, Int.not_lt] at c0'
    obtain rfl : k = l.length := by omega
    rw [List.take_length]
    refine RunC.exit ?_
    refine RunE.pass_exit ?_
    refine RunE.pass_exit ?_
    refine RunE.block_here ?_
    refine RunE.next ?_
    refine RunC.seq ?_
    refine RunC.region ?_
    refine RunL.val (Val.load_agg rfl (.head _) ty_68 rfl) rfl rfl rfl ?_
    refine RunL.sto (Sto.store rfl rfl (.there .here) ty_68 rfl rfl) rfl rfl ?_
    refine RunL.nil ?_
    refine RunE.next ?_
    refine RunC.ret ?_
    exact RunE.retP (.r1 rfl (.agg rfl (.tail _ (.head _)) ty_68 rfl)) (by first | rfl | simp)
theorem room_calls (c : Cd) (t : Tr) (ht : t.Ok c.cuts) (q : Option Addr) (b o cap bc bm : Nat) (W : World) (h : CdAt c q b o cap bc bm W) :
    Calls Tryz.prog 38 #[mtV bc t] W (Pure (b2v (roomOf c t)) W) := by
  have hc := h.ok
  have hv := h.v
  have ab := apart_bd hc ht
  have wb := window_bd hc ht
  have k1 := hc.e1
  have k2 := hc.e2
  have k3 := hc.e3
  have k4 := hc.p1
  have k5 := hc.p2
  have k6 := hc.q1
  have k7 := hc.q2
  have k8 := hc.f1
  have k9 := hc.f2
  have k10 := hc.d1
  have k11 := hc.d2
  refine calls_start Tryz.func38 rfl rfl ?_
  refine RunC.seq ?_
  refine RunC.region ?_
  refine RunL.new (New.box rfl) rfl rfl rfl (fun b1 => ?_)
  refine RunL.new (New.alloc zero_68) rfl rfl rfl (fun b2 => ?_)
  refine RunL.nil ?_
  refine RunE.next ?_
  refine RunC.seq ?_
  refine RunC.region ?_
  refine RunL.val (Val.build (parts := [(0, .const (.int .i64 0)), (1, .const (.int .i64 2000))]) rfl zero_68 places_68 rfl) rfl rfl rfl ?_
  refine RunL.val (Val.pure rfl) rfl rfl rfl ?_
  refine RunL.val (Val.pure rfl) rfl rfl rfl ?_
  refine RunL.nil ?_
  refine RunE.next ?_
  refine RunC.seq ?_
  refine RunC.draw 3 fol_ (.cons .here rfl (.cons .here rfl .nil)) ?_
  refine RunA.val (i := 0) rfl (by kernel_rfl) (by kernel_rfl) (Val.load_agg rfl (.tail _ (.head _)) ty_63 rfl) rfl rfl rfl (fun _ _ _ h => h) (.cons .here rfl (.cons .here rfl .nil)) rfl ?_
  refine RunA.val (i := 2) rfl (by kernel_rfl) (by kernel_rfl) (Val.load_agg rfl (.tail _ (.head _)) ty_63 rfl) rfl rfl rfl (fun _ _ _ h => h) (.cons .here rfl (.cons .here rfl .nil)) rfl ?_
  refine RunA.one (i := 1) (by kernel_rfl) (by kernel_rfl) ?_
  refine RunI.callP rfl (isCall_func rfl ent_65) rfl rfl rfl (fun w hm => window_calls c hc t ht q cap bc bm w (hm.old_at hv (by simp))) (RunK.toA (.cons .here rfl (.cons .here rfl .nil)) (.cons .here rfl (.cons .here rfl .nil)) rfl ?_)
  refine RunA.toB (by kernel_rfl) ?_
  refine RunB.one (i := 3) (by kernel_rfl) ?_
  refine RunI.callP rfl (isCall_func rfl ent_33) rfl rfl rfl (fun w hm => apart_calls c hc t ht q cap bc bm w (hm.old_at hv (by simp))) (RunK.toB ?_)
  refine RunB.one (i := 4) (by kernel_rfl) ?_
  refine RunI.val rfl (Val.pure rfl) rfl rfl rfl (RunK.toB ?_)
  refine RunB.one (i := 5) (by kernel_rfl) ?_
  refine RunI.val rfl (Val.pure rfl) rfl rfl rfl (RunK.toB ?_)
  refine RunB.done (by kernel_rfl) ?_
  refine RunE.next ?_
  refine RunC.seq ?_
  refine RunC.draw 52 fol_ (.cons .here rfl (.cons .here rfl .nil)) ?_
  refine RunA.val (i := 0) rfl (by kernel_rfl) (by kernel_rfl) (Val.pure rfl) rfl rfl rfl (fun _ _ _ h => h) (.cons .here rfl (.cons .here rfl .nil)) rfl ?_
  refine RunA.val (i := 1) rfl (by kernel_rfl) (by kernel_rfl) (Val.pure rfl) rfl rfl rfl (fun _ _ _ h => h) (.cons .here rfl (.cons .here rfl .nil)) rfl ?_
  refine RunA.val (i := 2) rfl (by kernel_rfl) (by kernel_rfl) (Val.fieldAddr rfl fld_63_0) rfl rfl rfl (fun _ _ _ h => h) (.cons .here rfl (.cons .here rfl .nil)) rfl ?_
  refine RunA.val (i := 3) rfl (by kernel_rfl) (by kernel_rfl) (Val.load_one rfl (.tail _ (.head _)) ty_48 rfl) rfl rfl rfl (fun _ _ _ h => h) (.cons .here rfl (.cons .here rfl .nil)) rfl ?_
  refine RunA.val (i := 4) rfl (by kernel_rfl) (by kernel_rfl) (Val.pure rfl) rfl rfl rfl (fun _ _ _ h => h) (.cons .here rfl (.cons .here rfl .nil)) rfl ?_
  refine RunA.val (i := 5) rfl (by kernel_rfl) (by kernel_rfl) (Val.fieldAddr rfl fld_53_0) rfl rfl rfl (fun _ _ _ h => h) (.cons .here rfl (.cons .here rfl .nil)) rfl ?_
  refine RunA.val (i := 6) rfl (by kernel_rfl) (by kernel_rfl) (Val.fieldAddr rfl fld_28_8) rfl rfl rfl (fun _ _ _ h => h) (.cons .here rfl (.cons .here rfl .nil)) rfl ?_
  refine RunA.val (i := 7) rfl (by kernel_rfl) (by kernel_rfl) (Val.oload_one rfl hv (by simp) ty_3 rfl) rfl rfl rfl (fun _ _ _ h => h) (.cons .here rfl (.cons .here rfl .nil)) rfl ?_
  refine RunA.val (i := 8) rfl (by kernel_rfl) (by kernel_rfl) (Val.sub' rfl rfl (IntWalk.i64_in _ ⟨by omega, by omega⟩)) rfl rfl rfl (fun _ _ _ h => h) (.cons .here rfl (.cons .here rfl .nil)) rfl ?_
  refine RunA.val (i := 9) rfl (by kernel_rfl) (by kernel_rfl) (Val.pure rfl) rfl rfl rfl (fun _ _ _ h => h) (.cons .here rfl (.cons .here rfl .nil)) rfl ?_
  refine RunA.val (i := 10) rfl (by kernel_rfl) (by kernel_rfl) (Val.fieldAddr rfl fld_63_0) rfl rfl rfl (fun _ _ _ h => h) (.cons .here rfl (.cons .here rfl .nil)) rfl ?_
  refine RunA.val (i := 11) rfl (by kernel_rfl) (by kernel_rfl) (Val.load_one rfl (.tail _ (.head _)) ty_48 rfl) rfl rfl rfl (fun _ _ _ h => h) (.cons .here rfl (.cons .here rfl .nil)) rfl ?_
  refine RunA.val (i := 12) rfl (by kernel_rfl) (by kernel_rfl) (Val.pure rfl) rfl rfl rfl (fun _ _ _ h => h) (.cons .here rfl (.cons .here rfl .nil)) rfl ?_
  refine RunA.val (i := 13) rfl (by kernel_rfl) (by kernel_rfl) (Val.fieldAddr rfl fld_53_0) rfl rfl rfl (fun _ _ _ h => h) (.cons .here rfl (.cons .here rfl .nil)) rfl ?_
  refine RunA.val (i := 14) rfl (by kernel_rfl) (by kernel_rfl) (Val.fieldAddr rfl fld_28_7) rfl rfl rfl (fun _ _ _ h => h) (.cons .here rfl (.cons .here rfl .nil)) rfl ?_
  refine RunA.val (i := 15) rfl (by kernel_rfl) (by kernel_rfl) (Val.oload_one rfl hv (by simp) ty_3 rfl) rfl rfl rfl (fun _ _ _ h => h) (.cons .here rfl (.cons .here rfl .nil)) rfl ?_
  refine RunA.val (i := 16) rfl (by kernel_rfl) (by kernel_rfl) (Val.add rfl rfl (IntWalk.i64_in _ ⟨by omega, by omega⟩)) rfl rfl rfl (fun _ _ _ h => h) (.cons .here rfl (.cons .here rfl .nil)) rfl ?_
  refine RunA.val (i := 17) rfl (by kernel_rfl) (by kernel_rfl) (Val.build (parts := [(0, .tmp 20), (1, .tmp 28)]) rfl zero_68 places_68 rfl) rfl rfl rfl (fun _ _ _ h => h) (.cons .here rfl (.cons .here rfl .nil)) rfl ?_
  refine RunA.val (i := 18) rfl (by kernel_rfl) (by kernel_rfl) (Val.pure rfl) rfl rfl rfl (fun _ _ _ h => h) (.cons .here rfl (.cons .here rfl .nil)) rfl ?_
  refine RunA.val (i := 19) rfl (by kernel_rfl) (by kernel_rfl) (Val.fieldAddr rfl fld_63_0) rfl rfl rfl (fun _ _ _ h => h) (.cons .here rfl (.cons .here rfl .nil)) rfl ?_
  refine RunA.val (i := 20) rfl (by kernel_rfl) (by kernel_rfl) (Val.load_one rfl (.tail _ (.head _)) ty_48 rfl) rfl rfl rfl (fun _ _ _ h => h) (.cons .here rfl (.cons .here rfl .nil)) rfl ?_
  refine RunA.val (i := 21) rfl (by kernel_rfl) (by kernel_rfl) (Val.pure rfl) rfl rfl rfl (fun _ _ _ h => h) (.cons .here rfl (.cons .here rfl .nil)) rfl ?_
  refine RunA.val (i := 22) rfl (by kernel_rfl) (by kernel_rfl) (Val.fieldAddr rfl fld_53_0) rfl rfl rfl (fun _ _ _ h => h) (.cons .here rfl (.cons .here rfl .nil)) rfl ?_
  refine RunA.val (i := 23) rfl (by kernel_rfl) (by kernel_rfl) (Val.fieldAddr rfl fld_28_4) rfl rfl rfl (fun _ _ _ h => h) (.cons .here rfl (.cons .here rfl .nil)) rfl ?_
  refine RunA.val (i := 24) rfl (by kernel_rfl) (by kernel_rfl) (Val.fieldAddr rfl fld_23_0) rfl rfl rfl (fun _ _ _ h => h) (.cons .here rfl (.cons .here rfl .nil)) rfl ?_
  refine RunA.val (i := 25) rfl (by kernel_rfl) (by kernel_rfl) (Val.oload_one rfl hv (by simp) ty_3 rfl) rfl rfl rfl (fun _ _ _ h => h) (.cons .here rfl (.cons .here rfl .nil)) rfl ?_
  refine RunA.val (i := 26) rfl (by kernel_rfl) (by kernel_rfl) (Val.sub' rfl rfl (IntWalk.i64_in _ ⟨by omega, by omega⟩)) rfl rfl rfl (fun _ _ _ h => h) (.cons .here rfl (.cons .here rfl .nil)) rfl ?_
  refine RunA.val (i := 27) rfl (by kernel_rfl) (by kernel_rfl) (Val.fieldAddr rfl fld_63_0) rfl rfl rfl (fun _ _ _ h => h) (.cons .here rfl (.cons .here rfl .nil)) rfl ?_
  refine RunA.val (i := 28) rfl (by kernel_rfl) (by kernel_rfl) (Val.load_one rfl (.tail _ (.head _)) ty_48 rfl) rfl rfl rfl (fun _ _ _ h => h) (.cons .here rfl (.cons .here rfl .nil)) rfl ?_
  refine RunA.val (i := 29) rfl (by kernel_rfl) (by kernel_rfl) (Val.pure rfl) rfl rfl rfl (fun _ _ _ h => h) (.cons .here rfl (.cons .here rfl .nil)) rfl ?_
  refine RunA.val (i := 30) rfl (by kernel_rfl) (by kernel_rfl) (Val.fieldAddr rfl fld_53_0) rfl rfl rfl (fun _ _ _ h => h) (.cons .here rfl (.cons .here rfl .nil)) rfl ?_
  refine RunA.val (i := 31) rfl (by kernel_rfl) (by kernel_rfl) (Val.fieldAddr rfl fld_28_5) rfl rfl rfl (fun _ _ _ h => h) (.cons .here rfl (.cons .here rfl .nil)) rfl ?_
  refine RunA.val (i := 32) rfl (by kernel_rfl) (by kernel_rfl) (Val.oload_one rfl hv (by simp) ty_3 rfl) rfl rfl rfl (fun _ _ _ h => h) (.cons .here rfl (.cons .here rfl .nil)) rfl ?_
  refine RunA.val (i := 33) rfl (by kernel_rfl) (by kernel_rfl) (Val.sub' rfl rfl (IntWalk.i64_in _ ⟨by omega, by omega⟩)) rfl rfl rfl (fun _ _ _ h => h) (.cons .here rfl (.cons .here rfl .nil)) rfl ?_
  refine RunA.val (i := 34) rfl (by kernel_rfl) (by kernel_rfl) (Val.pure rfl) rfl rfl rfl (fun _ _ _ h => h) (.cons .here rfl (.cons .here rfl .nil)) rfl ?_
  refine RunA.val (i := 35) rfl (by kernel_rfl) (by kernel_rfl) (Val.fieldAddr rfl fld_63_0) rfl rfl rfl (fun _ _ _ h => h) (.cons .here rfl (.cons .here rfl .nil)) rfl ?_
  refine RunA.val (i := 36) rfl (by kernel_rfl) (by kernel_rfl) (Val.load_one rfl (.tail _ (.head _)) ty_48 rfl) rfl rfl rfl (fun _ _ _ h => h) (.cons .here rfl (.cons .here rfl .nil)) rfl ?_
  refine RunA.val (i := 37) rfl (by kernel_rfl) (by kernel_rfl) (Val.pure rfl) rfl rfl rfl (fun _ _ _ h => h) (.cons .here rfl (.cons .here rfl .nil)) rfl ?_
  refine RunA.val (i := 38) rfl (by kernel_rfl) (by kernel_rfl) (Val.fieldAddr rfl fld_53_0) rfl rfl rfl (fun _ _ _ h => h) (.cons .here rfl (.cons .here rfl .nil)) rfl ?_
  refine RunA.val (i := 39) rfl (by kernel_rfl) (by kernel_rfl) (Val.fieldAddr rfl fld_28_4) rfl rfl rfl (fun _ _ _ h => h) (.cons .here rfl (.cons .here rfl .nil)) rfl ?_
  refine RunA.val (i := 40) rfl (by kernel_rfl) (by kernel_rfl) (Val.fieldAddr rfl fld_23_1) rfl rfl rfl (fun _ _ _ h => h) (.cons .here rfl (.cons .here rfl .nil)) rfl ?_
  refine RunA.val (i := 41) rfl (by kernel_rfl) (by kernel_rfl) (Val.oload_one rfl hv (by simp) ty_3 rfl) rfl rfl rfl (fun _ _ _ h => h) (.cons .here rfl (.cons .here rfl .nil)) rfl ?_
  refine RunA.val (i := 42) rfl (by kernel_rfl) (by kernel_rfl) (Val.sub' rfl rfl (IntWalk.i64_in _ ⟨by omega, by omega⟩)) rfl rfl rfl (fun _ _ _ h => h) (.cons .here rfl (.cons .here rfl .nil)) rfl ?_
  refine RunA.val (i := 43) rfl (by kernel_rfl) (by kernel_rfl) (Val.fieldAddr rfl fld_63_0) rfl rfl rfl (fun _ _ _ h => h) (.cons .here rfl (.cons .here rfl .nil)) rfl ?_
  refine RunA.val (i := 44) rfl (by kernel_rfl) (by kernel_rfl) (Val.load_one rfl (.tail _ (.head _)) ty_48 rfl) rfl rfl rfl (fun _ _ _ h => h) (.cons .here rfl (.cons .here rfl .nil)) rfl ?_
  refine RunA.val (i := 45) rfl (by kernel_rfl) (by kernel_rfl) (Val.pure rfl) rfl rfl rfl (fun _ _ _ h => h) (.cons .here rfl (.cons .here rfl .nil)) rfl ?_
  refine RunA.val (i := 46) rfl (by kernel_rfl) (by kernel_rfl) (Val.fieldAddr rfl fld_53_0) rfl rfl rfl (fun _ _ _ h => h) (.cons .here rfl (.cons .here rfl .nil)) rfl ?_
  refine RunA.val (i := 47) rfl (by kernel_rfl) (by kernel_rfl) (Val.fieldAddr rfl fld_28_6) rfl rfl rfl (fun _ _ _ h => h) (.cons .here rfl (.cons .here rfl .nil)) rfl ?_
  refine RunA.val (i := 48) rfl (by kernel_rfl) (by kernel_rfl) (Val.oload_one rfl hv (by simp) ty_3 rfl) rfl rfl rfl (fun _ _ _ h => h) (.cons .here rfl (.cons .here rfl .nil)) rfl ?_
  refine RunA.val (i := 49) rfl (by kernel_rfl) (by kernel_rfl) (Val.add rfl rfl (IntWalk.i64_in _ ⟨by omega, by omega⟩)) rfl rfl rfl (fun _ _ _ h => h) (.cons .here rfl (.cons .here rfl .nil)) rfl ?_
  refine RunA.val (i := 50) rfl (by kernel_rfl) (by kernel_rfl) (Val.build (parts := [(0, .tmp 45), (1, .tmp 61)]) rfl zero_68 places_68 rfl) rfl rfl rfl (fun _ _ _ h => h) (.cons .here rfl (.cons .here rfl .nil)) rfl ?_
  refine RunA.one (i := 51) (by kernel_rfl) (by kernel_rfl) ?_
  refine RunI.new rfl (New.buildSlice (parts := [(0, .tmp 29), (1, .tmp 62)]) rfl sl_103 zero_68 rfl rfl rfl rfl) rfl rfl rfl (fun b63 => (RunK.toA (.cons .here rfl (.cons .here rfl (.cons .here rfl .nil))) (.cons (.there .here) rfl (.cons (.there .here) rfl .nil)) rfl ?_))
  refine RunA.toB (by kernel_rfl) ?_
  refine RunB.one (i := 52) (by kernel_rfl) ?_
  refine RunI.callP rfl (isCall_value rfl rfl ent_32) rfl rfl rfl (fun w hm => mnarrowed_calls (0, 2000) [(windowM c t - c.deep, windowM c t + c.front), (apartM c t - c.eyes.lo - c.prism, apartM c t - c.eyes.hi + c.squeeze)] (some ⟨b63, 0, none⟩) b63 0 2 w (Sl.rows (hm.at (.head _)) (by simp [b2c])) (by simp)) (RunK.toB ?_)
  refine RunB.one (i := 53) (by kernel_rfl) ?_
  refine RunI.sto rfl (Sto.store rfl rfl (.there .here) ty_68 rfl rfl) rfl rfl (RunK.toB ?_)
  refine RunB.done (by kernel_rfl) ?_
  refine RunE.next ?_
  refine RunC.ret ?_
  exact RunE.retP (.r1 rfl (.agg rfl (.tail _ (.head _)) ty_68 rfl)) (by first | rfl | simp)
theorem Room_calls (c : Cd) (t : Tr) (q : Option Addr) (b o cap : Nat) (W : World) (hS : Sl W q b o 9 (c.p.things.map Th.cells)) (hl : c.p.things.length ≤ 100000000000) :
    Calls Tryz.prog 12 #[c.v q cap, t.v] W (Pure (.tuple #[b2v (roomX c t).1, .int .i64 (roomX c t).2]) W) := by
  by_cases h0 : openM c [t] = 0
  · obtain ⟨hc, hpk⟩ := openOk h0
    obtain ⟨ht, _⟩ := openOne h0
    refine calls_start Tryz.func12 rfl rfl ?_
    refine RunC.seq ?_
    refine RunC.region ?_
    refine RunL.new (New.box rfl) rfl rfl rfl (fun b2 => ?_)
    refine RunL.new (New.box rfl) rfl rfl rfl (fun b3 => ?_)
    refine RunL.new (New.alloc zero_23) rfl rfl rfl (fun b4 => ?_)
    refine RunL.val (Val.pure rfl) rfl rfl rfl ?_
    refine RunL.nil ?_
    refine RunE.next ?_
    refine RunC.seq ?_
    refine RunC.region ?_
    refine RunL.val (Val.load_agg rfl (.tail _ (.tail _ (.head _))) ty_28 rfl) rfl rfl rfl ?_
    refine RunL.val (Val.load_agg rfl (.tail _ (.head _)) ty_30 rfl) rfl rfl rfl ?_
    refine RunL.new (New.buildSlice (parts := [(0, .tmp 11)]) rfl sl_96 zero_30 rfl rfl rfl rfl) rfl rfl rfl (fun b12 => ?_)
    refine RunL.callN (isCall_func rfl ent_24) rfl rfl rfl (fun w hm => open_calls3 c [t] h0 q b o cap (some ⟨b12, 0, none⟩) b12 0 1 w (hS.mono (by decide) hm (by simp)) hl (Sl.one (hm.at (.head _)) rfl) (by simp)) (fun b13 => ?_)
    iterate 5 refine RunL.val (Val.pure rfl) rfl rfl rfl ?_
    refine RunL.nil ?_
    refine RunE.next ?_
    refine RunC.seq ?_
    refine RunC.seq ?_
    refine RunC.region ?_
    refine RunL.val (Val.pure rfl) rfl rfl rfl ?_
    refine RunL.val (Val.pure rfl) rfl rfl rfl ?_
    refine RunL.nil ?_
    refine RunE.next ?_
    refine RunC.cond rfl (fun h => absurd h (by decide)) ?_
    intro c0
    clear c0
    refine RunC.skip ?_
    refine RunE.next ?_
    refine RunC.seq ?_
    refine RunC.region ?_
    refine RunL.val (Val.pure rfl) rfl rfl rfl ?_
    refine RunL.val (Val.load_agg rfl (.tail _ (.tail _ (.tail _ (.tail _ (.head _))))) ty_30 rfl) rfl rfl rfl ?_
    refine RunL.callP (isCall_func rfl ent_28) rfl rfl rfl (fun w hm => edgesOf_calls _ _ _ _ w) ?_
    refine RunL.val (Val.build (parts := [(0, .tmp 20), (1, .tmp 22)]) rfl zero_63 places_63 rfl) rfl rfl rfl ?_
    refine RunL.callP (isCall_func rfl ent_38) rfl rfl rfl (fun w hm => room_calls c t ht q b o cap b13.1 b13.2 w ⟨hm.at (.head _), hm.at (.tail _ (.head _)), hS.mono (by decide) hm (by simp), hc, hpk⟩) ?_
    refine RunL.new (New.alloc zero_68) rfl rfl rfl (fun b8 => ?_)
    refine RunL.sto (Sto.store rfl rfl .here ty_68 rfl rfl) rfl rfl ?_
    refine RunL.nil ?_
    refine RunE.next ?_
    refine RunC.seq ?_
    refine RunC.seq ?_
    refine RunC.region ?_
    refine RunL.val (Val.load_agg rfl (.head _) ty_68 rfl) rfl rfl rfl ?_
    refine RunL.callP (isCall_func rfl ent_34) rfl rfl rfl (fun w hm => mempty_calls (_, _) w) ?_
    refine RunL.nil ?_
    refine RunE.next ?_
    refine RunC.cond rfl ?_ ?_
    · intro c1
      have c1' := c1; clear c1
      try simp only [decide_eq_true_eq, decide_eq_false_iff_not, Bool.not_eq_true', Bool.not_eq_false', Bool.and_eq_true, Bool.or_eq_true, Bool.and_eq_false_iff, Bool.or_eq_false_iff, Int.not_le, Int.not_lt] at c1'
      have c1r : (roomOf c t).2 < (roomOf c t).1 := c1'
      refine RunC.seq ?_
      refine RunC.region ?_
      refine RunL.val (Val.build (parts := []) rfl zero_23 places_23 rfl) rfl rfl rfl ?_
      refine RunL.sto (Sto.store rfl rfl (.there (.there (.there (.there .here)))) ty_23 rfl rfl) rfl rfl ?_
      refine RunL.val (Val.pure rfl) rfl rfl rfl ?_
      refine RunL.nil ?_
      refine RunE.next ?_
      refine RunC.ret ?_
      refine RunE.pass_ret ?_
      exact RunE.retP (.r2 rfl (.agg rfl (.tail _ (.tail _ (.tail _ (.tail _ (.head _))))) ty_23 rfl) (.tmp rfl)) (by rw [roomX, if_pos h0, if_pos c1r]; rfl)
    · intro c1
      have c1' := c1; clear c1
      try simp only [decide_eq_true_eq, decide_eq_false_iff_not, Bool.not_eq_true', Bool.not_eq_false', Bool.and_eq_true, Bool.or_eq_true, Bool.and_eq_false_iff, Bool.or_eq_false_iff, Int.not_le, Int.not_lt] at c1'
      have c1r : ¬ (roomOf c t).2 < (roomOf c t).1 := Int.not_lt.2 c1'
      refine RunC.skip ?_
      refine RunE.next ?_
      refine RunC.seq ?_
      refine RunC.region ?_
      refine RunL.val (Val.load_agg rfl (.head _) ty_68 rfl) rfl rfl rfl ?_
      refine RunL.callP (isCall_func rfl ent_35) rfl rfl rfl (fun w hm => mspan_calls (_, _) w) ?_
      refine RunL.sto (Sto.store rfl rfl (.there (.there (.there (.there .here)))) ty_23 rfl rfl) rfl rfl ?_
      refine RunL.val (Val.pure rfl) rfl rfl rfl ?_
      refine RunL.nil ?_
      refine RunE.next ?_
      refine RunC.ret ?_
      exact RunE.retP (.r2 rfl (.agg rfl (.tail _ (.tail _ (.tail _ (.tail _ (.head _))))) ty_23 rfl) (.tmp rfl)) (by rw [roomX, if_pos h0, if_neg c1r]; rfl)
  · refine calls_start Tryz.func12 rfl rfl ?_
    refine RunC.seq ?_
    refine RunC.region ?_
    refine RunL.new (New.box rfl) rfl rfl rfl (fun b2 => ?_)
    refine RunL.new (New.box rfl) rfl rfl rfl (fun b3 => ?_)
    refine RunL.new (New.alloc zero_23) rfl rfl rfl (fun b4 => ?_)
    refine RunL.val (Val.pure rfl) rfl rfl rfl ?_
    refine RunL.nil ?_
    refine RunE.next ?_
    refine RunC.seq ?_
    refine RunC.region ?_
    refine RunL.val (Val.load_agg rfl (.tail _ (.tail _ (.head _))) ty_28 rfl) rfl rfl rfl ?_
    refine RunL.val (Val.load_agg rfl (.tail _ (.head _)) ty_30 rfl) rfl rfl rfl ?_
    refine RunL.new (New.buildSlice (parts := [(0, .tmp 11)]) rfl sl_96 zero_30 rfl rfl rfl rfl) rfl rfl rfl (fun b12 => ?_)
    refine RunL.callP (isCall_func rfl ent_24) rfl rfl rfl (fun w hm => open_err_calls c [t] _ rfl h0 q b o cap (some ⟨b12, 0, none⟩) b12 0 1 w (hS.mono (by decide) hm (by simp)) hl (Sl.one (hm.at (.head _)) rfl) (by simp)) ?_
    iterate 5 refine RunL.val (Val.pure rfl) rfl rfl rfl ?_
    refine RunL.nil ?_
    refine RunE.next ?_
    refine RunC.seq ?_
    refine RunC.seq ?_
    refine RunC.region ?_
    refine RunL.val (Val.pure rfl) rfl rfl rfl ?_
    refine RunL.val (Val.pure rfl) rfl rfl rfl ?_
    refine RunL.nil ?_
    refine RunE.next ?_
    refine RunC.cond rfl ?_ (fun h => absurd h (by simp [h0]))
    intro c0
    clear c0
    refine RunC.seq ?_
    refine RunC.region ?_
    refine RunL.val (Val.build (parts := []) rfl zero_23 places_23 rfl) rfl rfl rfl ?_
    refine RunL.val (Val.pure rfl) rfl rfl rfl ?_
    refine RunL.sto (Sto.store rfl rfl (.there .here) ty_23 rfl rfl) rfl rfl ?_
    refine RunL.val (Val.pure rfl) rfl rfl rfl ?_
    refine RunL.nil ?_
    refine RunE.next ?_
    refine RunC.ret ?_
    refine RunE.pass_ret ?_
    exact RunE.retP (.r2 rfl (.agg rfl (.tail _ (.head _)) ty_23 rfl) (.tmp rfl)) (by simp [roomX, h0, b2v])
theorem Eyes_calls (c : Cd) (t : Tr) (q : Option Addr) (b o cap : Nat) (W : World) (hS : Sl W q b o 9 (c.p.things.map Th.cells)) (hl : c.p.things.length ≤ 100000000000) :
    Calls Tryz.prog 10 #[c.v q cap, t.v] W (Pure (.tuple #[b2v (eyesX c t).1, .int .i64 (eyesX c t).2]) W) := by
  by_cases h0 : openM c [t] = 0
  · obtain ⟨hc, hpk⟩ := openOk h0
    obtain ⟨ht, _⟩ := openOne h0
    have ab := apart_bd hc ht
    have k4 := hc.p1
    have k5 := hc.p2
    have k6 := hc.q1
    have k7 := hc.q2
    refine calls_start Tryz.func10 rfl rfl ?_
    refine RunC.seq ?_
    refine RunC.region ?_
    refine RunL.new (New.box rfl) rfl rfl rfl (fun b2 => ?_)
    refine RunL.new (New.box rfl) rfl rfl rfl (fun b3 => ?_)
    refine RunL.new (New.alloc zero_23) rfl rfl rfl (fun b4 => ?_)
    refine RunL.val (Val.pure rfl) rfl rfl rfl ?_
    refine RunL.nil ?_
    refine RunE.next ?_
    refine RunC.seq ?_
    refine RunC.region ?_
    refine RunL.val (Val.load_agg rfl (.tail _ (.tail _ (.head _))) ty_28 rfl) rfl rfl rfl ?_
    refine RunL.val (Val.load_agg rfl (.tail _ (.head _)) ty_30 rfl) rfl rfl rfl ?_
    refine RunL.new (New.buildSlice (parts := [(0, .tmp 14)]) rfl sl_96 zero_30 rfl rfl rfl rfl) rfl rfl rfl (fun b15 => ?_)
    refine RunL.callN (isCall_func rfl ent_24) rfl rfl rfl (fun w hm => open_calls3 c [t] h0 q b o cap (some ⟨b15, 0, none⟩) b15 0 1 w (hS.mono (by decide) hm (by simp)) hl (Sl.one (hm.at (.head _)) rfl) (by simp)) (fun b16 => ?_)
    iterate 5 refine RunL.val (Val.pure rfl) rfl rfl rfl ?_
    refine RunL.nil ?_
    refine RunE.next ?_
    refine RunC.seq ?_
    refine RunC.seq ?_
    refine RunC.region ?_
    refine RunL.val (Val.pure rfl) rfl rfl rfl ?_
    refine RunL.val (Val.pure rfl) rfl rfl rfl ?_
    refine RunL.nil ?_
    refine RunE.next ?_
    refine RunC.cond rfl (fun h => absurd h (by decide)) ?_
    intro c0
    clear c0
    refine RunC.skip ?_
    refine RunE.next ?_
    refine RunC.seq ?_
    refine RunC.region ?_
    refine RunL.val (Val.pure rfl) rfl rfl rfl ?_
    refine RunL.val (Val.load_agg rfl (.tail _ (.tail _ (.tail _ (.tail _ (.head _))))) ty_30 rfl) rfl rfl rfl ?_
    refine RunL.callP (isCall_func rfl ent_28) rfl rfl rfl (fun w hm => edgesOf_calls _ _ _ _ w) ?_
    refine RunL.val (Val.build (parts := [(0, .tmp 23), (1, .tmp 25)]) rfl zero_63 places_63 rfl) rfl rfl rfl ?_
    refine RunL.new (New.alloc zero_63) rfl rfl rfl (fun b8 => ?_)
    refine RunL.sto (Sto.store rfl rfl .here ty_63 rfl rfl) rfl rfl ?_
    refine RunL.nil ?_
    refine RunE.next ?_
    refine RunC.seq ?_
    refine RunC.region ?_
    refine RunL.val (Val.build (parts := [(0, .const (.int .i64 1)), (1, .const (.int .i64 10000))]) rfl zero_68 places_68 rfl) rfl rfl rfl ?_
    refine RunL.new (New.alloc zero_68) rfl rfl rfl (fun b9 => ?_)
    refine RunL.sto (Sto.store rfl rfl .here ty_68 rfl rfl) rfl rfl ?_
    refine RunL.nil ?_
    refine RunE.next ?_
    refine RunC.seq ?_
    refine RunC.seq ?_
    refine RunC.region ?_
    refine RunL.val (Val.pure rfl) rfl rfl rfl ?_
    refine RunL.val (Val.pure rfl) rfl rfl rfl ?_
    refine RunL.val (Val.fieldAddr rfl fld_53_1) rfl rfl rfl ?_
    refine RunL.val (Val.load_one rfl (.tail _ (.tail _ (.head _))) ty_51 rfl) rfl rfl rfl ?_
    refine RunL.new (New.range rfl (fun w hm => hm.at (.tail _ (.tail _ (.tail _ (.head _))))) mapB_51) rfl rfl rfl (fun b32 => ?_)
    refine RunL.nil ?_
    refine RunE.next ?_
    refine RunC.block ?_
    refine RunC.loopX (X := List Nat) (n0 := [(b8, _), (b4, _), (b2, _), (b16.1, _), (b16.2, _)]) ((mEnts c.p).length) (fun k x q => q) (fun _ _ => _) (fun k x => [(b32, itO b16.2 (mEnts c.p) x), (b9, .cells (b2c (narL (1, 10000) (x.map fun i => eyeB c t (shiftX c.p (keyN c.p i)).1))).toArray 68 (0, 0))]) (fun k x => []) (fun k x => Vis (mEnts c.p).length k x) [] Vis.nil rfl (Sub.cons (t := 2) rfl (Sub.cons (t := 4) rfl (Sub.cons (t := 8) rfl (Sub.cons (t := 9) rfl (Sub.cons (t := 32) rfl (Sub.nil _)))))) (.cons .here rfl (.cons .here rfl (.cons .here rfl (.cons (.there (.there (.there .here))) rfl (.cons (.there (.there (.there (.there .here)))) rfl (.cons .here rfl (.cons .here rfl (Pick.skip (Pick.skip (Pick.same rfl)))))))))) ?_
    intro k x kN kI
    refine RunC.seq ?_
    refine RunC.region ?_
    refine RunL.next rfl (fun w hm => hm.at (.tail _ (.tail _ (.tail _ (.tail _ (.tail _ (.tail _ (.head _)))))))) (fun _ => .here) rfl (fun i33 hi33 hx33 => ?_) (fun hx33 => ?_)
    · refine RunL.val (Val.pure rfl) rfl rfl rfl ?_
      refine RunL.nil ?_
      refine RunE.next ?_
      refine RunC.seq ?_
      refine RunC.cond_true rfl ?_
      refine RunC.skip ?_
      refine RunE.next ?_
      refine RunC.block ?_
      refine RunC.seq ?_
      refine RunC.region ?_
      have sb := shiftX_bd hpk (keyN c.p i33)
      refine RunL.val (Val.entryV rfl (fun w hm => hm.at (.head _)) (fun w hm => hm.at (.tail _ (.tail _ (.tail _ (.tail _ (.tail _ (.tail _ (.head _)))))))) hi33 (ent_at hi33)) rfl rfl rfl ?_
      refine RunL.val (Val.pure rfl) rfl rfl rfl ?_
      refine RunL.new (New.alloc zero_68) rfl rfl rfl (fun b11 => ?_)
      refine RunL.sto (Sto.store rfl rfl .here ty_68 rfl rfl) rfl rfl ?_
      refine RunL.nil ?_
      refine RunE.next ?_
      apply RunC.drawJ (J := J1 _ _ _ _ _ _) 19 fol_ (.cons .here rfl (.cons .here rfl (.cons (.there .here) rfl (.cons (.there .here) rfl (.cons (.there .here) rfl (.cons (.there .here) rfl (.cons (.there .here) rfl .nil)))))))
      · refine RunA.val (i := 1) rfl (by kernel_rfl) (by kernel_rfl) (Val.load_agg rfl (.tail _ (.tail _ (.head _))) ty_63 rfl) rfl rfl rfl (fun _ _ _ h => h) (.cons .here rfl (.cons .here rfl (.cons (.there .here) rfl (.cons (.there .here) rfl (.cons (.there .here) rfl (.cons (.there .here) rfl (.cons (.there .here) rfl .nil))))))) rfl ?_
        refine RunA.val (i := 3) rfl (by kernel_rfl) (by kernel_rfl) (Val.fieldAddr rfl fld_68_0) rfl rfl rfl (fun _ _ _ h => h) (.cons .here rfl (.cons .here rfl (.cons (.there .here) rfl (.cons (.there .here) rfl (.cons (.there .here) rfl (.cons (.there .here) rfl (.cons (.there .here) rfl .nil))))))) rfl ?_
        refine RunA.val (i := 4) rfl (by kernel_rfl) (by kernel_rfl) (Val.load_one rfl (.head _) ty_3 rfl) rfl rfl rfl (fun _ _ _ h => h) (.cons .here rfl (.cons .here rfl (.cons (.there .here) rfl (.cons (.there .here) rfl (.cons (.there .here) rfl (.cons (.there .here) rfl (.cons (.there .here) rfl .nil))))))) rfl ?_
        refine RunA.val (i := 6) rfl (by kernel_rfl) (by kernel_rfl) (Val.fieldAddr rfl fld_28_5) rfl rfl rfl (fun _ _ _ h => h) (.cons .here rfl (.cons .here rfl (.cons (.there .here) rfl (.cons (.there .here) rfl (.cons (.there .here) rfl (.cons (.there .here) rfl (.cons (.there .here) rfl .nil))))))) rfl ?_
        refine RunA.val (i := 7) rfl (by kernel_rfl) (by kernel_rfl) (Val.load_one rfl (.tail _ (.tail _ (.tail _ (.tail _ (.head _))))) ty_3 rfl) rfl rfl rfl (fun _ _ _ h => h) (.cons .here rfl (.cons .here rfl (.cons (.there .here) rfl (.cons (.there .here) rfl (.cons (.there .here) rfl (.cons (.there .here) rfl (.cons (.there .here) rfl .nil))))))) rfl ?_
        refine RunA.val (i := 9) rfl (by kernel_rfl) (by kernel_rfl) (Val.load_agg rfl (.tail _ (.tail _ (.head _))) ty_63 rfl) rfl rfl rfl (fun _ _ _ h => h) (.cons .here rfl (.cons .here rfl (.cons (.there .here) rfl (.cons (.there .here) rfl (.cons (.there .here) rfl (.cons (.there .here) rfl (.cons (.there .here) rfl .nil))))))) rfl ?_
        refine RunA.val (i := 11) rfl (by kernel_rfl) (by kernel_rfl) (Val.fieldAddr rfl fld_68_1) rfl rfl rfl (fun _ _ _ h => h) (.cons .here rfl (.cons .here rfl (.cons (.there .here) rfl (.cons (.there .here) rfl (.cons (.there .here) rfl (.cons (.there .here) rfl (.cons (.there .here) rfl .nil))))))) rfl ?_
        refine RunA.val (i := 12) rfl (by kernel_rfl) (by kernel_rfl) (Val.load_one rfl (.head _) ty_3 rfl) rfl rfl rfl (fun _ _ _ h => h) (.cons .here rfl (.cons .here rfl (.cons (.there .here) rfl (.cons (.there .here) rfl (.cons (.there .here) rfl (.cons (.there .here) rfl (.cons (.there .here) rfl .nil))))))) rfl ?_
        refine RunA.val (i := 14) rfl (by kernel_rfl) (by kernel_rfl) (Val.fieldAddr rfl fld_28_6) rfl rfl rfl (fun _ _ _ h => h) (.cons .here rfl (.cons .here rfl (.cons (.there .here) rfl (.cons (.there .here) rfl (.cons (.there .here) rfl (.cons (.there .here) rfl (.cons (.there .here) rfl .nil))))))) rfl ?_
        refine RunA.val (i := 15) rfl (by kernel_rfl) (by kernel_rfl) (Val.load_one rfl (.tail _ (.tail _ (.tail _ (.tail _ (.head _))))) ty_3 rfl) rfl rfl rfl (fun _ _ _ h => h) (.cons .here rfl (.cons .here rfl (.cons (.there .here) rfl (.cons (.there .here) rfl (.cons (.there .here) rfl (.cons (.there .here) rfl (.cons (.there .here) rfl .nil))))))) rfl ?_
        refine RunA.all (rs := [0, 2]) (by kernel_rfl) (by simp) (by kernel_rfl) (fun m hm => ?_)
        simp only [List.mem_cons, List.not_mem_nil, or_false] at hm
        rcases hm with rfl | rfl
        · refine RunI.val rfl (Val.load_agg rfl (.tail _ (.tail _ (.head _))) ty_68 rfl) rfl rfl rfl (RunK.toA (.cons .here rfl (.cons .here rfl (.cons (.there .here) rfl (.cons (.there .here) rfl (.cons (.there .here) rfl (.cons (.there .here) rfl (.cons (.there .here) rfl .nil))))))) (.cons .here rfl (.cons .here rfl (.cons .here rfl (.cons .here rfl (.cons .here rfl (.cons .here rfl (.cons .here rfl .nil))))))) rfl ?_)
          refine RunA.one (i := 2) (by kernel_rfl) (by kernel_rfl) ?_
          refine RunI.callP rfl (isCall_func rfl ent_33) rfl rfl rfl (fun w hm => apart_calls c hc t ht q cap b16.1 b16.2 w (hm.at (.tail _ (.tail _ (.tail _ (.tail _ (.tail _ (.tail _ (.head _))))))))) (RunK.toA (.cons .here rfl (.cons .here rfl (.cons (.there .here) rfl (.cons (.there .here) rfl (.cons (.there .here) rfl (.cons (.there .here) rfl (.cons (.there .here) rfl .nil))))))) (.cons .here rfl (.cons .here rfl (.cons .here rfl (.cons .here rfl (.cons .here rfl (.cons .here rfl (.cons .here rfl .nil))))))) rfl ?_)
          refine RunA.val (i := 5) rfl (by kernel_rfl) (by kernel_rfl) (Val.sub' rfl rfl (IntWalk.i64_in _ ⟨by omega, by omega⟩)) rfl rfl rfl (fun _ _ _ h => h) (.cons .here rfl (.cons .here rfl (.cons (.there .here) rfl (.cons (.there .here) rfl (.cons (.there .here) rfl (.cons (.there .here) rfl (.cons (.there .here) rfl .nil))))))) rfl ?_
          refine RunA.val (i := 8) rfl (by kernel_rfl) (by kernel_rfl) (Val.sub' rfl rfl (IntWalk.i64_in _ ⟨by omega, by omega⟩)) rfl rfl rfl (fun _ _ _ h => h) (.cons .here rfl (.cons .here rfl (.cons (.there .here) rfl (.cons (.there .here) rfl (.cons (.there .here) rfl (.cons (.there .here) rfl (.cons (.there .here) rfl .nil))))))) rfl ?_
          refine RunA.one (i := 10) (by kernel_rfl) (by kernel_rfl) ?_
          refine RunI.callP rfl (isCall_func rfl ent_33) rfl rfl rfl (fun w hm => apart_calls c hc t ht q cap b16.1 b16.2 w (hm.at (.tail _ (.tail _ (.tail _ (.tail _ (.tail _ (.tail _ (.head _))))))))) (RunK.toA (.cons .here rfl (.cons .here rfl (.cons (.there .here) rfl (.cons (.there .here) rfl (.cons (.there .here) rfl (.cons (.there .here) rfl (.cons (.there .here) rfl .nil))))))) (.cons .here rfl (.cons .here rfl (.cons .here rfl (.cons .here rfl (.cons .here rfl (.cons .here rfl (.cons .here rfl .nil))))))) rfl ?_)
          refine RunA.val (i := 13) rfl (by kernel_rfl) (by kernel_rfl) (Val.sub' rfl rfl (IntWalk.i64_in _ ⟨by omega, by omega⟩)) rfl rfl rfl (fun _ _ _ h => h) (.cons .here rfl (.cons .here rfl (.cons (.there .here) rfl (.cons (.there .here) rfl (.cons (.there .here) rfl (.cons (.there .here) rfl (.cons (.there .here) rfl .nil))))))) rfl ?_
          refine RunA.val (i := 16) rfl (by kernel_rfl) (by kernel_rfl) (Val.add rfl rfl (IntWalk.i64_in _ ⟨by omega, by omega⟩)) rfl rfl rfl (fun _ _ _ h => h) (.cons .here rfl (.cons .here rfl (.cons (.there .here) rfl (.cons (.there .here) rfl (.cons (.there .here) rfl (.cons (.there .here) rfl (.cons (.there .here) rfl .nil))))))) rfl ?_
          refine RunA.val (i := 17) rfl (by kernel_rfl) (by kernel_rfl) (Val.build (parts := [(0, .tmp 45), (1, .tmp 53)]) rfl zero_68 places_68 rfl) rfl rfl rfl (fun _ _ _ h => h) (.cons .here rfl (.cons .here rfl (.cons (.there .here) rfl (.cons (.there .here) rfl (.cons (.there .here) rfl (.cons (.there .here) rfl (.cons (.there .here) rfl .nil))))))) rfl ?_
          refine RunA.one (i := 18) (by kernel_rfl) (by kernel_rfl) ?_
          refine RunI.new rfl (New.buildSlice (parts := [(0, .tmp 54)]) rfl sl_103 zero_68 rfl rfl rfl rfl) rfl rfl rfl (fun b55 => (RunK.toA (.cons .here rfl (.cons .here rfl (.cons .here rfl (.cons (.there .here) rfl (.cons (.there .here) rfl (.cons (.there .here) rfl (.cons (.there .here) rfl (.cons (.there .here) rfl .nil)))))))) (.cons (.there .here) rfl (.cons (.there .here) rfl (.cons (.there .here) rfl (.cons (.there .here) rfl (.cons (.there .here) rfl (.cons (.there .here) rfl (.cons (.there .here) rfl .nil))))))) rfl ?_))
          refine RunA.toB (by kernel_rfl) ?_
          refine RunB.one (i := 19) (by kernel_rfl) ?_
          refine RunI.callP rfl (isCall_func rfl ent_32) rfl rfl rfl (fun w hm => mnarrowed_calls (_, _) [(_, _)] (some ⟨b55, 0, none⟩) b55 0 1 w (Sl.one (hm.at (.head _)) rfl) (by simp)) (RunK.toB ?_)
          refine RunB.one (i := 20) (by kernel_rfl) ?_
          refine RunI.sto rfl (Sto.store rfl rfl (.there (.there (.there .here))) ty_68 rfl rfl) rfl rfl (RunK.toB ?_)
          refine RunB.done (by kernel_rfl) ?_
          exact RunE.join1 b55 (Sub.refl _) (Pick.refl _)
        · refine RunI.callP rfl (isCall_func rfl ent_33) rfl rfl rfl (fun w hm => apart_calls c hc t ht q cap b16.1 b16.2 w (hm.at (.tail _ (.tail _ (.tail _ (.tail _ (.tail _ (.tail _ (.head _))))))))) (RunK.toA (.cons .here rfl (.cons .here rfl (.cons (.there .here) rfl (.cons (.there .here) rfl (.cons (.there .here) rfl (.cons (.there .here) rfl (.cons (.there .here) rfl .nil))))))) (.cons .here rfl (.cons .here rfl (.cons .here rfl (.cons .here rfl (.cons .here rfl (.cons .here rfl (.cons .here rfl .nil))))))) rfl ?_)
          refine RunA.val (i := 5) rfl (by kernel_rfl) (by kernel_rfl) (Val.sub' rfl rfl (IntWalk.i64_in _ ⟨by omega, by omega⟩)) rfl rfl rfl (fun _ _ _ h => h) (.cons .here rfl (.cons .here rfl (.cons (.there .here) rfl (.cons (.there .here) rfl (.cons (.there .here) rfl (.cons (.there .here) rfl (.cons (.there .here) rfl .nil))))))) rfl ?_
          refine RunA.val (i := 8) rfl (by kernel_rfl) (by kernel_rfl) (Val.sub' rfl rfl (IntWalk.i64_in _ ⟨by omega, by omega⟩)) rfl rfl rfl (fun _ _ _ h => h) (.cons .here rfl (.cons .here rfl (.cons (.there .here) rfl (.cons (.there .here) rfl (.cons (.there .here) rfl (.cons (.there .here) rfl (.cons (.there .here) rfl .nil))))))) rfl ?_
          refine RunA.all (rs := [0, 10]) (by kernel_rfl) (by simp) (by kernel_rfl) (fun m hm => ?_)
          simp only [List.mem_cons, List.not_mem_nil, or_false] at hm
          rcases hm with rfl | rfl
          · refine RunI.val rfl (Val.load_agg rfl (.tail _ (.tail _ (.head _))) ty_68 rfl) rfl rfl rfl (RunK.toA (.cons .here rfl (.cons .here rfl (.cons (.there .here) rfl (.cons (.there .here) rfl (.cons (.there .here) rfl (.cons (.there .here) rfl (.cons (.there .here) rfl .nil))))))) (.cons .here rfl (.cons .here rfl (.cons .here rfl (.cons .here rfl (.cons .here rfl (.cons .here rfl (.cons .here rfl .nil))))))) rfl ?_)
            refine RunA.one (i := 10) (by kernel_rfl) (by kernel_rfl) ?_
            refine RunI.callP rfl (isCall_func rfl ent_33) rfl rfl rfl (fun w hm => apart_calls c hc t ht q cap b16.1 b16.2 w (hm.at (.tail _ (.tail _ (.tail _ (.tail _ (.tail _ (.tail _ (.head _))))))))) (RunK.toA (.cons .here rfl (.cons .here rfl (.cons (.there .here) rfl (.cons (.there .here) rfl (.cons (.there .here) rfl (.cons (.there .here) rfl (.cons (.there .here) rfl .nil))))))) (.cons .here rfl (.cons .here rfl (.cons .here rfl (.cons .here rfl (.cons .here rfl (.cons .here rfl (.cons .here rfl .nil))))))) rfl ?_)
            refine RunA.val (i := 13) rfl (by kernel_rfl) (by kernel_rfl) (Val.sub' rfl rfl (IntWalk.i64_in _ ⟨by omega, by omega⟩)) rfl rfl rfl (fun _ _ _ h => h) (.cons .here rfl (.cons .here rfl (.cons (.there .here) rfl (.cons (.there .here) rfl (.cons (.there .here) rfl (.cons (.there .here) rfl (.cons (.there .here) rfl .nil))))))) rfl ?_
            refine RunA.val (i := 16) rfl (by kernel_rfl) (by kernel_rfl) (Val.add rfl rfl (IntWalk.i64_in _ ⟨by omega, by omega⟩)) rfl rfl rfl (fun _ _ _ h => h) (.cons .here rfl (.cons .here rfl (.cons (.there .here) rfl (.cons (.there .here) rfl (.cons (.there .here) rfl (.cons (.there .here) rfl (.cons (.there .here) rfl .nil))))))) rfl ?_
            refine RunA.val (i := 17) rfl (by kernel_rfl) (by kernel_rfl) (Val.build (parts := [(0, .tmp 45), (1, .tmp 53)]) rfl zero_68 places_68 rfl) rfl rfl rfl (fun _ _ _ h => h) (.cons .here rfl (.cons .here rfl (.cons (.there .here) rfl (.cons (.there .here) rfl (.cons (.there .here) rfl (.cons (.there .here) rfl (.cons (.there .here) rfl .nil))))))) rfl ?_
            refine RunA.one (i := 18) (by kernel_rfl) (by kernel_rfl) ?_
            refine RunI.new rfl (New.buildSlice (parts := [(0, .tmp 54)]) rfl sl_103 zero_68 rfl rfl rfl rfl) rfl rfl rfl (fun b55 => (RunK.toA (.cons .here rfl (.cons .here rfl (.cons .here rfl (.cons (.there .here) rfl (.cons (.there .here) rfl (.cons (.there .here) rfl (.cons (.there .here) rfl (.cons (.there .here) rfl .nil)))))))) (.cons (.there .here) rfl (.cons (.there .here) rfl (.cons (.there .here) rfl (.cons (.there .here) rfl (.cons (.there .here) rfl (.cons (.there .here) rfl (.cons (.there .here) rfl .nil))))))) rfl ?_))
            refine RunA.toB (by kernel_rfl) ?_
            refine RunB.one (i := 19) (by kernel_rfl) ?_
            refine RunI.callP rfl (isCall_func rfl ent_32) rfl rfl rfl (fun w hm => mnarrowed_calls (_, _) [(_, _)] (some ⟨b55, 0, none⟩) b55 0 1 w (Sl.one (hm.at (.head _)) rfl) (by simp)) (RunK.toB ?_)
            refine RunB.one (i := 20) (by kernel_rfl) ?_
            refine RunI.sto rfl (Sto.store rfl rfl (.there (.there (.there .here))) ty_68 rfl rfl) rfl rfl (RunK.toB ?_)
            refine RunB.done (by kernel_rfl) ?_
            exact RunE.join1 b55 (Sub.cons (t := 56) rfl (Sub.cons (t := 55) rfl (Sub.cons (t := 54) rfl (Sub.cons (t := 53) rfl (Sub.cons (t := 50) rfl (Sub.cons (t := 47) rfl (Sub.cons (t := 45) rfl (Sub.cons (t := 42) rfl (Sub.cons (t := 39) rfl (Sub.cons (t := 37) rfl (Sub.cons (t := 52) rfl (Sub.cons (t := 51) rfl (Sub.cons (t := 49) rfl (Sub.cons (t := 48) rfl (Sub.cons (t := 46) rfl (Sub.cons (t := 44) rfl (Sub.cons (t := 43) rfl (Sub.cons (t := 41) rfl (Sub.cons (t := 40) rfl (Sub.cons (t := 38) rfl (Sub.skip rfl (Sub.skip rfl (Sub.skip rfl (Sub.skip rfl (Sub.skip rfl (Sub.skip rfl (Sub.skip rfl (Sub.skip rfl (Sub.skip rfl (Sub.skip rfl (Sub.skip rfl (Sub.skip rfl (Sub.skip rfl (Sub.skip rfl (Sub.skip rfl (Sub.skip rfl (Sub.skip rfl (Sub.skip rfl (Sub.skip rfl (Sub.skip rfl (Sub.refl _))))))))))))))))))))))))))))))))))))))))) (.cons .here rfl (.cons .here rfl (.cons .here rfl (.cons .here rfl (.cons .here rfl (.cons .here rfl (.cons .here rfl (.cons .here rfl (.cons .here rfl .nil)))))))))
          · refine RunI.callP rfl (isCall_func rfl ent_33) rfl rfl rfl (fun w hm => apart_calls c hc t ht q cap b16.1 b16.2 w (hm.at (.tail _ (.tail _ (.tail _ (.tail _ (.tail _ (.tail _ (.head _))))))))) (RunK.toA (.cons .here rfl (.cons .here rfl (.cons (.there .here) rfl (.cons (.there .here) rfl (.cons (.there .here) rfl (.cons (.there .here) rfl (.cons (.there .here) rfl .nil))))))) (.cons .here rfl (.cons .here rfl (.cons .here rfl (.cons .here rfl (.cons .here rfl (.cons .here rfl (.cons .here rfl .nil))))))) rfl ?_)
            refine RunA.val (i := 13) rfl (by kernel_rfl) (by kernel_rfl) (Val.sub' rfl rfl (IntWalk.i64_in _ ⟨by omega, by omega⟩)) rfl rfl rfl (fun _ _ _ h => h) (.cons .here rfl (.cons .here rfl (.cons (.there .here) rfl (.cons (.there .here) rfl (.cons (.there .here) rfl (.cons (.there .here) rfl (.cons (.there .here) rfl .nil))))))) rfl ?_
            refine RunA.val (i := 16) rfl (by kernel_rfl) (by kernel_rfl) (Val.add rfl rfl (IntWalk.i64_in _ ⟨by omega, by omega⟩)) rfl rfl rfl (fun _ _ _ h => h) (.cons .here rfl (.cons .here rfl (.cons (.there .here) rfl (.cons (.there .here) rfl (.cons (.there .here) rfl (.cons (.there .here) rfl (.cons (.there .here) rfl .nil))))))) rfl ?_
            refine RunA.val (i := 17) rfl (by kernel_rfl) (by kernel_rfl) (Val.build (parts := [(0, .tmp 45), (1, .tmp 53)]) rfl zero_68 places_68 rfl) rfl rfl rfl (fun _ _ _ h => h) (.cons .here rfl (.cons .here rfl (.cons (.there .here) rfl (.cons (.there .here) rfl (.cons (.there .here) rfl (.cons (.there .here) rfl (.cons (.there .here) rfl .nil))))))) rfl ?_
            refine RunA.all (rs := [0, 18]) (by kernel_rfl) (by simp) (by kernel_rfl) (fun m hm => ?_)
            simp only [List.mem_cons, List.not_mem_nil, or_false] at hm
            rcases hm with rfl | rfl
            · refine RunI.val rfl (Val.load_agg rfl (.tail _ (.tail _ (.head _))) ty_68 rfl) rfl rfl rfl (RunK.toA (.cons .here rfl (.cons .here rfl (.cons (.there .here) rfl (.cons (.there .here) rfl (.cons (.there .here) rfl (.cons (.there .here) rfl (.cons (.there .here) rfl .nil))))))) (.cons .here rfl (.cons .here rfl (.cons .here rfl (.cons .here rfl (.cons .here rfl (.cons .here rfl (.cons .here rfl .nil))))))) rfl ?_)
              refine RunA.one (i := 18) (by kernel_rfl) (by kernel_rfl) ?_
              refine RunI.new rfl (New.buildSlice (parts := [(0, .tmp 54)]) rfl sl_103 zero_68 rfl rfl rfl rfl) rfl rfl rfl (fun b55 => (RunK.toA (.cons .here rfl (.cons .here rfl (.cons .here rfl (.cons (.there .here) rfl (.cons (.there .here) rfl (.cons (.there .here) rfl (.cons (.there .here) rfl (.cons (.there .here) rfl .nil)))))))) (.cons (.there .here) rfl (.cons (.there .here) rfl (.cons (.there .here) rfl (.cons (.there .here) rfl (.cons (.there .here) rfl (.cons (.there .here) rfl (.cons (.there .here) rfl .nil))))))) rfl ?_))
              refine RunA.toB (by kernel_rfl) ?_
              refine RunB.one (i := 19) (by kernel_rfl) ?_
              refine RunI.callP rfl (isCall_func rfl ent_32) rfl rfl rfl (fun w hm => mnarrowed_calls (_, _) [(_, _)] (some ⟨b55, 0, none⟩) b55 0 1 w (Sl.one (hm.at (.head _)) rfl) (by simp)) (RunK.toB ?_)
              refine RunB.one (i := 20) (by kernel_rfl) ?_
              refine RunI.sto rfl (Sto.store rfl rfl (.there (.there (.there .here))) ty_68 rfl rfl) rfl rfl (RunK.toB ?_)
              refine RunB.done (by kernel_rfl) ?_
              exact RunE.join1 b55 (Sub.cons (t := 56) rfl (Sub.cons (t := 55) rfl (Sub.cons (t := 54) rfl (Sub.cons (t := 53) rfl (Sub.cons (t := 50) rfl (Sub.cons (t := 47) rfl (Sub.cons (t := 45) rfl (Sub.cons (t := 42) rfl (Sub.cons (t := 39) rfl (Sub.cons (t := 37) rfl (Sub.cons (t := 52) rfl (Sub.cons (t := 51) rfl (Sub.cons (t := 49) rfl (Sub.cons (t := 48) rfl (Sub.cons (t := 46) rfl (Sub.cons (t := 44) rfl (Sub.cons (t := 43) rfl (Sub.cons (t := 41) rfl (Sub.cons (t := 40) rfl (Sub.cons (t := 38) rfl (Sub.skip rfl (Sub.skip rfl (Sub.skip rfl (Sub.skip rfl (Sub.skip rfl (Sub.skip rfl (Sub.skip rfl (Sub.skip rfl (Sub.skip rfl (Sub.skip rfl (Sub.skip rfl (Sub.skip rfl (Sub.skip rfl (Sub.skip rfl (Sub.skip rfl (Sub.skip rfl (Sub.skip rfl (Sub.skip rfl (Sub.skip rfl (Sub.skip rfl (Sub.refl _))))))))))))))))))))))))))))))))))))))))) (.cons .here rfl (.cons .here rfl (.cons .here rfl (.cons .here rfl (.cons .here rfl (.cons .here rfl (.cons .here rfl (.cons .here rfl (.cons .here rfl .nil)))))))))
            · refine RunI.new rfl (New.buildSlice (parts := [(0, .tmp 54)]) rfl sl_103 zero_68 rfl rfl rfl rfl) rfl rfl rfl (fun b55 => (RunK.toA (.cons .here rfl (.cons .here rfl (.cons .here rfl (.cons (.there .here) rfl (.cons (.there .here) rfl (.cons (.there .here) rfl (.cons (.there .here) rfl (.cons (.there .here) rfl .nil)))))))) (.cons (.there .here) rfl (.cons (.there .here) rfl (.cons (.there .here) rfl (.cons (.there .here) rfl (.cons (.there .here) rfl (.cons (.there .here) rfl (.cons (.there .here) rfl .nil))))))) rfl ?_))
              refine RunA.one (i := 0) (by kernel_rfl) (by kernel_rfl) ?_
              refine RunI.val rfl (Val.load_agg rfl (.tail _ (.tail _ (.tail _ (.head _)))) ty_68 rfl) rfl rfl rfl (RunK.toA (.cons .here rfl (.cons .here rfl (.cons .here rfl (.cons (.there .here) rfl (.cons (.there .here) rfl (.cons (.there .here) rfl (.cons (.there .here) rfl (.cons (.there .here) rfl .nil)))))))) (.cons .here rfl (.cons .here rfl (.cons .here rfl (.cons .here rfl (.cons .here rfl (.cons .here rfl (.cons .here rfl (.cons .here rfl .nil)))))))) rfl ?_)
              refine RunA.toB (by kernel_rfl) ?_
              refine RunB.one (i := 19) (by kernel_rfl) ?_
              refine RunI.callP rfl (isCall_func rfl ent_32) rfl rfl rfl (fun w hm => mnarrowed_calls (_, _) [(_, _)] (some ⟨b55, 0, none⟩) b55 0 1 w (Sl.one (hm.at (.head _)) rfl) (by simp)) (RunK.toB ?_)
              refine RunB.one (i := 20) (by kernel_rfl) ?_
              refine RunI.sto rfl (Sto.store rfl rfl (.there (.there (.there .here))) ty_68 rfl rfl) rfl rfl (RunK.toB ?_)
              refine RunB.done (by kernel_rfl) ?_
              exact RunE.join1 b55 (Sub.cons (t := 56) rfl (Sub.cons (t := 55) rfl (Sub.cons (t := 54) rfl (Sub.cons (t := 53) rfl (Sub.cons (t := 50) rfl (Sub.cons (t := 47) rfl (Sub.cons (t := 45) rfl (Sub.cons (t := 42) rfl (Sub.cons (t := 39) rfl (Sub.cons (t := 37) rfl (Sub.cons (t := 52) rfl (Sub.cons (t := 51) rfl (Sub.cons (t := 49) rfl (Sub.cons (t := 48) rfl (Sub.cons (t := 46) rfl (Sub.cons (t := 44) rfl (Sub.cons (t := 43) rfl (Sub.cons (t := 41) rfl (Sub.cons (t := 40) rfl (Sub.cons (t := 38) rfl (Sub.skip rfl (Sub.skip rfl (Sub.skip rfl (Sub.skip rfl (Sub.skip rfl (Sub.skip rfl (Sub.skip rfl (Sub.skip rfl (Sub.skip rfl (Sub.skip rfl (Sub.skip rfl (Sub.skip rfl (Sub.skip rfl (Sub.skip rfl (Sub.skip rfl (Sub.skip rfl (Sub.skip rfl (Sub.skip rfl (Sub.skip rfl (Sub.skip rfl (Sub.refl _))))))))))))))))))))))))))))))))))))))))) (.cons .here rfl (.cons .here rfl (.cons .here rfl (.cons .here rfl (.cons .here rfl (.cons .here rfl (.cons .here rfl (.cons .here rfl (.cons .here rfl .nil)))))))))
      refine J1.out (fun b55 => ?_)
      refine RunE.block_normal ?_
      exact RunE.roundX (x ++ [i33]) (kI.more hi33 hx33) (kI.snoc hi33 hx33) rfl (Sub.cons (t := 2) rfl (Sub.cons (t := 4) rfl (Sub.cons (t := 8) rfl (Sub.cons (t := 9) rfl (Sub.cons (t := 32) rfl (Sub.nil _)))))) (.cons (.there (.there .here)) rfl (.cons (.there (.there .here)) (by simp only [List.map_append, List.map_cons, List.map_nil, narL_snoc]; rfl) (.cons (.there (.there .here)) rfl (.cons (.there (.there .here)) rfl (.cons (.there (.there .here)) rfl (.cons (.there (.there .here)) rfl (.cons (.there (.there .here)) rfl .nil)))))))
    · refine RunL.val (Val.pure rfl) rfl rfl rfl ?_
      refine RunL.nil ?_
      refine RunE.next ?_
      refine RunC.seq ?_
      refine RunC.cond_false rfl ?_
      refine RunC.exit ?_
      refine RunE.pass_exit ?_
      refine RunE.pass_exit ?_
      refine RunE.block_here ?_
      refine RunE.next ?_
      refine RunC.seq ?_
      refine RunC.seq ?_
      refine RunC.region ?_
      rw [eyes_vis hx33 kI.lt]
      refine RunL.val (Val.load_agg rfl (.tail _ (.head _)) ty_68 rfl) rfl rfl rfl ?_
      refine RunL.callP (isCall_func rfl ent_34) rfl rfl rfl (fun w hm => mempty_calls (_, _) w) ?_
      refine RunL.nil ?_
      refine RunE.next ?_
      refine RunC.cond rfl ?_ ?_
      · intro c2
        have c2' := c2; clear c2
        try simp only [decide_eq_true_eq, decide_eq_false_iff_not, Bool.not_eq_true', Bool.not_eq_false', Bool.and_eq_true, Bool.or_eq_true, Bool.and_eq_false_iff, Bool.or_eq_false_iff, Int.not_le, Int.not_lt] at c2'
        have c2r : (eyesOf c t).2 < (eyesOf c t).1 := c2'
        refine RunC.seq ?_
        refine RunC.region ?_
        refine RunL.val (Val.build (parts := []) rfl zero_23 places_23 rfl) rfl rfl rfl ?_
        refine RunL.sto (Sto.store rfl rfl (.there (.there (.there .here))) ty_23 rfl rfl) rfl rfl ?_
        refine RunL.val (Val.pure rfl) rfl rfl rfl ?_
        refine RunL.nil ?_
        refine RunE.next ?_
        refine RunC.ret ?_
        refine RunE.pass_ret ?_
        exact RunE.retP (.r2 rfl (.agg rfl (.tail _ (.tail _ (.tail _ (.head _)))) ty_23 rfl) (.tmp rfl)) (by rw [eyesX, if_pos h0, if_pos c2r]; rfl)
      · intro c2
        have c2' := c2; clear c2
        try simp only [decide_eq_true_eq, decide_eq_false_iff_not, Bool.not_eq_true', Bool.not_eq_false', Bool.and_eq_true, Bool.or_eq_true, Bool.and_eq_false_iff, Bool.or_eq_false_iff, Int.not_le, Int.not_lt] at c2'
        have c2r : ¬ (eyesOf c t).2 < (eyesOf c t).1 := Int.not_lt.2 c2'
        refine RunC.skip ?_
        refine RunE.next ?_
        refine RunC.seq ?_
        refine RunC.region ?_
        refine RunL.val (Val.load_agg rfl (.tail _ (.head _)) ty_68 rfl) rfl rfl rfl ?_
        refine RunL.callP (isCall_func rfl ent_35) rfl rfl rfl (fun w hm => mspan_calls (_, _) w) ?_
        refine RunL.sto (Sto.store rfl rfl (.there (.there (.there .here))) ty_23 rfl rfl) rfl rfl ?_
        refine RunL.val (Val.pure rfl) rfl rfl rfl ?_
        refine RunL.nil ?_
        refine RunE.next ?_
        refine RunC.ret ?_
        exact RunE.retP (.r2 rfl (.agg rfl (.tail _ (.tail _ (.tail _ (.head _)))) ty_23 rfl) (.tmp rfl)) (by rw [eyesX, if_pos h0, if_neg c2r]; rfl)
  · refine calls_start Tryz.func10 rfl rfl ?_
    refine RunC.seq ?_
    refine RunC.region ?_
    refine RunL.new (New.box rfl) rfl rfl rfl (fun b2 => ?_)
    refine RunL.new (New.box rfl) rfl rfl rfl (fun b3 => ?_)
    refine RunL.new (New.alloc zero_23) rfl rfl rfl (fun b4 => ?_)
    refine RunL.val (Val.pure rfl) rfl rfl rfl ?_
    refine RunL.nil ?_
    refine RunE.next ?_
    refine RunC.seq ?_
    refine RunC.region ?_
    refine RunL.val (Val.load_agg rfl (.tail _ (.tail _ (.head _))) ty_28 rfl) rfl rfl rfl ?_
    refine RunL.val (Val.load_agg rfl (.tail _ (.head _)) ty_30 rfl) rfl rfl rfl ?_
    refine RunL.new (New.buildSlice (parts := [(0, .tmp 14)]) rfl sl_96 zero_30 rfl rfl rfl rfl) rfl rfl rfl (fun b15 => ?_)
    refine RunL.callP (isCall_func rfl ent_24) rfl rfl rfl (fun w hm => open_err_calls c [t] _ rfl h0 q b o cap (some ⟨b15, 0, none⟩) b15 0 1 w (hS.mono (by decide) hm (by simp)) hl (Sl.one (hm.at (.head _)) rfl) (by simp)) ?_
    iterate 5 refine RunL.val (Val.pure rfl) rfl rfl rfl ?_
    refine RunL.nil ?_
    refine RunE.next ?_
    refine RunC.seq ?_
    refine RunC.seq ?_
    refine RunC.region ?_
    refine RunL.val (Val.pure rfl) rfl rfl rfl ?_
    refine RunL.val (Val.pure rfl) rfl rfl rfl ?_
    refine RunL.nil ?_
    refine RunE.next ?_
    refine RunC.cond rfl ?_ (fun h => absurd h (by simp [h0]))
    intro c0
    clear c0
    refine RunC.seq ?_
    refine RunC.region ?_
    refine RunL.val (Val.build (parts := []) rfl zero_23 places_23 rfl) rfl rfl rfl ?_
    refine RunL.val (Val.pure rfl) rfl rfl rfl ?_
    refine RunL.sto (Sto.store rfl rfl (.there .here) ty_23 rfl rfl) rfl rfl ?_
    refine RunL.val (Val.pure rfl) rfl rfl rfl ?_
    refine RunL.nil ?_
    refine RunE.next ?_
    refine RunC.ret ?_
    refine RunE.pass_ret ?_
    exact RunE.retP (.r2 rfl (.agg rfl (.tail _ (.head _)) ty_23 rfl) (.tmp rfl)) (by simp [eyesX, h0, b2v])
end Go.Proofs.YthoheicppmbepaaGreat
