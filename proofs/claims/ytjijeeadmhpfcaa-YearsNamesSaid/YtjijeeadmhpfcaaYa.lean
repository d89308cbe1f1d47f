/- Walks of package years: what each small function returns. -/
import Derived.Test.YtjijeeadmhpfcaaYt
import Derived.Test.YtjijeeadmhpfcaaYs
import Derived.Test.YtjijeeadmhpfcaaPh
set_option linter.unusedSimpArgs false
set_option linter.unusedVariables false
namespace Go.Proofs.Ytjijeeadmhpfcaa
open Go Go.Eng Go.Pw1

theorem ywithin_calls (n lo hi : Int) (W : World) : Calls Try.prog 53 #[.int .i64 n, .int .i64 lo, .int .i64 hi] W (Pure (.bool (within n lo hi)) W) := by
  refine calls_start Try.func53 rfl rfl ?_
  refine RunC.seq ?_
  refine RunC.region ?_
  refine RunL.val (Val.pure rfl) rfl rfl rfl ?_
  refine RunL.nil ?_
  refine RunE.next ?_
  refine RunC.seq ?_
  refine RunC.region ?_
  iterate 4 refine RunL.val (Val.pure rfl) rfl rfl rfl ?_
  refine RunL.andPart (dj := 10) (dp := 14) 4 rfl (fun g10 => by
    have g10' := g10
    try simp only [decide_eq_true_eq, decide_eq_false_iff_not, Bool.not_eq_true', Bool.not_eq_false', Bool.and_eq_true, Bool.or_eq_true, Bool.and_eq_false_iff, Bool.or_eq_false_iff, Int.not_le, Int.not_lt] at g10'
    iterate 4 refine RunL.val (Val.pure rfl) rfl rfl rfl ?_
    exact RunL.segEnd (Sub.cons rfl (Sub.skip rfl (Sub.skip rfl (Sub.skip rfl (Sub.skip rfl (Sub.same rfl (by rw [g10]) (Sub.refl _))))))) (List.Sublist.refl _)
  ) (fun g10 => by
    have g10' := g10
    try simp only [decide_eq_true_eq, decide_eq_false_iff_not, Bool.not_eq_true', Bool.not_eq_false', Bool.and_eq_true, Bool.or_eq_true, Bool.and_eq_false_iff, Bool.or_eq_false_iff, Int.not_le, Int.not_lt] at g10'
    iterate 3 refine RunL.no rfl rfl rfl ?_
    refine RunL.val (Val.pure rfl) rfl rfl rfl ?_
    exact RunL.segEnd (Sub.cons rfl (Sub.skip rfl (Sub.skip rfl (Sub.skip rfl (Sub.skip rfl (Sub.same rfl (by rw [g10]) (Sub.refl _))))))) (List.Sublist.refl _)
  ) ?_
  refine RunL.val (Val.pure rfl) rfl rfl rfl ?_
  refine RunL.nil ?_
  refine RunE.next ?_
  refine RunC.ret ?_
  exact RunE.retP (.r1 rfl (.tmp rfl)) (by first | rfl | simp)
def ymisf (k : Int) : Value := .iface 107 (.agg #[.int .i64 k])
theorem yneed_calls (b : Bool) (e : Int) (W : World) : Calls Try.prog 42 #[.bool b, .int .i64 e] W (Try ymisf (needX b e) W) := by
  refine calls_start Try.func42 rfl rfl ?_
  refine RunC.seq ?_
  refine RunC.region ?_
  refine RunL.val (Val.pure rfl) rfl rfl rfl ?_
  refine RunL.val (Val.pure rfl) rfl rfl rfl ?_
  refine RunL.nil ?_
  refine RunE.next ?_
  refine RunC.cond rfl ?_ ?_
  · intro c0
    have c0' := c0; clear c0
    try simp only [decide_eq_true_eq, decide_eq_false_iff_not, Bool.not_eq_true', Bool.not_eq_false', Bool.and_eq_true, Bool.or_eq_true, Bool.and_eq_false_iff, Bool.or_eq_false_iff, Int.not_le, Int.not_lt] at c0'
    refine RunC.region ?_
    refine RunL.val (Val.pure rfl) rfl rfl rfl ?_
    refine RunL.val (Val.build (parts := [(0, .tmp 6)]) rfl zero_107 places_107 rfl) rfl rfl rfl ?_
    refine RunL.val (Val.makeInterface rfl noif_107) rfl rfl rfl ?_
    refine RunL.panicOp rfl ?_
    exact RunE.panicT (k := e) (by simp [needX, show b = false by simpa using c0'])
  · intro c0
    have c0' := c0; clear c0
    try simp only [decide_eq_true_eq, decide_eq_false_iff_not, Bool.not_eq_true', Bool.not_eq_false', Bool.and_eq_true, Bool.or_eq_true, Bool.and_eq_false_iff, Bool.or_eq_false_iff, Int.not_le, Int.not_lt] at c0'
    refine RunC.skip ?_
    exact RunE.finT (.r0 rfl) (by simp [needX, show b = true by simpa using c0'])
theorem yless_calls (a b : Int × Int) (h : (-9000000000000000000 ≤ a.1 - b.2 ∧ a.1 - b.2 ≤ 9000000000000000000) ∧ -9000000000000000000 ≤ a.2 - b.1 ∧ a.2 - b.1 ≤ 9000000000000000000) (W : World) : Calls Try.prog 57 #[b2v a, b2v b] W (Pure (b2v (lessZ a b)) W) := by
  refine calls_start Try.func57 rfl rfl ?_
  refine RunC.seq ?_
  refine RunC.region ?_
  refine RunL.new (New.box rfl) rfl rfl rfl (fun b2 => ?_)
  refine RunL.new (New.box rfl) rfl rfl rfl (fun b3 => ?_)
  refine RunL.new (New.alloc zero_64) rfl rfl rfl (fun b4 => ?_)
  refine RunL.nil ?_
  refine RunE.next ?_
  refine RunC.seq ?_
  refine RunC.region ?_
  refine RunL.val (Val.fieldAddr rfl fld_64_0) rfl rfl rfl ?_
  refine RunL.val (Val.load_one rfl (.tail _ (.tail _ (.head _))) ty_3 rfl) rfl rfl rfl ?_
  refine RunL.val (Val.fieldAddr rfl fld_64_1) rfl rfl rfl ?_
  refine RunL.val (Val.load_one rfl (.tail _ (.head _)) ty_3 rfl) rfl rfl rfl ?_
  refine RunL.val (Val.sub' rfl rfl (IntWalk.i64_in _ ⟨by omega, by omega⟩)) rfl rfl rfl ?_
  refine RunL.val (Val.fieldAddr rfl fld_64_1) rfl rfl rfl ?_
  refine RunL.val (Val.load_one rfl (.tail _ (.tail _ (.head _))) ty_3 rfl) rfl rfl rfl ?_
  refine RunL.val (Val.fieldAddr rfl fld_64_0) rfl rfl rfl ?_
  refine RunL.val (Val.load_one rfl (.tail _ (.head _)) ty_3 rfl) rfl rfl rfl ?_
  refine RunL.val (Val.sub' rfl rfl (IntWalk.i64_in _ ⟨by omega, by omega⟩)) rfl rfl rfl ?_
  refine RunL.val (Val.build (parts := [(0, .tmp 9), (1, .tmp 14)]) rfl zero_64 places_64 rfl) rfl rfl rfl ?_
  refine RunL.sto (Sto.store rfl rfl .here ty_64 rfl rfl) rfl rfl ?_
  refine RunL.nil ?_
  refine RunE.next ?_
  refine RunC.ret ?_
  exact RunE.retP (.r1 rfl (.agg rfl (.head _) ty_64 rfl)) (by first | rfl | simp)
theorem yviews_calls (W : World) : Calls Try.prog 73 #[] W (Pure (.agg #[.func (.func 90) #[] #[], .func (.func 91) #[] #[]]) W) := by
  refine calls_start Try.func73 rfl rfl ?_
  refine RunC.seq ?_
  refine RunC.region ?_
  refine RunL.new (New.alloc zero_113) rfl rfl rfl (fun b0 => ?_)
  refine RunL.nil ?_
  refine RunE.next ?_
  refine RunC.seq ?_
  refine RunC.region ?_
  refine RunL.val (Val.build (parts := [(0, .func 90), (1, .func 91)]) rfl zero_113 places_113 rfl) rfl rfl rfl ?_
  refine RunL.sto (Sto.store rfl rfl .here ty_113 rfl rfl) rfl rfl ?_
  refine RunL.nil ?_
  refine RunE.next ?_
  refine RunC.ret ?_
  exact RunE.retP (.r1 rfl (.agg rfl (.head _) ty_113 rfl)) (by first | rfl | simp)
theorem yfirst_calls (g : Gl) (a : Ga) (b : Nat) (W : World) (hb : W.heap[b]? = some (.cells (g.cells a).toArray 110 (0, 0))) : Calls Try.prog 90 #[.pointer (some ⟨b, 0, none⟩)] W (Pure (g.f.v a.q1 a.c1) W) := by
  refine calls_start Try.func90 rfl rfl ?_
  refine RunC.seq ?_
  refine RunC.region ?_
  refine RunL.new (New.alloc zero_26) rfl rfl rfl (fun b2 => ?_)
  refine RunL.nil ?_
  refine RunE.next ?_
  refine RunC.seq ?_
  refine RunC.region ?_
  refine RunL.val (Val.pure rfl) rfl rfl rfl ?_
  refine RunL.val (Val.pure rfl) rfl rfl rfl ?_
  refine RunL.val (Val.fieldAddr rfl fld_110_0) rfl rfl rfl ?_
  refine RunL.val (Val.fieldAddr rfl fld_28_0) rfl rfl rfl ?_
  refine RunL.val (Val.oload_agg rfl hb (by simp) ty_26 rfl) rfl rfl rfl ?_
  refine RunL.sto (Sto.store rfl rfl .here ty_26 rfl rfl) rfl rfl ?_
  refine RunL.nil ?_
  refine RunE.next ?_
  refine RunC.ret ?_
  exact RunE.retP (.r1 rfl (.agg rfl (.head _) ty_26 rfl)) (by first | rfl | simp)
theorem ysecond_calls (g : Gl) (a : Ga) (b : Nat) (W : World) (hb : W.heap[b]? = some (.cells (g.cells a).toArray 110 (0, 0))) : Calls Try.prog 91 #[.pointer (some ⟨b, 0, none⟩)] W (Pure (g.s.v a.q2 a.c2) W) := by
  refine calls_start Try.func91 rfl rfl ?_
  refine RunC.seq ?_
  refine RunC.region ?_
  refine RunL.new (New.alloc zero_26) rfl rfl rfl (fun b2 => ?_)
  refine RunL.nil ?_
  refine RunE.next ?_
  refine RunC.seq ?_
  refine RunC.region ?_
  refine RunL.val (Val.pure rfl) rfl rfl rfl ?_
  refine RunL.val (Val.pure rfl) rfl rfl rfl ?_
  refine RunL.val (Val.fieldAddr rfl fld_110_0) rfl rfl rfl ?_
  refine RunL.val (Val.fieldAddr rfl fld_28_1) rfl rfl rfl ?_
  refine RunL.val (Val.oload_agg rfl hb (by simp) ty_26 rfl) rfl rfl rfl ?_
  refine RunL.sto (Sto.store rfl rfl .here ty_26 rfl rfl) rfl rfl ?_
  refine RunL.nil ?_
  refine RunE.next ?_
  refine RunC.ret ?_
  exact RunE.retP (.r1 rfl (.agg rfl (.head _) ty_26 rfl)) (by first | rfl | simp)
theorem yisThing_calls (g : Gl) (a : Ga) (n : Int) (hl : g.f.things.length ≤ 100000000000) (W : World) : Calls Try.prog 36 #[g.v a, .int .i64 n] W (Pure (.bool (isThingG g n)) W) := by
  refine calls_start Try.func36 rfl rfl ?_
  refine RunC.seq ?_
  refine RunC.region ?_
  refine RunL.new (New.box rfl) rfl rfl rfl (fun b2 => ?_)
  refine RunL.val (Val.pure rfl) rfl rfl rfl ?_
  refine RunL.nil ?_
  refine RunE.next ?_
  refine RunC.seq ?_
  refine RunC.region ?_
  refine RunL.val (Val.pure rfl) rfl rfl rfl ?_
  refine RunL.val (Val.fieldAddr rfl fld_28_0) rfl rfl rfl ?_
  refine RunL.val (Val.fieldAddr rfl fld_26_5) rfl rfl rfl ?_
  refine RunL.val (Val.load_one rfl (.head _) ty_24 rfl) rfl rfl rfl ?_
  refine RunL.val (Val.len_sl rfl sl_24) rfl rfl rfl ?_
  refine RunL.val (Val.sub' rfl rfl (IntWalk.i64_in _ ⟨by omega, by omega⟩)) rfl rfl rfl ?_
  refine RunL.callP (isCall_func rfl ent_53) rfl rfl rfl (fun w hm => ywithin_calls _ _ _ w) ?_
  refine RunL.val (Val.pure rfl) rfl rfl rfl ?_
  refine RunL.nil ?_
  refine RunE.next ?_
  refine RunC.ret ?_
  exact RunE.retP (.r1 rfl (.tmp rfl)) (by first | rfl | simp)
end Go.Proofs.Ytjijeeadmhpfcaa
