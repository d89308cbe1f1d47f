/- Walks of the laws of layer 5: the glacier of the examples. -/
import Derived.Test.YtjijeeadmhpfcaaYr
set_option linter.unusedSimpArgs false
set_option linter.unusedVariables false
namespace Go.Proofs.Ytjijeeadmhpfcaa
open Go Go.Eng Go.Pw1

theorem lthing5_calls (far a b c d e f g h : Int) (W : World) : Calls Try.prog 78 #[.int .i64 far, .int .i64 a, .int .i64 b, .int .i64 c, .int .i64 d, .int .i64 e, .int .i64 f, .int .i64 g, .int .i64 h] W
    (Pure (.agg #[.int .i64 a, .int .i64 b, .int .i64 c, .int .i64 d, .int .i64 e, .int .i64 f, .int .i64 g, .int .i64 h, .int .i64 far]) W) := by
  refine calls_start Try.func78 rfl rfl ?_
  refine RunC.seq ?_
  refine RunC.region ?_
  refine RunL.new (New.alloc zero_54) rfl rfl rfl (fun b18 => ?_)
  refine RunL.nil ?_
  refine RunE.next ?_
  refine RunC.seq ?_
  refine RunC.region ?_
  refine RunL.val (Val.pure rfl) rfl rfl rfl ?_
  refine RunL.val (Val.pure rfl) rfl rfl rfl ?_
  refine RunL.callP (isCall_func rfl ent_22) rfl rfl rfl (fun w hm => lspan5_calls _ _ w) ?_
  refine RunL.val (Val.pure rfl) rfl rfl rfl ?_
  refine RunL.val (Val.pure rfl) rfl rfl rfl ?_
  refine RunL.callP (isCall_func rfl ent_22) rfl rfl rfl (fun w hm => lspan5_calls _ _ w) ?_
  refine RunL.val (Val.build (parts := [(0, .tmp 21), (1, .tmp 24)]) rfl zero_52 places_52 rfl) rfl rfl rfl ?_
  refine RunL.val (Val.pure rfl) rfl rfl rfl ?_
  refine RunL.val (Val.pure rfl) rfl rfl rfl ?_
  refine RunL.callP (isCall_func rfl ent_22) rfl rfl rfl (fun w hm => lspan5_calls _ _ w) ?_
  refine RunL.val (Val.pure rfl) rfl rfl rfl ?_
  refine RunL.val (Val.pure rfl) rfl rfl rfl ?_
  refine RunL.callP (isCall_func rfl ent_22) rfl rfl rfl (fun w hm => lspan5_calls _ _ w) ?_
  refine RunL.val (Val.build (parts := [(0, .tmp 28), (1, .tmp 31)]) rfl zero_52 places_52 rfl) rfl rfl rfl ?_
  refine RunL.val (Val.pure rfl) rfl rfl rfl ?_
  refine RunL.val (Val.build (parts := [(0, .tmp 25), (1, .tmp 32), (2, .tmp 33)]) rfl zero_54 places_54 rfl) rfl rfl rfl ?_
  refine RunL.sto (Sto.store rfl rfl .here ty_54 rfl rfl) rfl rfl ?_
  refine RunL.nil ?_
  refine RunE.next ?_
  refine RunC.ret ?_
  exact RunE.retP (.r1 rfl (.agg rfl (.head _) ty_54 rfl)) (by first | rfl | simp)
def th5 (far a b c d e f g h : Int) : Th := ⟨⟨a, b⟩, ⟨c, d⟩, ⟨e, f⟩, ⟨g, h⟩, far⟩
def viewP (x : Int) : Pr := ⟨⟨9000, 9000⟩, ⟨65, 66⟩, 5, 2000, 100000, [th5 3000 100 101 0 1 (-96) (-95) 0 2, th5 0 x x 10 12 (-10) (-8) 14 15, th5 0 0 2 0 0 5 6 0 0, th5 0 400 400 0 0 0 0 0 0, th5 0 10 10 0 1 0 0 10 12, th5 0 0 3 0 0 0 0 0 0]⟩
abbrev viewO (x : Int) : Obj := .cells ((viewP x).things.map Th.cells).flatten.toArray 54 (0, 0)
theorem view_calls (x : Int) (W : World) : Calls Try.prog 51 #[.int .i64 x] W (News (fun b => (viewP x).v (some ⟨b, 0, none⟩) 6) (fun b => [(b, viewO x)]) W) := by
  refine calls_start Try.func51 rfl rfl ?_
  refine RunC.seq ?_
  refine RunC.region ?_
  refine RunL.new (New.alloc zero_26) rfl rfl rfl (fun b2 => ?_)
  refine RunL.nil ?_
  refine RunE.next ?_
  refine RunC.seq ?_
  refine RunC.region ?_
  refine RunL.callP (isCall_func rfl ent_78) rfl rfl rfl (fun w hm => lthing5_calls _ _ _ _ _ _ _ _ _ w) ?_
  refine RunL.val (Val.pure rfl) rfl rfl rfl ?_
  refine RunL.val (Val.pure rfl) rfl rfl rfl ?_
  iterate 5 refine RunL.callP (isCall_func rfl ent_78) rfl rfl rfl (fun w hm => lthing5_calls _ _ _ _ _ _ _ _ _ w) ?_
  refine RunL.new (New.buildSlice (parts := [(0, .tmp 4), (1, .tmp 7), (2, .tmp 8), (3, .tmp 9), (4, .tmp 10), (5, .tmp 11)]) rfl sl_24 zero_54 rfl rfl rfl rfl) rfl rfl rfl (fun b12 => ?_)
  refine RunL.val (Val.pure rfl) rfl rfl rfl ?_
  refine RunL.nil ?_
  refine RunE.next ?_
  refine RunC.seq ?_
  refine RunC.region ?_
  refine RunL.callP (isCall_func rfl ent_22) rfl rfl rfl (fun w hm => lspan5_calls _ _ w) ?_
  refine RunL.callP (isCall_func rfl ent_22) rfl rfl rfl (fun w hm => lspan5_calls _ _ w) ?_
  refine RunL.val (Val.pure rfl) rfl rfl rfl ?_
  refine RunL.val (Val.build (parts := [(0, .tmp 13), (1, .tmp 14), (2, .const (.int .i64 5)), (3, .const (.int .i64 2000)), (4, .const (.int .i64 100000)), (5, .tmp 15)]) rfl zero_26 places_26 rfl) rfl rfl rfl ?_
  refine RunL.sto (Sto.store rfl rfl (.there .here) ty_26 rfl rfl) rfl rfl ?_
  refine RunL.nil ?_
  refine RunE.next ?_
  refine RunC.ret ?_
  exact RunE.ret (chg := []) (.r1 rfl (.agg rfl (.tail _ (.head _)) ty_26 rfl)) (fun _ hm => ⟨b12, rfl, hm.pick (.cons .here rfl .nil)⟩)
def sampleG : Gl := ⟨viewP 50, viewP 60, 100, 200⟩
def sampleA (b c : Nat) : Ga := ⟨some ⟨b, 0, none⟩, b, 0, 6, some ⟨c, 0, none⟩, c, 0, 6⟩
theorem sample5_calls (W : World) : Calls Try.prog 19 #[] W (News (fun b : Nat × Nat => sampleG.v (sampleA b.1 b.2)) (fun b => [(b.1, viewO 50), (b.2, viewO 60)]) W) := by
  refine calls_start Try.func19 rfl rfl ?_
  refine RunC.seq ?_
  refine RunC.region ?_
  refine RunL.new (New.alloc zero_28) rfl rfl rfl (fun b0 => ?_)
  refine RunL.nil ?_
  refine RunE.next ?_
  refine RunC.seq ?_
  refine RunC.region ?_
  refine RunL.callN (isCall_func rfl ent_51) rfl rfl rfl (fun w hm => view_calls 50 w) (fun b1 => ?_)
  refine RunL.callN (isCall_func rfl ent_51) rfl rfl rfl (fun w hm => view_calls 60 w) (fun b2 => ?_)
  refine RunL.val (Val.build (parts := [(0, .tmp 1), (1, .tmp 2), (2, .const (.int .i64 100)), (3, .const (.int .i64 200))]) rfl zero_28 places_28 rfl) rfl rfl rfl ?_
  refine RunL.sto (Sto.store rfl rfl (.there (.there .here)) ty_28 rfl rfl) rfl rfl ?_
  refine RunL.nil ?_
  refine RunE.next ?_
  refine RunC.ret ?_
  exact RunE.ret (chg := []) (.r1 rfl (.agg rfl (.tail _ (.tail _ (.head _))) ty_28 rfl)) (fun _ hm => ⟨(b1, b2), rfl, hm.pick (.cons (.there .here) rfl (.cons .here rfl .nil))⟩)
theorem sample_in {b c : Nat} {W : World} (h1 : W.heap[b]? = some (viewO 50)) (h2 : W.heap[c]? = some (viewO 60)) : GIn W sampleG (sampleA b c) := ⟨Sl.rows h1 (by simp [Th.cells]), Sl.rows h2 (by simp [Th.cells]), by decide, by decide⟩
end Go.Proofs.Ytjijeeadmhpfcaa
