/- Package pair: the deferred function that turns the panic of need into its error. -/
import Derived.Test.YthoheicppmbepaaGreatPd
set_option linter.unusedSimpArgs false
set_option linter.unusedVariables false
namespace Go.Proofs.YthoheicppmbepaaGreat
open Go Go.Eng Go.Pw1

theorem caught_calm (b : Nat) (w : World) : CallsD Tryz.prog 67 #[.pointer (some ⟨b, 0, none⟩)] .returning w fun e u w' => (∃ v, e = .returned v) ∧ u = .returning ∧ Mem w [] [] w' := by
  refine callsD_of_wpS Tryz.func67 rfl fun c₀ cs hu => ?_
  refine wpS_seq ?_
  refine wpS_region ?_
  simp [wpOpsS, go_sem, recoverD, hu, Tryz.ntmps67, Exit.thenS]
  refine wpS_of_wp ?_
  refine RunC.at 20 [(0, .pointer (some ⟨b, 0, none⟩)), (2, .nilIface)] w [] ?_ ?_
  · exact ⟨by simp, .consA (by simp) (.consA (by simp [Array.getElem?_append]) (Agree.nil _)), rfl, Mem.refl w⟩
  refine RunC.seq ?_
  refine RunC.region ?_
  refine RunL.val (Val.pure rfl) rfl rfl rfl ?_
  refine RunL.val (Val.neq_nil_nil rfl und_20) rfl rfl rfl ?_
  refine RunL.nil ?_
  refine RunE.next ?_
  refine RunC.cond rfl (fun h => absurd h (by simp)) ?_
  intro c0
  clear c0
  refine RunC.skip ?_
  intro a w2 s
  exact ⟨s.defers, .returning, by rw [← hu], _, results_none rfl _ _ _, ⟨_, rfl⟩, rfl, s.mem.drop⟩
theorem caught_wild (b : Nat) (k : Int) (x : Value) (w : World) (hb : w.heap[b]? = some (.cells #[x] 32 (0, 0))) : CallsD Tryz.prog 67 #[.pointer (some ⟨b, 0, none⟩)] (.panicking [{ v := misf k, recovered := false }]) w fun e u w' =>
    (∃ v, e = .returned v) ∧ u = .panicking [{ v := misf k, recovered := true }] ∧ Mem w [(b, .cells #[.int .i64 k] 32 (0, 0))] [] w' := by
  refine callsD_of_wpS Tryz.func67 rfl fun c₀ cs hu => ?_
  refine wpS_seq ?_
  refine wpS_region ?_
  simp [wpOpsS, go_sem, recoverD, hu, Tryz.ntmps67, Exit.thenS]
  refine wpS_of_wp ?_
  refine RunC.at 20 [(0, .pointer (some ⟨b, 0, none⟩)), (2, misf k)] w [(b, .cells #[x] 32 (0, 0))] ?_ ?_
  · exact ⟨by simp, .consA (by simp) (.consA (by simp [Array.getElem?_append]) (Agree.nil _)), rfl, Mem.start hb⟩
  refine RunC.seq ?_
  refine RunC.region ?_
  refine RunL.val (Val.pure rfl) rfl rfl rfl ?_
  refine RunL.val (Val.neq_iface_nil rfl und_20) rfl rfl rfl ?_
  refine RunL.nil ?_
  refine RunE.next ?_
  refine RunC.cond rfl ?_ (fun h => absurd h (by simp))
  intro c0
  clear c0
  refine RunC.seq ?_
  refine RunC.region ?_
  refine RunL.val (Val.pure rfl) rfl rfl rfl ?_
  refine RunL.val (Val.assert_ok rfl noif_149) rfl rfl rfl ?_
  iterate 3 refine RunL.val (Val.pure rfl) rfl rfl rfl ?_
  refine RunL.new (New.alloc zero_149) rfl rfl rfl (fun b3 => ?_)
  refine RunL.sto (Sto.store rfl rfl .here ty_149 rfl rfl) rfl rfl ?_
  refine RunL.val (Val.pure rfl) rfl rfl rfl ?_
  refine RunL.nil ?_
  refine RunE.next ?_
  refine RunC.seq ?_
  refine RunC.seq ?_
  refine RunC.region ?_
  refine RunL.val (Val.pure rfl) rfl rfl rfl ?_
  refine RunL.val (Val.pure rfl) rfl rfl rfl ?_
  refine RunL.nil ?_
  refine RunE.next ?_
  refine RunC.cond rfl (fun h => absurd h (by simp)) ?_
  intro c1
  clear c1
  refine RunC.skip ?_
  refine RunE.next ?_
  refine RunC.region ?_
  refine RunL.val (Val.pure rfl) rfl rfl rfl ?_
  refine RunL.val (Val.fieldAddr rfl fld_149_0) rfl rfl rfl ?_
  refine RunL.val (Val.load_one rfl (.tail _ (.head _)) ty_32 rfl) rfl rfl rfl ?_
  refine RunL.val (Val.pure rfl) rfl rfl rfl ?_
  refine RunL.sto (Sto.store_chg rfl rfl .here ty_32 rfl rfl) rfl rfl ?_
  refine RunL.nil ?_
  intro a w2 s
  exact ⟨s.defers, .panicking [{ v := misf k, recovered := true }], rfl, _, results_none rfl _ _ _, ⟨_, rfl⟩, rfl, s.mem.drop⟩
theorem catches : Catches Tryz.prog 67 32 misf := ⟨caught_calm, fun b k x w h => caught_wild b k x w h⟩
end Go.Proofs.YthoheicppmbepaaGreat
