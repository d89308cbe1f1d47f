/- Walks of package years: the panic that is turned into an error. -/
import Derived.Test.YtjijeeadmhpfcaaYb
import Derived.Test.YtjijeeadmhpfcaaMore6
set_option linter.unusedSimpArgs false
set_option linter.unusedVariables false
namespace Go.Proofs.Ytjijeeadmhpfcaa
open Go Go.Eng Go.Pw1

theorem ycaught_nil (b : Nat) (W : World) : Calls Try.prog 34 #[.nilIface, .pointer (some ⟨b, 0, none⟩)] W (Pure (.tuple #[]) W) := by
  refine calls_start Try.func34 rfl rfl ?_
  refine RunC.seq ?_
  refine RunC.seq ?_
  refine RunC.region ?_
  refine RunL.val (Val.pure rfl) rfl rfl rfl ?_
  refine RunL.val (Val.eql_nil_nil rfl und_20) rfl rfl rfl ?_
  refine RunL.nil ?_
  refine RunE.next ?_
  refine RunC.cond rfl ?_ (fun h => absurd h (by simp))
  intro c0
  clear c0
  refine RunC.ret ?_
  refine RunE.pass_ret ?_
  exact RunE.retP (.r0 rfl) (by first | rfl | simp)
theorem ycaught_mis (b : Nat) (k : Int) (x : Value) (W : World) (hb : W.heap[b]? = some (.cells #[x] 31 (0, 0))) : Calls Try.prog 34 #[ymisf k, .pointer (some ⟨b, 0, none⟩)] W (Turns b (.cells #[.int .i64 k] 31 (0, 0)) (.tuple #[]) W) := by
  refine calls_start_chg hb Try.func34 rfl rfl ?_
  refine RunC.seq ?_
  refine RunC.seq ?_
  refine RunC.region ?_
  refine RunL.val (Val.pure rfl) rfl rfl rfl ?_
  refine RunL.val (Val.eql_iface_nil rfl und_20) rfl rfl rfl ?_
  refine RunL.nil ?_
  refine RunE.next ?_
  refine RunC.cond rfl (fun h => absurd h (by simp)) ?_
  intro c0
  clear c0
  refine RunC.skip ?_
  refine RunE.next ?_
  refine RunC.seq ?_
  refine RunC.region ?_
  refine RunL.val (Val.pure rfl) rfl rfl rfl ?_
  refine RunL.val (Val.assert_ok rfl noif_107) rfl rfl rfl ?_
  iterate 3 refine RunL.val (Val.pure rfl) rfl rfl rfl ?_
  refine RunL.new (New.alloc zero_107) rfl rfl rfl (fun b4 => ?_)
  refine RunL.sto (Sto.store rfl rfl .here ty_107 rfl rfl) rfl rfl ?_
  refine RunL.val (Val.pure rfl) rfl rfl rfl ?_
  refine RunL.nil ?_
  refine RunE.next ?_
  refine RunC.seq ?_
  refine RunC.seq ?_
  refine RunC.region ?_
  refine RunL.val (Val.pure rfl) rfl rfl rfl ?_
  refine RunL.val (Val.pure rfl) rfl rfl rfl ?_
  refine RunL.nil ?_
  refine RunE.next ?_
  refine RunC.cond rfl (fun h => absurd h (by simp)) ?_
  intro c1
  clear c1
  refine RunC.skip ?_
  refine RunE.next ?_
  refine RunC.region ?_
  refine RunL.val (Val.pure rfl) rfl rfl rfl ?_
  refine RunL.val (Val.fieldAddr rfl fld_107_0) rfl rfl rfl ?_
  refine RunL.val (Val.load_one rfl (.tail _ (.head _)) ty_31 rfl) rfl rfl rfl ?_
  refine RunL.val (Val.pure rfl) rfl rfl rfl ?_
  refine RunL.sto (Sto.store_chg rfl rfl .here ty_31 rfl rfl) rfl rfl ?_
  refine RunL.nil ?_
  exact RunE.fin (chg := [(b, _)]) (.r0 rfl) (fun _ hm => ⟨rfl, hm.drop⟩)
theorem yMoved_calm (b : Nat) (w : World) : CallsD Try.prog 33 #[.pointer (some ⟨b, 0, none⟩)] .returning w fun e u w' => (∃ v, e = .returned v) ∧ u = .returning ∧ Mem w [] [] w' := by
  refine callsD_of_wpS Try.func33 rfl fun c₀ cs hu => ?_
  refine wpS_region ?_
  simp [wpOpsS, go_sem, recoverD, hu, Try.ntmps33, Exit.thenS]
  refine (ycaught_nil b w).mono ?_
  rintro e w' ⟨rfl, hm⟩
  exact ⟨rfl, .returning, by rw [← hu], _, results_none rfl _ _ _, ⟨_, rfl⟩, rfl, hm⟩
theorem yMoved_wild (b : Nat) (k : Int) (x : Value) (w : World) (hb : w.heap[b]? = some (.cells #[x] 31 (0, 0))) : CallsD Try.prog 33 #[.pointer (some ⟨b, 0, none⟩)] (.panicking [{ v := ymisf k, recovered := false }]) w fun e u w' =>
    (∃ v, e = .returned v) ∧ u = .panicking [{ v := ymisf k, recovered := true }] ∧ Mem w [(b, .cells #[.int .i64 k] 31 (0, 0))] [] w' := by
  refine callsD_of_wpS Try.func33 rfl fun c₀ cs hu => ?_
  refine wpS_region ?_
  simp [wpOpsS, go_sem, recoverD, hu, Try.ntmps33, Exit.thenS]
  refine (ycaught_mis b k x w hb).mono ?_
  rintro e w' ⟨rfl, hm⟩
  exact ⟨rfl, .panicking [{ v := ymisf k, recovered := true }], rfl, _, results_none rfl _ _ _, ⟨_, rfl⟩, rfl, hm⟩
theorem yMoved_catches : Catches Try.prog 33 31 ymisf := ⟨yMoved_calm, fun b k x w h => yMoved_wild b k x w h⟩
theorem yHeights_calm (b : Nat) (w : World) : CallsD Try.prog 40 #[.pointer (some ⟨b, 0, none⟩)] .returning w fun e u w' => (∃ v, e = .returned v) ∧ u = .returning ∧ Mem w [] [] w' := by
  refine callsD_of_wpS Try.func40 rfl fun c₀ cs hu => ?_
  refine wpS_region ?_
  simp [wpOpsS, go_sem, recoverD, hu, Try.ntmps40, Exit.thenS]
  refine (ycaught_nil b w).mono ?_
  rintro e w' ⟨rfl, hm⟩
  exact ⟨rfl, .returning, by rw [← hu], _, results_none rfl _ _ _, ⟨_, rfl⟩, rfl, hm⟩
theorem yHeights_wild (b : Nat) (k : Int) (x : Value) (w : World) (hb : w.heap[b]? = some (.cells #[x] 31 (0, 0))) : CallsD Try.prog 40 #[.pointer (some ⟨b, 0, none⟩)] (.panicking [{ v := ymisf k, recovered := false }]) w fun e u w' =>
    (∃ v, e = .returned v) ∧ u = .panicking [{ v := ymisf k, recovered := true }] ∧ Mem w [(b, .cells #[.int .i64 k] 31 (0, 0))] [] w' := by
  refine callsD_of_wpS Try.func40 rfl fun c₀ cs hu => ?_
  refine wpS_region ?_
  simp [wpOpsS, go_sem, recoverD, hu, Try.ntmps40, Exit.thenS]
  refine (ycaught_mis b k x w hb).mono ?_
  rintro e w' ⟨rfl, hm⟩
  exact ⟨rfl, .panicking [{ v := ymisf k, recovered := true }], rfl, _, results_none rfl _ _ _, ⟨_, rfl⟩, rfl, hm⟩
theorem yHeights_catches : Catches Try.prog 40 31 ymisf := ⟨yHeights_calm, fun b k x w h => yHeights_wild b k x w h⟩
theorem ySank_calm (b : Nat) (w : World) : CallsD Try.prog 45 #[.pointer (some ⟨b, 0, none⟩)] .returning w fun e u w' => (∃ v, e = .returned v) ∧ u = .returning ∧ Mem w [] [] w' := by
  refine callsD_of_wpS Try.func45 rfl fun c₀ cs hu => ?_
  refine wpS_region ?_
  simp [wpOpsS, go_sem, recoverD, hu, Try.ntmps45, Exit.thenS]
  refine (ycaught_nil b w).mono ?_
  rintro e w' ⟨rfl, hm⟩
  exact ⟨rfl, .returning, by rw [← hu], _, results_none rfl _ _ _, ⟨_, rfl⟩, rfl, hm⟩
theorem ySank_wild (b : Nat) (k : Int) (x : Value) (w : World) (hb : w.heap[b]? = some (.cells #[x] 31 (0, 0))) : CallsD Try.prog 45 #[.pointer (some ⟨b, 0, none⟩)] (.panicking [{ v := ymisf k, recovered := false }]) w fun e u w' =>
    (∃ v, e = .returned v) ∧ u = .panicking [{ v := ymisf k, recovered := true }] ∧ Mem w [(b, .cells #[.int .i64 k] 31 (0, 0))] [] w' := by
  refine callsD_of_wpS Try.func45 rfl fun c₀ cs hu => ?_
  refine wpS_region ?_
  simp [wpOpsS, go_sem, recoverD, hu, Try.ntmps45, Exit.thenS]
  refine (ycaught_mis b k x w hb).mono ?_
  rintro e w' ⟨rfl, hm⟩
  exact ⟨rfl, .panicking [{ v := ymisf k, recovered := true }], rfl, _, results_none rfl _ _ _, ⟨_, rfl⟩, rfl, hm⟩
theorem ySank_catches : Catches Try.prog 45 31 ymisf := ⟨ySank_calm, fun b k x w h => ySank_wild b k x w h⟩
theorem yRate_calm (b : Nat) (w : World) : CallsD Try.prog 46 #[.pointer (some ⟨b, 0, none⟩)] .returning w fun e u w' => (∃ v, e = .returned v) ∧ u = .returning ∧ Mem w [] [] w' := by
  refine callsD_of_wpS Try.func46 rfl fun c₀ cs hu => ?_
  refine wpS_region ?_
  simp [wpOpsS, go_sem, recoverD, hu, Try.ntmps46, Exit.thenS]
  refine (ycaught_nil b w).mono ?_
  rintro e w' ⟨rfl, hm⟩
  exact ⟨rfl, .returning, by rw [← hu], _, results_none rfl _ _ _, ⟨_, rfl⟩, rfl, hm⟩
theorem yRate_wild (b : Nat) (k : Int) (x : Value) (w : World) (hb : w.heap[b]? = some (.cells #[x] 31 (0, 0))) : CallsD Try.prog 46 #[.pointer (some ⟨b, 0, none⟩)] (.panicking [{ v := ymisf k, recovered := false }]) w fun e u w' =>
    (∃ v, e = .returned v) ∧ u = .panicking [{ v := ymisf k, recovered := true }] ∧ Mem w [(b, .cells #[.int .i64 k] 31 (0, 0))] [] w' := by
  refine callsD_of_wpS Try.func46 rfl fun c₀ cs hu => ?_
  refine wpS_region ?_
  simp [wpOpsS, go_sem, recoverD, hu, Try.ntmps46, Exit.thenS]
  refine (ycaught_mis b k x w hb).mono ?_
  rintro e w' ⟨rfl, hm⟩
  exact ⟨rfl, .panicking [{ v := ymisf k, recovered := true }], rfl, _, results_none rfl _ _ _, ⟨_, rfl⟩, rfl, hm⟩
theorem yRate_catches : Catches Try.prog 46 31 ymisf := ⟨yRate_calm, fun b k x w h => yRate_wild b k x w h⟩
theorem yArrives_calm (b : Nat) (w : World) : CallsD Try.prog 58 #[.pointer (some ⟨b, 0, none⟩)] .returning w fun e u w' => (∃ v, e = .returned v) ∧ u = .returning ∧ Mem w [] [] w' := by
  refine callsD_of_wpS Try.func58 rfl fun c₀ cs hu => ?_
  refine wpS_region ?_
  simp [wpOpsS, go_sem, recoverD, hu, Try.ntmps58, Exit.thenS]
  refine (ycaught_nil b w).mono ?_
  rintro e w' ⟨rfl, hm⟩
  exact ⟨rfl, .returning, by rw [← hu], _, results_none rfl _ _ _, ⟨_, rfl⟩, rfl, hm⟩
theorem yArrives_wild (b : Nat) (k : Int) (x : Value) (w : World) (hb : w.heap[b]? = some (.cells #[x] 31 (0, 0))) : CallsD Try.prog 58 #[.pointer (some ⟨b, 0, none⟩)] (.panicking [{ v := ymisf k, recovered := false }]) w fun e u w' =>
    (∃ v, e = .returned v) ∧ u = .panicking [{ v := ymisf k, recovered := true }] ∧ Mem w [(b, .cells #[.int .i64 k] 31 (0, 0))] [] w' := by
  refine callsD_of_wpS Try.func58 rfl fun c₀ cs hu => ?_
  refine wpS_region ?_
  simp [wpOpsS, go_sem, recoverD, hu, Try.ntmps58, Exit.thenS]
  refine (ycaught_mis b k x w hb).mono ?_
  rintro e w' ⟨rfl, hm⟩
  exact ⟨rfl, .panicking [{ v := ymisf k, recovered := true }], rfl, _, results_none rfl _ _ _, ⟨_, rfl⟩, rfl, hm⟩
theorem yArrives_catches : Catches Try.prog 58 31 ymisf := ⟨yArrives_calm, fun b k x w h => yArrives_wild b k x w h⟩
theorem yStays_calmIn (b : Nat) (w : World) : CallsDIn Fence.wide 8 Try.prog 62 #[.pointer (some ⟨b, 0, none⟩)] .returning w fun e u w' => (∃ v, e = .returned v) ∧ u = .returning ∧ Mem w [] [] w' := by
  refine callsDIn_wide_of_wpS Try.func62 rfl fun c₀ cs hu => ?_
  refine wpS_region ?_
  simp [wpOpsS, go_sem, recoverD, hu, Try.ntmps62, Exit.thenS]
  refine (ycaught_nil b w).mono ?_
  rintro e w' ⟨rfl, hm⟩
  exact ⟨rfl, .returning, by rw [← hu], _, results_none rfl _ _ _, ⟨_, rfl⟩, rfl, hm⟩
theorem yStays_wildIn (b : Nat) (k : Int) (x : Value) (w : World) (hb : w.heap[b]? = some (.cells #[x] 31 (0, 0))) : CallsDIn Fence.wide 8 Try.prog 62 #[.pointer (some ⟨b, 0, none⟩)] (.panicking [{ v := ymisf k, recovered := false }]) w fun e u w' =>
    (∃ v, e = .returned v) ∧ u = .panicking [{ v := ymisf k, recovered := true }] ∧ Mem w [(b, .cells #[.int .i64 k] 31 (0, 0))] [] w' := by
  refine callsDIn_wide_of_wpS Try.func62 rfl fun c₀ cs hu => ?_
  refine wpS_region ?_
  simp [wpOpsS, go_sem, recoverD, hu, Try.ntmps62, Exit.thenS]
  refine (ycaught_mis b k x w hb).mono ?_
  rintro e w' ⟨rfl, hm⟩
  exact ⟨rfl, .panicking [{ v := ymisf k, recovered := true }], rfl, _, results_none rfl _ _ _, ⟨_, rfl⟩, rfl, hm⟩
theorem yStays_catches : CatchesIn Try.prog 62 31 ymisf := ⟨yStays_calmIn, fun b k x w h => yStays_wildIn b k x w h⟩
theorem yFastest_calmIn (b : Nat) (w : World) : CallsDIn Fence.wide 8 Try.prog 65 #[.pointer (some ⟨b, 0, none⟩)] .returning w fun e u w' => (∃ v, e = .returned v) ∧ u = .returning ∧ Mem w [] [] w' := by
  refine callsDIn_wide_of_wpS Try.func65 rfl fun c₀ cs hu => ?_
  refine wpS_region ?_
  simp [wpOpsS, go_sem, recoverD, hu, Try.ntmps65, Exit.thenS]
  refine (ycaught_nil b w).mono ?_
  rintro e w' ⟨rfl, hm⟩
  exact ⟨rfl, .returning, by rw [← hu], _, results_none rfl _ _ _, ⟨_, rfl⟩, rfl, hm⟩
theorem yFastest_wildIn (b : Nat) (k : Int) (x : Value) (w : World) (hb : w.heap[b]? = some (.cells #[x] 31 (0, 0))) : CallsDIn Fence.wide 8 Try.prog 65 #[.pointer (some ⟨b, 0, none⟩)] (.panicking [{ v := ymisf k, recovered := false }]) w fun e u w' =>
    (∃ v, e = .returned v) ∧ u = .panicking [{ v := ymisf k, recovered := true }] ∧ Mem w [(b, .cells #[.int .i64 k] 31 (0, 0))] [] w' := by
  refine callsDIn_wide_of_wpS Try.func65 rfl fun c₀ cs hu => ?_
  refine wpS_region ?_
  simp [wpOpsS, go_sem, recoverD, hu, Try.ntmps65, Exit.thenS]
  refine (ycaught_mis b k x w hb).mono ?_
  rintro e w' ⟨rfl, hm⟩
  exact ⟨rfl, .panicking [{ v := ymisf k, recovered := true }], rfl, _, results_none rfl _ _ _, ⟨_, rfl⟩, rfl, hm⟩
theorem yFastest_catches : CatchesIn Try.prog 65 31 ymisf := ⟨yFastest_calmIn, fun b k x w h => yFastest_wildIn b k x w h⟩
theorem yAlike_calmIn (b : Nat) (w : World) : CallsDIn Fence.wide 8 Try.prog 52 #[.pointer (some ⟨b, 0, none⟩)] .returning w fun e u w' => (∃ v, e = .returned v) ∧ u = .returning ∧ Mem w [] [] w' := by
  refine callsDIn_wide_of_wpS Try.func52 rfl fun c₀ cs hu => ?_
  refine wpS_region ?_
  simp [wpOpsS, go_sem, recoverD, hu, Try.ntmps52, Exit.thenS]
  refine (ycaught_nil b w).mono ?_
  rintro e w' ⟨rfl, hm⟩
  exact ⟨rfl, .returning, by rw [← hu], _, results_none rfl _ _ _, ⟨_, rfl⟩, rfl, hm⟩
theorem yAlike_wildIn (b : Nat) (k : Int) (x : Value) (w : World) (hb : w.heap[b]? = some (.cells #[x] 31 (0, 0))) : CallsDIn Fence.wide 8 Try.prog 52 #[.pointer (some ⟨b, 0, none⟩)] (.panicking [{ v := ymisf k, recovered := false }]) w fun e u w' =>
    (∃ v, e = .returned v) ∧ u = .panicking [{ v := ymisf k, recovered := true }] ∧ Mem w [(b, .cells #[.int .i64 k] 31 (0, 0))] [] w' := by
  refine callsDIn_wide_of_wpS Try.func52 rfl fun c₀ cs hu => ?_
  refine wpS_region ?_
  simp [wpOpsS, go_sem, recoverD, hu, Try.ntmps52, Exit.thenS]
  refine (ycaught_mis b k x w hb).mono ?_
  rintro e w' ⟨rfl, hm⟩
  exact ⟨rfl, .panicking [{ v := ymisf k, recovered := true }], rfl, _, results_none rfl _ _ _, ⟨_, rfl⟩, rfl, hm⟩
theorem yAlike_catches : CatchesIn Try.prog 52 31 ymisf := ⟨yAlike_calmIn, fun b k x w h => yAlike_wildIn b k x w h⟩
end Go.Proofs.Ytjijeeadmhpfcaa
