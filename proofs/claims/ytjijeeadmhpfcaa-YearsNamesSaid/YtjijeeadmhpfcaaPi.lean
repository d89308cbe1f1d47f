/- Walks of package pair: sets and ranks. -/
import Derived.Test.YtjijeeadmhpfcaaPh
import Derived.Test.YtjijeeadmhpfcaaSpec3
set_option linter.unusedSimpArgs false
set_option linter.unusedVariables false
namespace Go.Proofs.Ytjijeeadmhpfcaa
open Go Go.Eng Go.Pw1

theorem ones64_calls (s : Nat) (hs : s < 4096) (W : World) : Calls Try.prog 80 #[.int .u64 (s : Int)] W (Pure (.int .i64 (oc s : Int)) W) := by
  have b1 := oc1_le s
  have b2' := oc2_le s
  have b3 := oc3a_le s
  have b3' := oc3_le s
  have b4 := oc4_le s
  have b5 := oc5_le s
  have b6 := oc6_le s
  have h1 := Nat.shiftRight_le s 1
  have h2 := Nat.shiftRight_le (oc1 s) 2
  refine calls_start Try.func80 rfl rfl ?_
  refine RunC.seq ?_
  refine RunC.region ?_
  refine RunL.val (Val.pure rfl) rfl rfl rfl ?_
  refine RunL.nil ?_
  refine RunE.next ?_
  refine RunC.seq ?_
  refine RunC.region ?_
  refine RunL.val (Val.pure rfl) rfl rfl rfl ?_
  refine RunL.val (Val.shrN (a := s) (b := 1) rfl rfl (by decide)) rfl rfl rfl ?_
  refine RunL.val (Val.and (a := s >>> 1) (b := 6148914691236517205) rfl rfl (by show _ < 18446744073709551616; omega) (by decide) (u64_in (by have := Nat.and_le_right (n := s >>> 1) (m := 6148914691236517205); omega))) rfl rfl rfl ?_
  refine RunL.val (Val.pure rfl) rfl rfl rfl ?_
  refine RunL.val (Val.and (a := s) (b := 6148914691236517205) rfl rfl (by show _ < 18446744073709551616; omega) (by decide) (u64_in (by have := Nat.and_le_right (n := s) (m := 6148914691236517205); omega))) rfl rfl rfl ?_
  refine RunL.val (Val.addN (oc1 s) rfl rfl rfl (u64_in (by omega))) rfl rfl rfl ?_
  refine RunL.val (Val.pure rfl) rfl rfl rfl ?_
  refine RunL.nil ?_
  refine RunE.next ?_
  refine RunC.seq ?_
  refine RunC.region ?_
  refine RunL.val (Val.pure rfl) rfl rfl rfl ?_
  refine RunL.val (Val.shrN (a := oc1 s) (b := 2) rfl rfl (by decide)) rfl rfl rfl ?_
  refine RunL.val (Val.and (a := oc1 s >>> 2) (b := 3689348814741910323) rfl rfl (by show _ < 18446744073709551616; omega) (by decide) (u64_in (by have := Nat.and_le_right (n := oc1 s >>> 2) (m := 3689348814741910323); omega))) rfl rfl rfl ?_
  refine RunL.val (Val.pure rfl) rfl rfl rfl ?_
  refine RunL.val (Val.and (a := oc1 s) (b := 3689348814741910323) rfl rfl (by show _ < 18446744073709551616; omega) (by decide) (u64_in (by have := Nat.and_le_right (n := oc1 s) (m := 3689348814741910323); omega))) rfl rfl rfl ?_
  refine RunL.val (Val.addN (oc2 s) rfl rfl rfl (u64_in (by omega))) rfl rfl rfl ?_
  refine RunL.val (Val.pure rfl) rfl rfl rfl ?_
  refine RunL.nil ?_
  refine RunE.next ?_
  refine RunC.seq ?_
  refine RunC.region ?_
  refine RunL.val (Val.pure rfl) rfl rfl rfl ?_
  refine RunL.val (Val.shrN (a := oc2 s) (b := 4) rfl rfl (by decide)) rfl rfl rfl ?_
  refine RunL.val (Val.pure rfl) rfl rfl rfl ?_
  refine RunL.val (Val.addN (oc3a s) rfl rfl rfl (u64_in (by omega))) rfl rfl rfl ?_
  refine RunL.val (Val.and (a := oc3a s) (b := 1085102592571150095) rfl rfl (by show _ < 18446744073709551616; omega) (by decide) (u64_in (by have := Nat.and_le_right (n := oc3a s) (m := 1085102592571150095); omega))) rfl rfl rfl ?_
  refine RunL.val (Val.pure rfl) rfl rfl rfl ?_
  refine RunL.nil ?_
  refine RunE.next ?_
  refine RunC.seq ?_
  refine RunC.region ?_
  refine RunL.val (Val.pure rfl) rfl rfl rfl ?_
  refine RunL.val (Val.pure rfl) rfl rfl rfl ?_
  refine RunL.val (Val.shrN (a := oc3 s) (b := 8) rfl rfl (by decide)) rfl rfl rfl ?_
  refine RunL.val (Val.addN (oc4 s) rfl rfl rfl (u64_in (by omega))) rfl rfl rfl ?_
  refine RunL.val (Val.pure rfl) rfl rfl rfl ?_
  refine RunL.nil ?_
  refine RunE.next ?_
  refine RunC.seq ?_
  refine RunC.region ?_
  refine RunL.val (Val.pure rfl) rfl rfl rfl ?_
  refine RunL.val (Val.pure rfl) rfl rfl rfl ?_
  refine RunL.val (Val.shrN (a := oc4 s) (b := 16) rfl rfl (by decide)) rfl rfl rfl ?_
  refine RunL.val (Val.addN (oc5 s) rfl rfl rfl (u64_in (by omega))) rfl rfl rfl ?_
  refine RunL.val (Val.pure rfl) rfl rfl rfl ?_
  refine RunL.nil ?_
  refine RunE.next ?_
  refine RunC.seq ?_
  refine RunC.region ?_
  refine RunL.val (Val.pure rfl) rfl rfl rfl ?_
  refine RunL.val (Val.pure rfl) rfl rfl rfl ?_
  refine RunL.val (Val.shrN (a := oc5 s) (b := 32) rfl rfl (by decide)) rfl rfl rfl ?_
  refine RunL.val (Val.addN (oc6 s) rfl rfl rfl (u64_in (by omega))) rfl rfl rfl ?_
  refine RunL.val (Val.pure rfl) rfl rfl rfl ?_
  refine RunL.nil ?_
  refine RunE.next ?_
  refine RunC.seq ?_
  refine RunC.region ?_
  refine RunL.val (Val.pure rfl) rfl rfl rfl ?_
  refine RunL.val (Val.convInt rfl und_126 und_3 (IntWalk.i64_in _ ⟨by omega, by omega⟩)) rfl rfl rfl ?_
  refine RunL.val (Val.and (a := oc6 s) (b := 127) rfl rfl (by show _ < 18446744073709551616; omega) (by decide) (i64_inN (by have := Nat.and_le_right (n := oc6 s) (m := 127); omega))) rfl rfl rfl ?_
  refine RunL.val (Val.pure rfl) rfl rfl rfl ?_
  refine RunL.nil ?_
  refine RunE.next ?_
  refine RunC.ret ?_
  exact RunE.retP (.r1 rfl (.tmp rfl)) (by first | rfl | simp)
theorem ones_calls (s : Nat) (hs : s < 4096) (W : World) : Calls Try.prog 55 #[.int .u64 (s : Int)] W (Pure (.int .i64 (pc s 12 : Int)) W) := by
  rw [← oc_eq hs]
  refine calls_start Try.func55 rfl rfl ?_
  refine RunC.seq ?_
  refine RunC.region ?_
  refine RunL.val (Val.pure rfl) rfl rfl rfl ?_
  refine RunL.nil ?_
  refine RunE.next ?_
  refine RunC.seq ?_
  refine RunC.cond_false rfl ?_
  refine RunC.skip ?_
  refine RunE.next ?_
  refine RunC.seq ?_
  refine RunC.region ?_
  refine RunL.val (Val.pure rfl) rfl rfl rfl ?_
  refine RunL.callP (isCall_func rfl ent_80) rfl rfl rfl (fun w hm => ones64_calls s hs w) ?_
  refine RunL.val (Val.pure rfl) rfl rfl rfl ?_
  refine RunL.nil ?_
  refine RunE.next ?_
  refine RunC.ret ?_
  exact RunE.retP (.r1 rfl (.tmp rfl)) (by first | rfl | simp)
def rankV (s : Nat) : Value := .agg #[.int .i64 (pc s 12 : Int), .int .u64 (s : Int)]
theorem befS_eq (s u : Nat) : befS s u = (!(decide ((pc s 12 : Int) = (pc u 12 : Int)) && decide ((s : Int) = (u : Int))) && (decide ((pc s 12 : Int) < (pc u 12 : Int)) || (decide ((pc s 12 : Int) = (pc u 12 : Int)) && decide ((s : Int) < (u : Int))))) := by
  unfold befS
  rw [Bool.eq_iff_iff]
  simp only [Bool.or_eq_true, Bool.and_eq_true, decide_eq_true_eq, Bool.not_eq_true', Bool.and_eq_false_iff, decide_eq_false_iff_not]
  omega
end Go.Proofs.Ytjijeeadmhpfcaa
