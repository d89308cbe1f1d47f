/- Walks of package pair: sets and ranks. -/
import Derived.Test.YthppnhjggdebbaaPh
import Derived.Test.YthppnhjggdebbaaSpec3
set_option linter.unusedSimpArgs false
set_option linter.unusedVariables false
namespace Go.Proofs.Ythppnhjggdebbaa
open Go Go.Eng Go.Pw1

theorem ones64_calls (s : Nat) (hs : s < 4096) (W : World) : Calls Try.prog 90 #[.int .u64 (s : Int)] W (Pure (.int .i64 (oc s : Int)) W) := by
  have b1 := oc1_le s
  have b2' := oc2_le s
  have b3 := oc3a_le s
  have b3' := oc3_le s
  have b4 := oc4_le s
  have b5 := oc5_le s
  have b6 := oc6_le s
  have h1 := Nat.shiftRight_le s 1
  have h2 := Nat.shiftRight_le (oc1 s) 2
  refine calls_start Try.func90 rfl rfl ?_
  refine RunC.seq ?_
  refine RunC.region ?_
  refine RunL.val (Val.pure rfl) rfl rfl rfl ?_
  refine RunL.nil ?_
  refine RunE.next ?_
  refine RunC.seq ?_
  refine RunC.region ?_
  refine RunL.val (Val.pure rfl) rfl rfl rfl ?_
  refine RunL.val (Val.shrN (a := s) (b := 1) rfl rfl (by decide)) rfl rfl rfl ?_
  refine RunL.val (Val.and (a := s >>> 1) (b := 6148914691236517205) rfl rfl (by show _ < 18446744073709551616; omega) (by decide) (u64_in (by have := Nat.and_le_right (n := s >>> 1) (m := 6148914691236517205); omega))) rfl rfl rfl ?_
  refine RunL.val (Val.pure rfl) rfl rfl rfl ?_
  refine RunL.val (Val.and (a := s) (b := 6148914691236517205) rfl rfl (by show _ < 18446744073709551616; omega) (by decide) (u64_in (by have := Nat.and_le_right (n := s) (m := 6148914691236517205); omega))) rfl rfl rfl ?_
  refine RunL.val (Val.addN (oc1 s) rfl rfl rfl (u64_in (by omega))) rfl rfl rfl ?_
  refine RunL.val (Val.pure rfl) rfl rfl rfl ?_
  refine RunL.nil ?_
  refine RunE.next ?_
  refine RunC.seq ?_
  refine RunC.region ?_
  refine RunL.val (Val.pure rfl) rfl rfl rfl ?_
  refine RunL.val (Val.shrN (a := oc1 s) (b := 2) rfl rfl (by decide)) rfl rfl rfl ?_
  refine RunL.val (Val.and (a := oc1 s >>> 2) (b := 3689348814741910323) rfl rfl (by show _ < 18446744073709551616; omega) (by decide) (u64_in (by have := Nat.and_le_right (n := oc1 s >>> 2) (m := 3689348814741910323); omega))) rfl rfl rfl ?_
  refine RunL.val (Val.pure rfl) rfl rfl rfl ?_
  refine RunL.val (Val.and (a := oc1 s) (b := 3689348814741910323) rfl rfl (by show _ < 18446744073709551616; omega) (by decide) (u64_in (by have := Nat.and_le_right (n := oc1 s) (m := 3689348814741910323); omega))) rfl rfl rfl ?_
  refine RunL.val (Val.addN (oc2 s) rfl rfl rfl (u64_in (by omega))) rfl rfl rfl ?_
  refine RunL.val (Val.pure rfl) rfl rfl rfl ?_
  refine RunL.nil ?_
  refine RunE.next ?_
  refine RunC.seq ?_
  refine RunC.region ?_
  refine RunL.val (Val.pure rfl) rfl rfl rfl ?_
  refine RunL.val (Val.shrN (a := oc2 s) (b := 4) rfl rfl (by decide)) rfl rfl rfl ?_
  refine RunL.val (Val.pure rfl) rfl rfl rfl ?_
  refine RunL.val (Val.addN (oc3a s) rfl rfl rfl (u64_in (by omega))) rfl rfl rfl ?_
  refine RunL.val (Val.and (a := oc3a s) (b := 1085102592571150095) rfl rfl (by show _ < 18446744073709551616; omega) (by decide) (u64_in (by have := Nat.and_le_right (n := oc3a s) (m := 1085102592571150095); omega))) rfl rfl rfl ?_
  refine RunL.val (Val.pure rfl) rfl rfl rfl ?_
  refine RunL.nil ?_
  refine RunE.next ?_
  refine RunC.seq ?_
  refine RunC.region ?_
  refine RunL.val (Val.pure rfl) rfl rfl rfl ?_
  refine RunL.val (Val.pure rfl) rfl rfl rfl ?_
  refine RunL.val (Val.shrN (a := oc3 s) (b := 8) rfl rfl (by decide)) rfl rfl rfl ?_
  refine RunL.val (Val.addN (oc4 s) rfl rfl rfl (u64_in (by omega))) rfl rfl rfl ?_
  refine RunL.val (Val.pure rfl) rfl rfl rfl ?_
  refine RunL.nil ?_
  refine RunE.next ?_
  refine RunC.seq ?_
  refine RunC.region ?_
  refine RunL.val (Val.pure rfl) rfl rfl rfl ?_
  refine RunL.val (Val.pure rfl) rfl rfl rfl ?_
  refine RunL.val (Val.shrN (a := oc4 s) (b := 16) rfl rfl (by decide)) rfl rfl rfl ?_
  refine RunL.val (Val.addN (oc5 s) rfl rfl rfl (u64_in (by omega))) rfl rfl rfl ?_
  refine RunL.val (Val.pure rfl) rfl rfl rfl ?_
  refine RunL.nil ?_
  refine RunE.next ?_
  refine RunC.seq ?_
  refine RunC.region ?_
  refine RunL.val (Val.pure rfl) rfl rfl rfl ?_
  refine RunL.val (Val.pure rfl) rfl rfl rfl ?_
  refine RunL.val (Val.shrN (a := oc5 s) (b := 32) rfl rfl (by decide)) rfl rfl rfl ?_
  refine RunL.val (Val.addN (oc6 s) rfl rfl rfl (u64_in (by omega))) rfl rfl rfl ?_
  refine RunL.val (Val.pure rfl) rfl rfl rfl ?_
  refine RunL.nil ?_
  refine RunE.next ?_
  refine RunC.seq ?_
  refine RunC.region ?_
  refine RunL.val (Val.pure rfl) rfl rfl rfl ?_
  refine RunL.val (Val.convInt rfl und_127 und_3 (IntWalk.i64_in _ ⟨by omega, by omega⟩)) rfl rfl rfl ?_
  refine RunL.val (Val.and (a := oc6 s) (b := 127) rfl rfl (by show _ < 18446744073709551616; omega) (by decide) (i64_inN (by have := Nat.and_le_right (n := oc6 s) (m := 127); omega))) rfl rfl rfl ?_
  refine RunL.val (Val.pure rfl) rfl rfl rfl ?_
  refine RunL.nil ?_
  refine RunE.next ?_
  refine RunC.ret ?_
  exact RunE.retP (.r1 rfl (.tmp rfl)) (by first | rfl | simp)
theorem ones_calls (s : Nat) (hs : s < 4096) (W : World) : Calls Try.prog 81 #[.int .u64 (s : Int)] W (Pure (.int .i64 (pc s 12 : Int)) W) := by
  rw [← oc_eq hs]
  refine calls_start Try.func81 rfl rfl ?_
  refine RunC.seq ?_
  refine RunC.region ?_
  refine RunL.val (Val.pure rfl) rfl rfl rfl ?_
  refine RunL.nil ?_
  refine RunE.next ?_
  refine RunC.seq ?_
  refine RunC.cond_false rfl ?_
  refine RunC.skip ?_
  refine RunE.next ?_
  refine RunC.seq ?_
  refine RunC.region ?_
  refine RunL.val (Val.pure rfl) rfl rfl rfl ?_
  refine RunL.callP (isCall_func rfl ent_90) rfl rfl rfl (fun w hm => ones64_calls s hs w) ?_
  refine RunL.val (Val.pure rfl) rfl rfl rfl ?_
  refine RunL.nil ?_
  refine RunE.next ?_
  refine RunC.ret ?_
  exact RunE.retP (.r1 rfl (.tmp rfl)) (by first | rfl | simp)
def rankV (s : Nat) : Value := .agg #[.int .i64 (pc s 12 : Int), .int .u64 (s : Int)]
theorem rankOf_calls (s : Nat) (hs : s < 4096) (W : World) : Calls Try.prog 66 #[.int .u64 (s : Int)] W (Pure (rankV s) W) := by
  refine calls_start Try.func66 rfl rfl ?_
  refine RunC.seq ?_
  refine RunC.region ?_
  refine RunL.new (New.alloc zero_96) rfl rfl rfl (fun b2 => ?_)
  refine RunL.nil ?_
  refine RunE.next ?_
  refine RunC.seq ?_
  refine RunC.region ?_
  refine RunL.val (Val.pure rfl) rfl rfl rfl ?_
  refine RunL.callP (isCall_func rfl ent_81) rfl rfl rfl (fun w hm => ones_calls s hs w) ?_
  refine RunL.val (Val.pure rfl) rfl rfl rfl ?_
  refine RunL.val (Val.build (parts := [(0, .tmp 4), (1, .tmp 5)]) rfl zero_96 places_96 rfl) rfl rfl rfl ?_
  refine RunL.sto (Sto.store rfl rfl .here ty_96 rfl rfl) rfl rfl ?_
  refine RunL.nil ?_
  refine RunE.next ?_
  refine RunC.ret ?_
  exact RunE.retP (.r1 rfl (.agg rfl (.head _) ty_96 rfl)) (by first | rfl | simp)
theorem with_calls (s i : Nat) (hs : s < 4096) (hi : i < 12) (W : World) : Calls Try.prog 82 #[.int .u64 (s : Int), .int .i64 (i : Int)] W (Pure (.int .u64 ((s ||| 2 ^ i : Nat) : Int)) W) := by
  have h1 : 2 ^ i < 2 ^ 12 := Nat.pow_lt_pow_right (a := 2) (by decide) hi
  have h2 : s ||| 2 ^ i < 2 ^ 12 := Nat.or_lt_two_pow hs h1
  refine calls_start Try.func82 rfl rfl ?_
  refine RunC.seq ?_
  refine RunC.region ?_
  refine RunL.val (Val.pure rfl) rfl rfl rfl ?_
  refine RunL.nil ?_
  refine RunE.next ?_
  refine RunC.seq ?_
  refine RunC.region ?_
  refine RunL.val (Val.pure rfl) rfl rfl rfl ?_
  refine RunL.val (Val.pure rfl) rfl rfl rfl ?_
  refine RunL.val (Val.shl1 (b := i) rfl rfl (by show i ≤ 64; omega) (u64_in (n := 2 ^ i) (by omega))) rfl rfl rfl ?_
  refine RunL.val (Val.or (a := s) (b := 2 ^ i) rfl rfl (by show s < 18446744073709551616; omega) (by show 2 ^ i < 18446744073709551616; omega) (u64_in (n := s ||| 2 ^ i) (by omega))) rfl rfl rfl ?_
  refine RunL.val (Val.pure rfl) rfl rfl rfl ?_
  refine RunL.nil ?_
  refine RunE.next ?_
  refine RunC.ret ?_
  exact RunE.retP (.r1 rfl (.tmp rfl)) (by first | rfl | simp)
theorem befS_eq (s u : Nat) : befS s u = (!(decide ((pc s 12 : Int) = (pc u 12 : Int)) && decide ((s : Int) = (u : Int))) && (decide ((pc s 12 : Int) < (pc u 12 : Int)) || (decide ((pc s 12 : Int) = (pc u 12 : Int)) && decide ((s : Int) < (u : Int))))) := by
  unfold befS
  rw [Bool.eq_iff_iff]
  simp only [Bool.or_eq_true, Bool.and_eq_true, decide_eq_true_eq, Bool.not_eq_true', Bool.and_eq_false_iff, decide_eq_false_iff_not]
  omega
theorem before_calls (s u : Nat) (W : World) : Calls Try.prog 68 #[rankV s, rankV u] W (Pure (.bool (befS s u)) W) := by
  refine calls_start Try.func68 rfl rfl ?_
  refine RunC.seq ?_
  refine RunC.region ?_
  refine RunL.new (New.box rfl) rfl rfl rfl (fun b2 => ?_)
  refine RunL.new (New.box rfl) rfl rfl rfl (fun b3 => ?_)
  refine RunL.val (Val.pure rfl) rfl rfl rfl ?_
  refine RunL.nil ?_
  refine RunE.next ?_
  refine RunC.seq ?_
  refine RunC.region ?_
  refine RunL.val (Val.load_agg rfl (.tail _ (.head _)) ty_96 rfl) rfl rfl rfl ?_
  refine RunL.val (Val.load_agg rfl (.head _) ty_96 rfl) rfl rfl rfl ?_
  refine RunL.val (Val.neq_pair rfl rfl pair_96) rfl rfl rfl ?_
  refine RunL.val (Val.pure rfl) rfl rfl rfl ?_
  refine RunL.andPart (dj := 8) (dp := 28) (x := decide ((pc s 12 : Int) < (pc u 12 : Int)) || (decide ((pc s 12 : Int) = (pc u 12 : Int)) && decide ((s : Int) < (u : Int)))) 20 rfl (fun g8 => by
    have g8' := g8
    try simp only [decide_eq_true_eq, decide_eq_false_iff_not, Bool.not_eq_true', Bool.not_eq_false', Bool.and_eq_true, Bool.or_eq_true, Bool.and_eq_false_iff, Bool.or_eq_false_iff, Int.not_le, Int.not_lt] at g8'
    refine RunL.val (Val.fieldAddr rfl fld_96_0) rfl rfl rfl ?_
    refine RunL.val (Val.load_one rfl (.tail _ (.head _)) ty_3 rfl) rfl rfl rfl ?_
    refine RunL.val (Val.fieldAddr rfl fld_96_0) rfl rfl rfl ?_
    refine RunL.val (Val.load_one rfl (.head _) ty_3 rfl) rfl rfl rfl ?_
    refine RunL.val (Val.pure rfl) rfl rfl rfl ?_
    refine RunL.val (Val.pure rfl) rfl rfl rfl ?_
    refine RunL.orPart (dj := 14) (dp := 27) (x := decide ((pc s 12 : Int) = (pc u 12 : Int)) && decide ((s : Int) < (u : Int))) 13 rfl (fun g14 => by
      have g14' := g14
      try simp only [decide_eq_true_eq, decide_eq_false_iff_not, Bool.not_eq_true', Bool.not_eq_false', Bool.and_eq_true, Bool.or_eq_true, Bool.and_eq_false_iff, Bool.or_eq_false_iff, Int.not_le, Int.not_lt] at g14'
      refine RunL.val (Val.fieldAddr rfl fld_96_0) rfl rfl rfl ?_
      refine RunL.val (Val.load_one rfl (.tail _ (.head _)) ty_3 rfl) rfl rfl rfl ?_
      refine RunL.val (Val.fieldAddr rfl fld_96_0) rfl rfl rfl ?_
      refine RunL.val (Val.load_one rfl (.head _) ty_3 rfl) rfl rfl rfl ?_
      refine RunL.val (Val.pure rfl) rfl rfl rfl ?_
      refine RunL.val (Val.pure rfl) rfl rfl rfl ?_
      refine RunL.andPart (dj := 20) (dp := 26) (x := decide ((s : Int) < (u : Int))) 6 rfl (fun g20 => by
        have g20' := g20
        try simp only [decide_eq_true_eq, decide_eq_false_iff_not, Bool.not_eq_true', Bool.not_eq_false', Bool.and_eq_true, Bool.or_eq_true, Bool.and_eq_false_iff, Bool.or_eq_false_iff, Int.not_le, Int.not_lt] at g20'
        refine RunL.val (Val.fieldAddr rfl fld_96_1) rfl rfl rfl ?_
        refine RunL.val (Val.load_one rfl (.tail _ (.head _)) ty_94 rfl) rfl rfl rfl ?_
        refine RunL.val (Val.fieldAddr rfl fld_96_1) rfl rfl rfl ?_
        refine RunL.val (Val.load_one rfl (.head _) ty_94 rfl) rfl rfl rfl ?_
        refine RunL.val (Val.pure rfl) rfl rfl rfl ?_
        refine RunL.val (Val.pure rfl) rfl rfl rfl ?_
        exact RunL.segEnd (Sub.cons rfl (Sub.skip rfl (Sub.skip rfl (Sub.skip rfl (Sub.skip rfl (Sub.skip rfl (Sub.skip rfl (Sub.same rfl (by rw [g20]) (Sub.refl _))))))))) (List.Sublist.refl _)
      ) (fun g20 => by
        have g20' := g20
        try simp only [decide_eq_true_eq, decide_eq_false_iff_not, Bool.not_eq_true', Bool.not_eq_false', Bool.and_eq_true, Bool.or_eq_true, Bool.and_eq_false_iff, Bool.or_eq_false_iff, Int.not_le, Int.not_lt] at g20'
        iterate 5 refine RunL.no rfl rfl rfl ?_
        refine RunL.val (Val.pure rfl) rfl rfl rfl ?_
        exact RunL.segEnd (Sub.cons rfl (Sub.skip rfl (Sub.skip rfl (Sub.skip rfl (Sub.skip rfl (Sub.skip rfl (Sub.skip rfl (Sub.same rfl (by rw [g20]) (Sub.refl _))))))))) (List.Sublist.refl _)
      ) ?_
      refine RunL.val (Val.pure rfl) rfl rfl rfl ?_
      exact RunL.segEnd (Sub.cons rfl (Sub.skip rfl (Sub.skip rfl (Sub.skip rfl (Sub.skip rfl (Sub.skip rfl (Sub.skip rfl (Sub.skip rfl (Sub.skip rfl (Sub.same rfl (by rw [g14]) (Sub.refl _))))))))))) (List.Sublist.refl _)
    ) (fun g14 => by
      have g14' := g14
      try simp only [decide_eq_true_eq, decide_eq_false_iff_not, Bool.not_eq_true', Bool.not_eq_false', Bool.and_eq_true, Bool.or_eq_true, Bool.and_eq_false_iff, Bool.or_eq_false_iff, Int.not_le, Int.not_lt] at g14'
      iterate 12 refine RunL.no rfl rfl rfl ?_
      refine RunL.val (Val.pure rfl) rfl rfl rfl ?_
      exact RunL.segEnd (Sub.cons rfl (Sub.skip rfl (Sub.skip rfl (Sub.skip rfl (Sub.skip rfl (Sub.skip rfl (Sub.skip rfl (Sub.skip rfl (Sub.skip rfl (Sub.skip rfl (Sub.skip rfl (Sub.skip rfl (Sub.skip rfl (Sub.skip rfl (Sub.same rfl (by rw [g14]) (Sub.refl _)))))))))))))))) (List.Sublist.refl _)
    ) ?_
    refine RunL.val (Val.pure rfl) rfl rfl rfl ?_
    exact RunL.segEnd (Sub.cons rfl (Sub.skip rfl (Sub.skip rfl (Sub.skip rfl (Sub.skip rfl (Sub.skip rfl (Sub.skip rfl (Sub.skip rfl (Sub.skip rfl (Sub.same rfl (by rw [g8]) (Sub.refl _))))))))))) (List.Sublist.refl _)
  ) (fun g8 => by
    have g8' := g8
    try simp only [decide_eq_true_eq, decide_eq_false_iff_not, Bool.not_eq_true', Bool.not_eq_false', Bool.and_eq_true, Bool.or_eq_true, Bool.and_eq_false_iff, Bool.or_eq_false_iff, Int.not_le, Int.not_lt] at g8'
    iterate 19 refine RunL.no rfl rfl rfl ?_
    refine RunL.val (Val.pure rfl) rfl rfl rfl ?_
    exact RunL.segEnd (Sub.cons rfl (Sub.skip rfl (Sub.skip rfl (Sub.skip rfl (Sub.skip rfl (Sub.skip rfl (Sub.skip rfl (Sub.skip rfl (Sub.skip rfl (Sub.skip rfl (Sub.skip rfl (Sub.skip rfl (Sub.skip rfl (Sub.skip rfl (Sub.skip rfl (Sub.skip rfl (Sub.skip rfl (Sub.skip rfl (Sub.skip rfl (Sub.skip rfl (Sub.skip rfl (Sub.same rfl (by rw [g8]) (Sub.refl _))))))))))))))))))))))) (List.Sublist.refl _)
  ) ?_
  refine RunL.val (Val.pure rfl) rfl rfl rfl ?_
  refine RunL.nil ?_
  refine RunE.next ?_
  refine RunC.ret ?_
  exact RunE.retP (.r1 rfl (.tmp rfl)) (by rw [befS_eq])
theorem moved_calls (p : Pr) (hp : p.Ok) (q : Option Addr) (b o cap : Nat) (pw : Int × Int) (x : Int) (bv : Nat) (W : World) (hV : W.heap[bv]? = some (.cells (vwCells p q cap pw).toArray 72 (0, 0))) (hS : Sl W q b o 9 (p.things.map Th.cells)) :
    Calls Try.prog 67 #[.pointer (some ⟨bv, 0, none⟩), .int .i64 x] W (Pure (.int .u64 (movedS p x : Int)) W) := by
  have hlen := hp.len
  refine calls_start Try.func67 rfl rfl ?_
  refine RunC.seq ?_
  refine RunC.region ?_
  refine RunL.val (Val.pure rfl) rfl rfl rfl ?_
  refine RunL.nil ?_
  refine RunE.next ?_
  refine RunC.seq ?_
  refine RunC.region ?_
  refine RunL.val (Val.pure rfl) rfl rfl rfl ?_
  refine RunL.nil ?_
  refine RunE.next ?_
  refine RunC.seq ?_
  refine RunC.seq ?_
  refine RunC.region ?_
  refine RunL.val (Val.pure rfl) rfl rfl rfl ?_
  refine RunL.val (Val.pure rfl) rfl rfl rfl ?_
  refine RunL.val (Val.fieldAddr rfl fld_72_0) rfl rfl rfl ?_
  refine RunL.val (Val.fieldAddr rfl fld_26_5) rfl rfl rfl ?_
  refine RunL.val (Val.oload_one rfl hV (by simp) ty_24 rfl) rfl rfl rfl ?_
  refine RunL.val (Val.len_sl rfl sl_24) rfl rfl rfl ?_
  refine RunL.val (Val.pure rfl) rfl rfl rfl ?_
  refine RunL.nil ?_
  refine RunE.next ?_
  refine RunC.block ?_
  refine RunC.loopK (p.things.length) (fun k q => (16, .int .i64 (k : Int)) :: (4, .int .u64 ((movedK p x k : Nat) : Int)) :: q) (fun _ => _) (fun _ => []) (fun _ => True) trivial rfl (Sub.consE (t := 16) rfl rfl (Sub.consE (t := 4) rfl rfl (Sub.cons (t := 0) rfl (Sub.cons (t := 1) rfl (Sub.cons (t := 5) rfl (Sub.cons (t := 14) rfl (Sub.cons (t := 15) rfl (Sub.nil _)))))))) .nil ?_
  intro k kN kI
  clear kI
  refine RunC.seq ?_
  refine RunC.region ?_
  refine RunL.val (Val.pure rfl) rfl rfl rfl ?_
  refine RunL.nil ?_
  refine RunE.next ?_
  refine RunC.seq ?_
  refine RunC.cond rfl ?_ ?_
  · intro c0
    have c0' := c0; clear c0
    try simp only [decide_eq_true_eq, decide_eq_false_iff_not, Bool.not_eq_true', Bool.not_eq_false', Bool.and_eq_true, Bool.or_eq_true, Bool.and_eq_false_iff, Bool.or_eq_false_iff, Int.not_le, Int.not_lt] at c0'
    have hk : k < p.things.length := by omega
    obtain ⟨t, ht⟩ : ∃ t, p.things[k] = t := ⟨_, rfl⟩
    have hth := hp.ths _ (List.getElem_mem hk)
    rw [ht] at hth
    have hmk := movedK_lt4 hp x (show k ≤ p.things.length by omega)
    refine RunC.skip ?_
    refine RunE.next ?_
    refine RunC.seq ?_
    refine RunC.block ?_
    refine RunC.seq ?_
    refine RunC.region ?_
    refine RunL.val (Val.pure rfl) rfl rfl rfl ?_
    refine RunL.val (Val.indexAddr_slp rfl rfl sl_24 (by omega) (by omega) (hS.ptrM hk)) rfl rfl rfl ?_
    refine RunL.val (Val.load_gen rfl (fun w hm => hS.loadX (by decide) hm (by simp) ty_47 hk ht)) rfl rfl rfl ?_
    refine RunL.new (New.alloc zero_47) rfl rfl rfl (fun b7 => ?_)
    refine RunL.val (Val.pure rfl) rfl rfl rfl ?_
    refine RunL.sto (Sto.store rfl rfl .here ty_47 rfl rfl) rfl rfl ?_
    refine RunL.nil ?_
    refine RunE.next ?_
    refine RunC.seq ?_
    refine RunC.region ?_
    refine RunL.val (Val.pure rfl) rfl rfl rfl ?_
    refine RunL.val (Val.load_agg rfl (.head _) ty_47 rfl) rfl rfl rfl ?_
    refine RunL.val (Val.pure rfl) rfl rfl rfl ?_
    refine RunL.val (Val.pure rfl) rfl rfl rfl ?_
    refine RunL.val (Val.build (parts := [(0, .tmp 24), (1, .tmp 25)]) rfl zero_70 places_70 rfl) rfl rfl rfl ?_
    refine RunL.callP (isCall_func rfl ent_53) rfl rfl rfl (fun w hm => still_calls p hp q cap pw t hth.1 hth.2 (x, x) bv w (hm.old_at hV (by simp))) ?_
    iterate 3 refine RunL.val (Val.pure rfl) rfl rfl rfl ?_
    refine RunL.new (New.alloc zero_70) rfl rfl rfl (fun b8 => ?_)
    refine RunL.sto (Sto.store rfl rfl .here ty_70 rfl rfl) rfl rfl ?_
    refine RunL.val (Val.pure rfl) rfl rfl rfl ?_
    refine RunL.nil ?_
    refine RunE.next ?_
    refine RunC.seq ?_
    refine RunC.region ?_
    refine RunL.val (Val.pure rfl) rfl rfl rfl ?_
    refine RunL.val (Val.pure rfl) rfl rfl rfl ?_
    refine RunL.nil ?_
    refine RunE.next ?_
    refine RunC.cond rfl ?_ ?_
    · intro c1
      have c1' := c1; clear c1
      try simp only [decide_eq_true_eq, decide_eq_false_iff_not, Bool.not_eq_true', Bool.not_eq_false', Bool.and_eq_true, Bool.or_eq_true, Bool.and_eq_false_iff, Bool.or_eq_false_iff, Int.not_le, Int.not_lt] at c1'
      refine RunC.region ?_
      iterate 3 refine RunL.val (Val.pure rfl) rfl rfl rfl ?_
      refine RunL.callP (isCall_value rfl rfl ent_82) rfl rfl rfl (fun w hm => with_calls (movedK p x k) k hmk (by omega) w) ?_
      refine RunL.val (Val.pure rfl) rfl rfl rfl ?_
      refine RunL.nil ?_
      refine RunE.block_normal ?_
      refine RunE.next ?_
      refine RunC.region ?_
      refine RunL.val (Val.add rfl rfl (IntWalk.i64_in _ ⟨by omega, by omega⟩)) rfl rfl rfl ?_
      refine RunL.val (Val.pure rfl) rfl rfl rfl ?_
      refine RunL.nil ?_
      exact RunE.round (by omega) trivial rfl (Sub.consE (t := 16) rfl rfl (Sub.consE (t := 4) rfl (by first | (rw [movedK_no (thingAt_eq hk ht) c1']) | (rw [movedK_yes (thingAt_eq hk ht) c1'])) (Sub.cons (t := 0) rfl (Sub.cons (t := 1) rfl (Sub.cons (t := 5) rfl (Sub.cons (t := 14) rfl (Sub.cons (t := 15) rfl (Sub.nil _)))))))) .nil
    · intro c1
      have c1' := c1; clear c1
      try simp only [decide_eq_true_eq, decide_eq_false_iff_not, Bool.not_eq_true', Bool.not_eq_false', Bool.and_eq_true, Bool.or_eq_true, Bool.and_eq_false_iff, Bool.or_eq_false_iff, Int.not_le, Int.not_lt] at c1'
      refine RunC.skip ?_
      refine RunE.block_normal ?_
      refine RunE.next ?_
      refine RunC.region ?_
      refine RunL.val (Val.add rfl rfl (IntWalk.i64_in _ ⟨by omega, by omega⟩)) rfl rfl rfl ?_
      refine RunL.val (Val.pure rfl) rfl rfl rfl ?_
      refine RunL.nil ?_
      exact RunE.round (by omega) trivial rfl (Sub.consE (t := 16) rfl rfl (Sub.consE (t := 4) rfl (by first | (rw [movedK_no (thingAt_eq hk ht) c1']) | (rw [movedK_yes (thingAt_eq hk ht) c1'])) (Sub.cons (t := 0) rfl (Sub.cons (t := 1) rfl (Sub.cons (t := 5) rfl (Sub.cons (t := 14) rfl (Sub.cons (t := 15) rfl (Sub.nil _)))))))) .nil
  · intro c0
    have c0' := c0; clear c0
    try simp only [decide_eq_true_eq, decide_eq_false_iff_not, Bool.not_eq_true', Bool.not_eq_false', Bool.and_eq_true, Bool.or_eq_true, Bool.and_eq_false_iff, Bool.or_eq_false_iff, Int.not_le, Int.not_lt] at c0'
    obtain rfl : k = p.things.length := by omega
    refine RunC.exit ?_
    refine RunE.pass_exit ?_
    refine RunE.pass_exit ?_
    refine RunE.block_here ?_
    refine RunE.next ?_
    refine RunC.seq ?_
    refine RunC.region ?_
    refine RunL.val (Val.pure rfl) rfl rfl rfl ?_
    refine RunL.val (Val.pure rfl) rfl rfl rfl ?_
    refine RunL.nil ?_
    refine RunE.next ?_
    refine RunC.ret ?_
    exact RunE.retP (.r1 rfl (.tmp rfl)) (by first | rfl | simp)
end Go.Proofs.Ythppnhjggdebbaa
