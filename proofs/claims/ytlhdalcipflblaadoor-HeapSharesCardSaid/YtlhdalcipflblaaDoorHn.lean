/- Walks of package heap: how many are in a set, and all sets. -/
import Derived.Test.YtlhdalcipflblaaDoorHm
import Derived.Test.YtlhdalcipflblaaDoorHy9
import Derived.RecoverIn
set_option linter.unusedSimpArgs false
set_option linter.unusedVariables false
namespace Go.Hp
open Go Go.Eng Go.Pw1
def isK (k s : Nat) : Bool := decide (0 < s) && decide (pc s 12 = k)
def setsP (n k : Nat) : List Nat := ((List.range k).map (· + 1)).flatMap fun k => (List.range (2 ^ n)).filter (isK k)
theorem setsP_all (n : Nat) : setsL n = setsP n n := rfl
theorem setsP_s (n k : Nat) : setsP n (k + 1) = setsP n k ++ (List.range (2 ^ n)).filter (isK (k + 1)) := by
  unfold setsP
  rw [List.range_succ, List.map_append, List.flatMap_append]
  simp
theorem setsP_len (n k : Nat) : (setsP n k).length ≤ k * 2 ^ n := by
  induction k with
  | zero => simp [setsP]
  | succ k ih =>
    rw [setsP_s, List.length_append, Nat.succ_mul]
    have := List.length_filter_le (isK (k + 1)) (List.range (2 ^ n))
    rw [List.length_range] at this
    omega
theorem fil_len (k j : Nat) : ((List.range j).filter (isK k)).length ≤ j := by
  have := List.length_filter_le (isK k) (List.range j)
  rwa [List.length_range] at this
theorem fil_yes {k j : Nat} (h : pc (j + 1) 12 = k) : (List.range (j + 2)).filter (isK k) = (List.range (j + 1)).filter (isK k) ++ [j + 1] := by
  rw [List.range_succ, List.filter_append]
  have : isK k (j + 1) = true := by unfold isK; rw [h]; simp
  simp [this]
theorem fil_no {k j : Nat} (h : ¬ pc (j + 1) 12 = k) : (List.range (j + 2)).filter (isK k) = (List.range (j + 1)).filter (isK k) := by
  rw [List.range_succ, List.filter_append]
  have : isK k (j + 1) = false := by unfold isK; rw [decide_eq_false h, Bool.and_false]
  simp [this]
theorem fil_0 (k : Nat) : (List.range (0 + 1)).filter (isK k) = [] := by simp [isK]
theorem setsP_pre {n k : Nat} (hk : k < n) : ∃ r, setsL n = setsP n (k + 1) ++ r := by
  refine ⟨((List.range (n - (k + 1))).map (fun i => k + 1 + i + 1)).flatMap fun k => (List.range (2 ^ n)).filter (isK k), ?_⟩
  rw [setsP_all]
  unfold setsP
  rw [← List.flatMap_append]
  congr 1
  have : List.range n = List.range (k + 1) ++ (List.range (n - (k + 1))).map (k + 1 + ·) := by rw [← List.range_add, show k + 1 + (n - (k + 1)) = n by omega]
  rw [this, List.map_append, List.map_map]
  rfl
theorem sets_pre {n k j : Nat} (hk : k < n) (hj : j + 1 < 2 ^ n) (h : pc (j + 1) 12 = k + 1) : ∃ r, setsP n k ++ (List.range (j + 1)).filter (isK (k + 1)) ++ [j + 1] ++ r = setsL n := by
  obtain ⟨r, hr⟩ := setsP_pre hk
  have : List.range (2 ^ n) = List.range (j + 2) ++ (List.range (2 ^ n - (j + 2))).map (j + 2 + ·) := by rw [← List.range_add, show j + 2 + (2 ^ n - (j + 2)) = 2 ^ n by omega]
  rw [setsP_s, this, List.filter_append, fil_yes h] at hr
  exact ⟨_, by rw [hr]; simp only [List.append_assoc]; rfl⟩
end Go.Hp
namespace Go.Proofs.YtlhdalcipflblaaDoor
open Go Go.Eng Go.Hp Go.Pw1

theorem ones64_calls (s : Nat) (hs : s < 4096) (W : World) : Calls Tryd.prog 85 #[.int .u64 (s : Int)] W (Pure (.int .i64 (oc s : Int)) W) := by
  have b1 := oc1_le s
  have b2' := oc2_le s
  have b3 := oc3a_le s
  have b3' := oc3_le s
  have b4 := oc4_le s
  have b5 := oc5_le s
  have b6 := oc6_le s
  have h1 := Nat.shiftRight_le s 1
  have h2 := Nat.shiftRight_le (oc1 s) 2
  refine calls_start Tryd.func85 rfl rfl ?_
  refine RunC.seq ?_
  refine RunC.region ?_
  refine RunL.val (Val.pure rfl) rfl rfl rfl ?_
  refine RunL.nil ?_
  refine RunE.next ?_
  refine RunC.seq ?_
  refine RunC.region ?_
  refine RunL.val (Val.pure rfl) rfl rfl rfl ?_
  refine RunL.val (Val.shrN (a := s) (b := 1) rfl rfl (by decide)) rfl rfl rfl ?_
  refine RunL.val (Val.and (a := s >>> 1) (b := 6148914691236517205) rfl rfl (by show _ < 18446744073709551616; omega) (by decide) (u64_in (by have := Nat.and_le_right (n := s >>> 1) (m := 6148914691236517205); omega))) rfl rfl rfl ?_
  refine RunL.val (Val.pure rfl) rfl rfl rfl ?_
  refine RunL.val (Val.and (a := s) (b := 6148914691236517205) rfl rfl (by show _ < 18446744073709551616; omega) (by decide) (u64_in (by have := Nat.and_le_right (n := s) (m := 6148914691236517205); omega))) rfl rfl rfl ?_
  refine RunL.val (Val.addN (oc1 s) rfl rfl rfl (u64_in (by omega))) rfl rfl rfl ?_
  refine RunL.val (Val.pure rfl) rfl rfl rfl ?_
  refine RunL.nil ?_
  refine RunE.next ?_
  refine RunC.seq ?_
  refine RunC.region ?_
  refine RunL.val (Val.pure rfl) rfl rfl rfl ?_
  refine RunL.val (Val.shrN (a := oc1 s) (b := 2) rfl rfl (by decide)) rfl rfl rfl ?_
  refine RunL.val (Val.and (a := oc1 s >>> 2) (b := 3689348814741910323) rfl rfl (by show _ < 18446744073709551616; omega) (by decide) (u64_in (by have := Nat.and_le_right (n := oc1 s >>> 2) (m := 3689348814741910323); omega))) rfl rfl rfl ?_
  refine RunL.val (Val.pure rfl) rfl rfl rfl ?_
  refine RunL.val (Val.and (a := oc1 s) (b := 3689348814741910323) rfl rfl (by show _ < 18446744073709551616; omega) (by decide) (u64_in (by have := Nat.and_le_right (n := oc1 s) (m := 3689348814741910323); omega))) rfl rfl rfl ?_
  refine RunL.val (Val.addN (oc2 s) rfl rfl rfl (u64_in (by omega))) rfl rfl rfl ?_
  refine RunL.val (Val.pure rfl) rfl rfl rfl ?_
  refine RunL.nil ?_
  refine RunE.next ?_
  refine RunC.seq ?_
  refine RunC.region ?_
  refine RunL.val (Val.pure rfl) rfl rfl rfl ?_
  refine RunL.val (Val.shrN (a := oc2 s) (b := 4) rfl rfl (by decide)) rfl rfl rfl ?_
  refine RunL.val (Val.pure rfl) rfl rfl rfl ?_
  refine RunL.val (Val.addN (oc3a s) rfl rfl rfl (u64_in (by omega))) rfl rfl rfl ?_
  refine RunL.val (Val.and (a := oc3a s) (b := 1085102592571150095) rfl rfl (by show _ < 18446744073709551616; omega) (by decide) (u64_in (by have := Nat.and_le_right (n := oc3a s) (m := 1085102592571150095); omega))) rfl rfl rfl ?_
  refine RunL.val (Val.pure rfl) rfl rfl rfl ?_
  refine RunL.nil ?_
  refine RunE.next ?_
  refine RunC.seq ?_
  refine RunC.region ?_
  refine RunL.val (Val.pure rfl) rfl rfl rfl ?_
  refine RunL.val (Val.pure rfl) rfl rfl rfl ?_
  refine RunL.val (Val.shrN (a := oc3 s) (b := 8) rfl rfl (by decide)) rfl rfl rfl ?_
  refine RunL.val (Val.addN (oc4 s) rfl rfl rfl (u64_in (by omega))) rfl rfl rfl ?_
  refine RunL.val (Val.pure rfl) rfl rfl rfl ?_
  refine RunL.nil ?_
  refine RunE.next ?_
  refine RunC.seq ?_
  refine RunC.region ?_
  refine RunL.val (Val.pure rfl) rfl rfl rfl ?_
  refine RunL.val (Val.pure rfl) rfl rfl rfl ?_
  refine RunL.val (Val.shrN (a := oc4 s) (b := 16) rfl rfl (by decide)) rfl rfl rfl ?_
  refine RunL.val (Val.addN (oc5 s) rfl rfl rfl (u64_in (by omega))) rfl rfl rfl ?_
  refine RunL.val (Val.pure rfl) rfl rfl rfl ?_
  refine RunL.nil ?_
  refine RunE.next ?_
  refine RunC.seq ?_
  refine RunC.region ?_
  refine RunL.val (Val.pure rfl) rfl rfl rfl ?_
  refine RunL.val (Val.pure rfl) rfl rfl rfl ?_
  refine RunL.val (Val.shrN (a := oc5 s) (b := 32) rfl rfl (by decide)) rfl rfl rfl ?_
  refine RunL.val (Val.addN (oc6 s) rfl rfl rfl (u64_in (by omega))) rfl rfl rfl ?_
  refine RunL.val (Val.pure rfl) rfl rfl rfl ?_
  refine RunL.nil ?_
  refine RunE.next ?_
  refine RunC.seq ?_
  refine RunC.region ?_
  refine RunL.val (Val.pure rfl) rfl rfl rfl ?_
  refine RunL.val (Val.convInt rfl und_122 und_3 (IntWalk.i64_in _ ⟨by omega, by omega⟩)) rfl rfl rfl ?_
  refine RunL.val (Val.and (a := oc6 s) (b := 127) rfl rfl (by show _ < 18446744073709551616; omega) (by decide) (i64_inN (by have := Nat.and_le_right (n := oc6 s) (m := 127); omega))) rfl rfl rfl ?_
  refine RunL.val (Val.pure rfl) rfl rfl rfl ?_
  refine RunL.nil ?_
  refine RunE.next ?_
  refine RunC.ret ?_
  exact RunE.retP (.r1 rfl (.tmp rfl)) (by first | rfl | simp)
theorem ones_calls (s : Nat) (hs : s < 4096) (W : World) : Calls Tryd.prog 66 #[.int .u64 (s : Int)] W (Pure (.int .i64 (pc s 12 : Int)) W) := by
  rw [← oc_eq hs]
  refine calls_start Tryd.func66 rfl rfl ?_
  refine RunC.seq ?_
  refine RunC.region ?_
  refine RunL.val (Val.pure rfl) rfl rfl rfl ?_
  refine RunL.nil ?_
  refine RunE.next ?_
  refine RunC.seq ?_
  refine RunC.cond_false rfl ?_
  refine RunC.skip ?_
  refine RunE.next ?_
  refine RunC.seq ?_
  refine RunC.region ?_
  refine RunL.val (Val.pure rfl) rfl rfl rfl ?_
  refine RunL.callP (isCall_func rfl ent_85) rfl rfl rfl (fun w hm => ones64_calls s hs w) ?_
  refine RunL.val (Val.pure rfl) rfl rfl rfl ?_
  refine RunL.nil ?_
  refine RunE.next ?_
  refine RunC.ret ?_
  exact RunE.retP (.r1 rfl (.tmp rfl)) (by first | rfl | simp)
theorem size_calls (s : Nat) (hs : s < 4096) (W : World) : Calls Tryd.prog 47 #[.int .u64 (s : Int)] W (Pure (.int .i64 (pc s 12 : Int)) W) := by
  refine calls_start Tryd.func47 rfl rfl ?_
  refine RunC.seq ?_
  refine RunC.region ?_
  refine RunL.val (Val.pure rfl) rfl rfl rfl ?_
  refine RunL.nil ?_
  refine RunE.next ?_
  refine RunC.seq ?_
  refine RunC.region ?_
  refine RunL.val (Val.pure rfl) rfl rfl rfl ?_
  refine RunL.callP (isCall_func rfl ent_66) rfl rfl rfl (fun w hm => ones_calls s hs w) ?_
  refine RunL.val (Val.pure rfl) rfl rfl rfl ?_
  refine RunL.nil ?_
  refine RunE.next ?_
  refine RunC.ret ?_
  exact RunE.retP (.r1 rfl (.tmp rfl)) (by first | rfl | simp)
abbrev nCell (n : Nat) : Obj := .cells [.int .i64 (n : Int)].toArray 3 (0, 0)
set_option maxHeartbeats 2000000 in
theorem sets_stops (n : Nat) (hn : n ≤ 8) (b1 : Nat) (w0 : World) (nm : List Nat) (h0 : w0.heap[b1]? = some (nCell n)) (hs : b1 < w0.heap.size ∧ b1 ∉ nm) :
    SeqStopsK (Fr none) 8 Tryd.prog 65 #[.pointer (some ⟨b1, 0, none⟩)] (fun x : Nat => #[.int .u64 ((x % 4096 : Nat) : Int)]) (KpX w0.heap.size nm) (fun xs => xs = setsL n) (fun pre => ∃ r, pre ++ r = setsL n) 5000 w0 := by
  unfold SeqStopsK
  intro l J Jx W hW hJ hJx hY hJ0
  have h2n : 2 ^ n ≤ 2 ^ 8 := Nat.pow_le_pow_right (by decide) hn
  have h2p : 0 < 2 ^ n := Nat.two_pow_pos n
  have hSn : W.heap[b1]? = some (nCell n) := (hW.block b1 hs.1).trans h0
  have hJm : ∀ {s : List Nat} {A C : World} {news : Blks}, J s A → Mem A [] news C → J s C := fun h hm => hJ _ _ _ none h hm.grown (fun r e => by cases e)
  have hJxm : ∀ {s : List Nat} {A C : World} {news : Blks}, Jx s A → Mem A [] news C → Jx s C := fun h hm => hJx _ _ _ none h hm.grown (fun r e => by cases e)
  have hYY : ∀ (pre : List Nat) (x : Nat) (A : World), J pre A → pre.length < 5000 → A.heap[b1]? = some (nCell n) → YieldAt (Fr none) 8 Tryd.prog l #[.int .u64 ((x % 4096 : Nat) : Int)] A (fun e w' => ∃ y, e = .returned (.bool y) ∧ ((y = true ∧ J (pre ++ [x]) w' ∧ w'.heap[b1]? = some (nCell n)) ∨ (y = false ∧ Jx (pre ++ [x]) w'))) := fun pre x A h1 h2 h3 =>
    yieldAt_any (hY pre x A h1 h2) (fun e w' hh => by
      rcases hh with ⟨rfl, hh, hk⟩ | ⟨rfl, hh⟩
      · exact ⟨true, rfl, .inl ⟨rfl, hh, (hk b1 hs.1 hs.2).trans h3⟩⟩
      · exact ⟨false, rfl, .inr ⟨rfl, hh⟩⟩)
  refine callsIn_start (vs := [.func (.yield l) #[] #[], .pointer (some ⟨b1, 0, none⟩)]) Tryd.func65 rfl rfl ?_ 8
  refine RunCR.seq ?_
  refine RunCR.region ?_
  refine RunLR.val (Val.pure rfl) rfl rfl rfl ?_
  refine RunLR.nil ?_
  refine RunER.next ?_
  refine RunCR.block ?_
  refine RunCR.loopW (n) (fun k q => (3, .int .i64 ((k + 1 : Nat) : Int)) :: q) (fun k Wk => J (setsP n k) Wk ∧ Wk.heap[b1]? = some (nCell n)) (fun w hm => ⟨hJm hJ0 hm, hm.old_at hSn (by simp)⟩) (Sub.consE (t := 3) rfl rfl (Sub.cons (t := 0) rfl (Sub.cons (t := 1) rfl (Sub.nil _)))) ?_
  intro k Wk kN kI
  obtain ⟨hJk, hSk⟩ := kI
  refine RunCR.seq ?_
  refine RunCR.seq ?_
  refine RunCR.region ?_
  refine RunLR.val (Val.pure rfl) rfl rfl rfl ?_
  refine RunLR.val (Val.oload_one rfl hSk (by simp) ty_3 rfl) rfl rfl rfl ?_
  refine RunLR.val (Val.pure rfl) rfl rfl rfl ?_
  refine RunLR.nil ?_
  refine RunER.next ?_
  refine RunCR.cond rfl ?_ ?_
  · intro c0
    have c0' := c0; clear c0
    try simp only [decide_eq_true_eq, decide_eq_false_iff_not, Bool.not_eq_true', Bool.not_eq_false', Bool.and_eq_true, Bool.or_eq_true, Bool.and_eq_false_iff, Bool.or_eq_false_iff, Int.not_le, Int.not_lt] at c0'
    have hk : k < n := by omega
    have hpl := setsP_len n k
    have hpl2 : k * 2 ^ n ≤ 8 * 2 ^ 8 := Nat.mul_le_mul (by omega) h2n
    refine RunCR.skip ?_
    refine RunER.next ?_
    refine RunCR.seq ?_
    refine RunCR.block ?_
    refine RunCR.seq ?_
    refine RunCR.region ?_
    refine RunLR.val (Val.pure rfl) rfl rfl rfl ?_
    refine RunLR.nil ?_
    refine RunER.next ?_
    refine RunCR.block ?_
    refine RunCR.loopW (2 ^ n - 1) (fun j q => (4, .int .u64 ((j + 1 : Nat) : Int)) :: q) (fun j Wj => J (setsP n k ++ (List.range (j + 1)).filter (isK (k + 1))) Wj ∧ Wj.heap[b1]? = some (nCell n)) (fun w hm => ⟨by rw [fil_0, List.append_nil]; exact hJm hJk hm, hm.old_at hSk (by simp)⟩) (Sub.consE (t := 4) rfl rfl (Sub.cons (t := 0) rfl (Sub.cons (t := 1) rfl (Sub.cons (t := 3) rfl (Sub.nil _))))) ?_
    intro j Wj jN jI
    obtain ⟨hJj, hSj⟩ := jI
    refine RunCR.seq ?_
    refine RunCR.seq ?_
    refine RunCR.region ?_
    refine RunLR.val (Val.pure rfl) rfl rfl rfl ?_
    refine RunLR.val (Val.oload_one rfl hSj (by simp) ty_3 rfl) rfl rfl rfl ?_
    refine RunLR.val (Val.shl1 (b := n) rfl rfl (by show n ≤ 64; omega) (u64_in (n := 2 ^ n) (by omega))) rfl rfl rfl ?_
    refine RunLR.val (Val.pure rfl) rfl rfl rfl ?_
    refine RunLR.nil ?_
    refine RunER.next ?_
    refine RunCR.cond rfl ?_ ?_
    · intro c1
      have c1' := c1; clear c1
      try simp only [decide_eq_true_eq, decide_eq_false_iff_not, Bool.not_eq_true', Bool.not_eq_false', Bool.and_eq_true, Bool.or_eq_true, Bool.and_eq_false_iff, Bool.or_eq_false_iff, Int.not_le, Int.not_lt] at c1'
      have hj : j + 1 < 2 ^ n := by omega
      have hfl := fil_len (k + 1) (j + 1)
      refine RunCR.skip ?_
      refine RunER.next ?_
      refine RunCR.seq ?_
      refine RunCR.block ?_
      refine RunCR.seq ?_
      refine RunCR.region ?_
      refine RunLR.val (Val.pure rfl) rfl rfl rfl ?_
      refine RunLR.callP (isCall_func rfl ent_47) rfl rfl rfl (fun w hm => size_calls (j + 1) (by omega) w) ?_
      iterate 3 refine RunLR.val (Val.pure rfl) rfl rfl rfl ?_
      refine RunLR.ways (dj := 20) rfl ?_ ?_
      · intro g20
        have g20' := g20; clear g20
        try simp only [decide_eq_true_eq, decide_eq_false_iff_not, Bool.not_eq_true', Bool.not_eq_false', Bool.and_eq_true, Bool.or_eq_true, Bool.and_eq_false_iff, Bool.or_eq_false_iff, Int.not_le, Int.not_lt] at g20'
        refine RunLR.val (Val.pure rfl) rfl rfl rfl ?_
        refine RunLR.val (Val.pure rfl) rfl rfl rfl ?_
        refine RunLR.yield (RY := fun y w' => (y = true ∧ J (setsP n k ++ (List.range (j + 1)).filter (isK (k + 1)) ++ [j + 1]) w' ∧ w'.heap[b1]? = some (nCell n)) ∨ (y = false ∧ Jx (setsP n k ++ (List.range (j + 1)).filter (isK (k + 1)) ++ [j + 1]) w')) (isYield_value rfl rfl) rfl rfl rfl (fun w hm => (by have h9 := hYY _ (j + 1) w (hJm hJj hm) (by rw [List.length_append]; omega) (hm.old_at hSj (by simp)); rw [Nat.mod_eq_of_lt (show j + 1 < 4096 by omega)] at h9; exact h9)) ?_
        intro y23 W23 h23
        refine RunLR.val (Val.pure rfl) rfl rfl rfl ?_
        refine RunLR.val (Val.pure rfl) rfl rfl rfl ?_
        refine RunLR.nil ?_
        refine RunER.next ?_
        refine RunCR.cond rfl ?_ ?_
        · intro c2
          have c2' := c2; clear c2
          try simp only [decide_eq_true_eq, decide_eq_false_iff_not, Bool.not_eq_true', Bool.not_eq_false', Bool.and_eq_true, Bool.or_eq_true, Bool.and_eq_false_iff, Bool.or_eq_false_iff, Int.not_le, Int.not_lt] at c2'
          refine RunCR.ret ?_
          refine RunE.block_ret ?_
          refine RunE.pass_ret ?_
          refine RunE.pass_ret ?_
          refine RunE.block_ret ?_
          refine RunE.block_ret ?_
          refine RunE.pass_ret ?_
          refine RunE.pass_ret ?_
          refine RunE.block_ret ?_
          intro a w2 s
          rcases h23 with ⟨h, _⟩ | ⟨_, hX2⟩
          · rw [h] at c2'; cases c2'
          · exact ⟨s.defers, _, results_none rfl _ _ _, ⟨_, rfl⟩, .inr ⟨_, sets_pre hk hj (by omega), hJxm hX2 s.mem⟩⟩
        · intro c2
          have c2' := c2; clear c2
          try simp only [decide_eq_true_eq, decide_eq_false_iff_not, Bool.not_eq_true', Bool.not_eq_false', Bool.and_eq_true, Bool.or_eq_true, Bool.and_eq_false_iff, Bool.or_eq_false_iff, Int.not_le, Int.not_lt] at c2'
          refine RunCR.skip ?_
          refine RunE.block_normal ?_
          refine RunER.next ?_
          refine RunCR.region ?_
          refine RunLR.val (Val.pure rfl) rfl rfl rfl ?_
          refine RunLR.val (Val.addN (a := j + 1) (b := 1) (j + 1 + 1) rfl rfl rfl (u64_in (by omega))) rfl rfl rfl ?_
          refine RunLR.val (Val.pure rfl) rfl rfl rfl ?_
          refine RunLR.nil ?_
          exact RunE.roundW (by omega) (fun w hm => (by first | exact ⟨by rw [fil_no (by omega)]; exact hJm hJj hm, hm.old_at hSj (by simp)⟩ | (rcases h23 with ⟨_, hJ2, hS2⟩ | ⟨h, _⟩; exact ⟨by rw [fil_yes (by omega), ← List.append_assoc]; exact hJm hJ2 hm, hm.old_at hS2 (by simp)⟩; rw [h] at c2'; cases c2'))) (Sub.consE (t := 4) rfl rfl (Sub.cons (t := 0) rfl (Sub.cons (t := 1) rfl (Sub.cons (t := 3) rfl (Sub.nil _)))))
      · intro g20
        have g20' := g20; clear g20
        try simp only [decide_eq_true_eq, decide_eq_false_iff_not, Bool.not_eq_true', Bool.not_eq_false', Bool.and_eq_true, Bool.or_eq_true, Bool.and_eq_false_iff, Bool.or_eq_false_iff, Int.not_le, Int.not_lt] at g20'
        iterate 4 refine RunLR.no rfl rfl rfl ?_
        refine RunLR.val (Val.pure rfl) rfl rfl rfl ?_
        refine RunLR.nil ?_
        refine RunER.next ?_
        refine RunCR.cond_false rfl ?_
        refine RunCR.skip ?_
        refine RunE.block_normal ?_
        refine RunER.next ?_
        refine RunCR.region ?_
        refine RunLR.val (Val.pure rfl) rfl rfl rfl ?_
        refine RunLR.val (Val.addN (a := j + 1) (b := 1) (j + 1 + 1) rfl rfl rfl (u64_in (by omega))) rfl rfl rfl ?_
        refine RunLR.val (Val.pure rfl) rfl rfl rfl ?_
        refine RunLR.nil ?_
        exact RunE.roundW (by omega) (fun w hm => (by first | exact ⟨by rw [fil_no (by omega)]; exact hJm hJj hm, hm.old_at hSj (by simp)⟩ | (rcases h23 with ⟨_, hJ2, hS2⟩ | ⟨h, _⟩; exact ⟨by rw [fil_yes (by omega), ← List.append_assoc]; exact hJm hJ2 hm, hm.old_at hS2 (by simp)⟩; rw [h] at c2'; cases c2'))) (Sub.consE (t := 4) rfl rfl (Sub.cons (t := 0) rfl (Sub.cons (t := 1) rfl (Sub.cons (t := 3) rfl (Sub.nil _)))))
    · intro c1
      have c1' := c1; clear c1
      try simp only [decide_eq_true_eq, decide_eq_false_iff_not, Bool.not_eq_true', Bool.not_eq_false', Bool.and_eq_true, Bool.or_eq_true, Bool.and_eq_false_iff, Bool.or_eq_false_iff, Int.not_le, Int.not_lt] at c1'
      have hjn : j + 1 = 2 ^ n := by omega
      have hall : setsP n (k + 1) = setsP n k ++ (List.range (j + 1)).filter (isK (k + 1)) := by rw [setsP_s, hjn]
      refine RunCR.exit ?_
      refine RunE.pass_exit ?_
      refine RunE.pass_exit ?_
      refine RunE.block_here ?_
      refine RunE.block_normal ?_
      refine RunER.next ?_
      refine RunCR.region ?_
      refine RunLR.val (Val.pure rfl) rfl rfl rfl ?_
      refine RunLR.val (Val.addN (a := k + 1) (b := 1) (k + 1 + 1) rfl rfl rfl (i64_inN (by omega))) rfl rfl rfl ?_
      refine RunLR.val (Val.pure rfl) rfl rfl rfl ?_
      refine RunLR.nil ?_
      exact RunE.roundW (by omega) (fun w hm => ⟨by rw [hall]; exact hJm hJj hm, hm.old_at hSj (by simp)⟩) (Sub.consE (t := 3) rfl rfl (Sub.cons (t := 0) rfl (Sub.cons (t := 1) rfl (Sub.nil _))))
  · intro c0
    have c0' := c0; clear c0
    try simp only [decide_eq_true_eq, decide_eq_false_iff_not, Bool.not_eq_true', Bool.not_eq_false', Bool.and_eq_true, Bool.or_eq_true, Bool.and_eq_false_iff, Bool.or_eq_false_iff, Int.not_le, Int.not_lt] at c0'
    obtain rfl : k = n := by omega
    refine RunCR.exit ?_
    refine RunE.pass_exit ?_
    refine RunE.pass_exit ?_
    refine RunE.block_here ?_
    intro a w2 s
    exact ⟨s.defers, _, results_none rfl _ _ _, ⟨_, rfl⟩, .inl ⟨_, rfl, hJm hJk s.mem⟩⟩
theorem sets_calls (n : Nat) (W : World) : Calls Tryd.prog 44 #[.int .i64 (n : Int)] W (News (fun b => .func (.func 65) #[] #[.pointer (some ⟨b, 0, none⟩)]) (fun b => [(b, nCell n)]) W) := by
  refine calls_start Tryd.func44 rfl rfl ?_
  refine RunC.seq ?_
  refine RunC.region ?_
  refine RunL.new (New.box rfl) rfl rfl rfl (fun b1 => ?_)
  refine RunL.val (Val.pure rfl) rfl rfl rfl ?_
  refine RunL.nil ?_
  refine RunE.next ?_
  refine RunC.seq ?_
  refine RunC.region ?_
  refine RunL.val (Val.pure rfl) rfl rfl rfl ?_
  refine RunL.val (Val.pure rfl) rfl rfl rfl ?_
  refine RunL.nil ?_
  refine RunE.next ?_
  refine RunC.ret ?_
  exact RunE.ret (chg := []) (.r1 rfl (.tmp rfl)) (fun _ hm => ⟨b1, rfl, hm⟩)
end Go.Proofs.YtlhdalcipflblaaDoor
