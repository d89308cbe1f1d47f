/- Layer 10, plain: how ways are shared. -/
import Derived.Test.YtlhdalcipflblaaDoorHz
set_option linter.unusedSimpArgs false
set_option linter.unusedVariables false
namespace Go.Hp
open Go Go.Eng Go.Pw1 Go.Proofs.YtlhdalcipflblaaDoor
theorem share_at {m : MxA} (hX : mixedX m.pl = true) {k j : Nat} (hk : k < m.cards.length) (hj : j < (esX m).length) : ShareX m.pl (k : Int) (j : Int) = ((shareL (esX m).length (fsX m.pl) k j : Int), 0) := by
  have hc : cardX m.pl (k : Int) = true := by
    unfold cardX within
    rw [Bool.and_eq_true, decide_eq_true_eq, decide_eq_true_eq]
    show 0 ≤ (k : Int) ∧ (k : Int) ≤ (m.cards.length : Int) - 1
    omega
  have he : entryX m.pl (j : Int) = true := by
    unfold entryX within
    rw [Bool.and_eq_true, decide_eq_true_eq, decide_eq_true_eq, ne_eq]
    omega
  unfold ShareX
  rw [if_pos hX, hc, he]
  rfl
/-- What Sure and Lost return, in one piece. -/
structure SLIs (m : MxA) (E : Int) (S : List Int) (lo ca : Nat) : Prop where
  sure : SureX m.pl = (S, E)
  lost : LostX m.pl = (((lo : Int), (ca : Int)), E)
  lol : lo < 2 ^ (esX m).length
  cal : ca < 2 ^ (esX m).length
  ok : E = 0 → 0 < cntX m.pl ∧ S = (List.range m.cards.length).map (sureC m.pl) ∧ ∀ k, k < (esX m).length → lo.testBit k = decide (usedL (esX m).length (fsX m.pl) k = 0) ∧ ca.testBit k = decide (usedL (esX m).length (fsX m.pl) k < cntX m.pl)
  no : E ≠ 0 → E = 4 ∧ cntX m.pl = 0 ∧ S = [] ∧ lo = 0 ∧ ca = 0
theorem sl_is {m : MxA} (hX : mixedX m.pl = true) : ∃ E S lo ca, SLIs m E S lo ca := by
  by_cases h0 : cntX m.pl = 0
  · have hw : waysE m.pl = 4 := by unfold waysE; rw [if_pos hX, if_pos h0]
    refine ⟨4, [], 0, 0, by unfold SureX; rw [hw]; rfl, by unfold LostX; rw [hw]; rfl, Nat.two_pow_pos _, Nat.two_pow_pos _, fun h => by omega, fun _ => ⟨rfl, h0, rfl, rfl, rfl⟩⟩
  · have hw : waysE m.pl = 0 := by unfold waysE; rw [if_pos hX, if_neg h0]
    refine ⟨0, (List.range m.cards.length).map (sureC m.pl), lostX m.pl, canX m.pl, by unfold SureX; rw [if_pos hw]; rfl, by unfold LostX; rw [if_pos hw], setOf_lt _ _, setOf_lt _ _, fun _ => ⟨by omega, rfl, fun k hk => ⟨?_, ?_⟩⟩, fun h => absurd rfl h⟩
    · unfold lostX
      rw [setOf_bit, ne_eq, decide_eq_true hk, Bool.true_and]
    · unfold canX
      rw [setOf_bit, ne_eq, decide_eq_true hk, Bool.true_and]
def byN (ne : Nat) (fs : List Nat) (i j k : Nat) : Nat := ((List.range i).map fun c => shareL ne fs c k).sum + if k < j then shareL ne fs i k else 0
def byL (ne : Nat) (fs : List Nat) (i j : Nat) : List Int := (List.range ne).map fun k => (byN ne fs i j k : Int)
theorem byL_len (ne : Nat) (fs : List Nat) (i j : Nat) : (byL ne fs i j).length = ne := by simp [byL]
theorem by_start (ne : Nat) (fs : List Nat) : (intsW (byL ne fs 0 0)).flatten = List.replicate ne (.int .i64 0) := by
  refine List.eq_replicate_iff.2 ⟨by rw [ints_fl, byL_len, Nat.mul_one], fun v hv => ?_⟩
  obtain ⟨r, hr, hv⟩ := List.mem_flatten.1 hv
  obtain ⟨x, hx, rfl⟩ := List.mem_map.1 hr
  obtain ⟨k, _, rfl⟩ := List.mem_map.1 hx
  rw [List.mem_singleton.1 hv]
  simp [byN]
theorem by_next (ne : Nat) (fs : List Nat) (i : Nat) : byL ne fs i ne = byL ne fs (i + 1) 0 := by
  unfold byL
  refine List.map_congr_left fun k hk => ?_
  have := List.mem_range.1 hk
  unfold byN
  rw [if_pos this, if_neg (by omega), List.range_succ, List.map_append, List.sum_append]
  simp
theorem by_set {ne : Nat} {fs : List Nat} {i j : Nat} (hj : j < ne) : (byL ne fs i j).set j ((byN ne fs i j j + shareL ne fs i j : Nat) : Int) = byL ne fs i (j + 1) := by
  refine List.ext_getElem (by simp [byL]) fun k h1 h2 => ?_
  have hk : k < ne := by simpa [byL] using h2
  rw [List.getElem_set]
  unfold byL byN
  simp only [List.getElem_map, List.getElem_range]
  by_cases e : j = k
  · subst e
    have h3 : ¬ j < j := by omega
    have h4 : j < j + 1 := by omega
    simp [h3, h4]
  · rw [if_neg e]
    have h3 : (k < j + 1) ↔ k < j := by omega
    simp [h3]
theorem by_at {ne : Nat} {fs : List Nat} {i j k : Nat} (hk : k < ne) : (byL ne fs i j)[k]'(by rw [byL_len]; exact hk) = (byN ne fs i j k : Int) := by simp [byL]
theorem by_used (ne : Nat) (fs : List Nat) (k : Nat) : byN ne fs fs.length 0 k = usedL ne fs k := by
  unfold byN usedL
  rw [if_neg (by omega), Nat.add_zero]
theorem paste_setI {l : List Int} {j : Nat} {v : Int} (hj : j < l.length) : paste (intsW l).flatten j [.int .i64 v] = some (intsW (l.set j v)).flatten := by
  have := paste_row (f := fun (x : Int) => [Value.int .i64 x]) (sz := 1) (fun _ => rfl) (a' := v) (j := 0) (vs := [.int .i64 v]) (t := []) (l := l) (i := j) hj rfl
  simpa [intsW] using this
theorem sum_range_succ (f : Nat → Nat) (j : Nat) : ((List.range (j + 1)).map f).sum = ((List.range j).map f).sum + f j := by
  rw [List.range_succ, List.map_append, List.sum_append]
  simp
theorem sum_range_le {f : Nat → Nat} {b : Nat} (h : ∀ k, f k ≤ b) : ∀ j, ((List.range j).map f).sum ≤ j * b
  | 0 => by simp
  | j + 1 => by
    have h1 := sum_range_le h j
    have h2 := h j
    rw [sum_range_succ, Nat.add_mul]
    omega
theorem byN_le {ne : Nat} {fs : List Nat} {i : Nat} (hi : i < fs.length) (j k : Nat) : byN ne fs i j k ≤ (i + 1) * cntL ne fs 0 := by
  unfold byN
  have h1 : ∀ i, i ≤ fs.length → ((List.range i).map fun c => shareL ne fs c k).sum ≤ i * cntL ne fs 0 := by
    intro i
    induction i with
    | zero => intro _; simp
    | succ i ih =>
      intro hi
      have h2 := ih (by omega)
      have h3 := share_le (ne := ne) (fs := fs) (c := i) (by omega) k
      rw [sum_range_succ, Nat.add_mul]
      omega
  have h2 := h1 i (by omega)
  have h3 := share_le (ne := ne) (fs := fs) (c := i) hi k
  rw [Nat.add_mul]
  split <;> omega
theorem share_fin {E : Int} {n u : Nat} {b1 b2 : Bool} (h1 : u ≤ n) (h : E = 0 → b1 = decide (u = 0) ∧ b2 = decide (u < n)) : ¬ (decide ((n : Int) < (u : Int)) || decide (E = 0) && (!(b1 == decide ((u : Int) = 0)) || !(b2 == decide ((u : Int) < (n : Int))))) = true := by
  have e0 : decide ((n : Int) < (u : Int)) = false := decide_eq_false (by omega)
  have e1 : decide ((u : Int) = 0) = decide (u = 0) := decide_eq_decide.2 (by omega)
  have e2 : decide ((u : Int) < (n : Int)) = decide (u < n) := decide_eq_decide.2 (by omega)
  rw [e0, e1, e2]
  by_cases hE : E = 0
  · obtain ⟨h2, h3⟩ := h hE
    rw [h2, h3]
    simp
  · simp [hE]
end Go.Hp
