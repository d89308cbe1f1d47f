/- Walks of package heap: numbers as texts, opening boxes with a heap. -/
import Derived.Test.YtlhdalcipflblaaDoorHf
set_option linter.unusedSimpArgs false
set_option linter.unusedVariables false
namespace Go.Hp
open Go Go.Eng Go.Pw1
def dig36 : Str := [48,49,50,51,52,53,54,55,56,57,97,98,99,100,101,102,103,104,105,106,107,108,109,110,111,112,113,114,115,116,117,118,119,120,121,122]
def dig200 : Str := [48,48,48,49,48,50,48,51,48,52,48,53,48,54,48,55,48,56,48,57,49,48,49,49,49,50,49,51,49,52,49,53,49,54,49,55,49,56,49,57,50,48,50,49,50,50,50,51,50,52,50,53,50,54,50,55,50,56,50,57,51,48,51,49,51,50,51,51,51,52,51,53,51,54,51,55,51,56,51,57,52,48,52,49,52,50,52,51,52,52,52,53,52,54,52,55,52,56,52,57,53,48,53,49,53,50,53,51,53,52,53,53,53,54,53,55,53,56,53,57,54,48,54,49,54,50,54,51,54,52,54,53,54,54,54,55,54,56,54,57,55,48,55,49,55,50,55,51,55,52,55,53,55,54,55,55,55,56,55,57,56,48,56,49,56,50,56,51,56,52,56,53,56,54,56,55,56,56,56,57,57,48,57,49,57,50,57,51,57,52,57,53,57,54,57,55,57,56,57,57]
theorem dig200_len : dig200.length = 200 := by kernel_rfl
theorem small_all : (List.range 100).all (fun n => if n < 10 then decide ((dig36.drop n).take 1 = itoa n) else decide ((dig200.drop (2 * n)).take 2 = itoa n)) = true := by kernel_rfl
theorem small1 {n : Nat} (h : n < 10) : (dig36.drop n).take (n + 1 - n) = itoa n := by
  have := List.all_eq_true.1 small_all n (List.mem_range.2 (by omega))
  rw [if_pos h] at this
  rw [Nat.add_sub_cancel_left]
  exact of_decide_eq_true this
theorem small2 {n : Nat} (h : ¬ n < 10) (h2 : n < 100) : (dig200.drop (n * 2)).take (n * 2 + 2 - n * 2) = itoa n := by
  have := List.all_eq_true.1 small_all n (List.mem_range.2 h2)
  rw [if_neg h] at this
  rw [Nat.add_sub_cancel_left, Nat.mul_comm]
  exact of_decide_eq_true this
theorem itoa_len (n : Nat) : (itoa n).length ≤ 2 := by unfold itoa; split <;> simp
def esX (m : MxA) : List En := entriesX (m.bxs.map (·.bx))
def enK (m : MxA) (k : Nat) : List En := entriesX ((m.bxs.take k).map (·.bx))
theorem enK_snoc {m : MxA} {k : Nat} (hk : k < m.bxs.length) {x : BxA} (hx : m.bxs[k] = x) : enK m (k + 1) = enK m k ++ boxEn x.bx.colour 0 x.bx.titles := by
  unfold enK
  rw [List.take_succ_eq_append_getElem hk, List.map_append, hx]
  exact entries_snoc _ _
theorem enK_all (m : MxA) : enK m m.bxs.length = esX m := by unfold enK esX; rw [List.take_length]
theorem enK_len {m : MxA} (h : MSm m) (k : Nat) : (enK m k).length ≤ k * 1000 := by
  unfold enK
  rw [entries_len]
  exact many_le (fun x hx => (h.ti x hx).n) k
theorem many_mem {l : List BxA} {x : BxA} (h : x ∈ l) : x.bx.titles.length ≤ manyX (l.map (·.bx)) := by
  induction l with
  | nil => cases h
  | cons y l ih =>
    have e : manyX ((y :: l).map (·.bx)) = y.bx.titles.length + manyX (l.map (·.bx)) := by simp [manyX]
    rw [e]
    rcases List.mem_cons.1 h with rfl | h
    · omega
    · have := ih h; omega
theorem mixed_ok {m : MxA} (h : mixedX m.pl = true) : m.bxs.length ≤ 4 ∧ m.cards.length ≤ 8 ∧ (esX m).length ≤ 12 := by
  unfold mixedX at h
  simp only [Bool.and_eq_true] at h
  obtain ⟨⟨⟨⟨a1, a2⟩, _⟩, a5⟩, _⟩ := h
  have a3 : (m.bxs.map (·.bx)).length ≤ 4 := of_decide_eq_true a1
  have a4 : m.cards.length ≤ 8 := of_decide_eq_true a2
  have a6 : manyX (m.bxs.map (·.bx)) ≤ 12 := of_decide_eq_true a5
  rw [List.length_map] at a3
  exact ⟨a3, a4, by unfold esX; rw [entries_len]; exact a6⟩
theorem boxEn_mem {c : Int} : ∀ {l : List Str} {i : Nat} {x : En}, x ∈ boxEn c i l → x.number.length ≤ 2 ∧ x.title ∈ l
  | [], i, x, h => by cases h
  | t :: l, i, x, h => by
    rcases List.mem_cons.1 h with rfl | h
    · exact ⟨itoa_len _, by simp⟩
    · obtain ⟨h1, h2⟩ := boxEn_mem h
      exact ⟨h1, List.mem_cons_of_mem _ h2⟩
theorem en_small {m : MxA} (h : MSm m) : ∀ x ∈ esX m, x.number.length ≤ 1000000 ∧ x.title.length ≤ 1000000 := fun x hx => by
  unfold esX entriesX at hx
  obtain ⟨b, hb, hx⟩ := List.mem_flatMap.1 hx
  obtain ⟨y, hy, rfl⟩ := List.mem_map.1 hb
  obtain ⟨h1, h2⟩ := boxEn_mem hx
  exact ⟨by omega, (h.ti y hy).t _ h2⟩
/-- Where a heap lies that is looked at. -/
structure Hz where
  bh : Nat
  bm : Nat
  x : Eng.Own
  y : Eng.Own
abbrev HO (m : MxA) := { z : Hz // OwnOk 3 z.x (esX m).length ((esX m).map En.cells).flatten ∧ OwnOk 1 z.y (fsX m.pl).length (setsV (fsX m.pl)).flatten }
theorem en_len (t : En) : t.cells.length = 3 := rfl
theorem en_one (t : En) : t.cells.all (·.oneCell') = true := rfl
end Go.Hp
namespace Go.Proofs.YtlhdalcipflblaaDoor
open Go Go.Eng Go.Hp Go.Pw1

set_option maxRecDepth 10000 in
theorem small_calls (n : Nat) (hn : n < 100) (W : World) : Calls Tryd.prog 94 #[.int .i64 (n : Int)] W (Pure (.string (bs (itoa n))) W) := by
  refine calls_start Tryd.func94 rfl rfl ?_
  refine RunC.seq ?_
  refine RunC.region ?_
  refine RunL.val (Val.pure rfl) rfl rfl rfl ?_
  refine RunL.nil ?_
  refine RunE.next ?_
  refine RunC.seq ?_
  refine RunC.seq ?_
  refine RunC.region ?_
  refine RunL.val (Val.pure rfl) rfl rfl rfl ?_
  refine RunL.val (Val.pure rfl) rfl rfl rfl ?_
  refine RunL.nil ?_
  refine RunE.next ?_
  refine RunC.cond rfl ?_ ?_
  · intro c0
    have c0' := c0; clear c0
    try simp only [decide_eq_true_eq, decide_eq_false_iff_not, Bool.not_eq_true', Bool.not_eq_false', Bool.and_eq_true, Bool.or_eq_true, Bool.and_eq_false_iff, Bool.or_eq_false_iff, Int.not_le, Int.not_lt] at c0'
    refine RunC.seq ?_
    refine RunC.region ?_
    refine RunL.val (Val.pure rfl) rfl rfl rfl ?_
    refine RunL.val (Val.pure rfl) rfl rfl rfl ?_
    refine RunL.val (Val.add rfl rfl (IntWalk.i64_in _ ⟨by omega, by omega⟩)) rfl rfl rfl ?_
    refine RunL.val (Val.strSlice (l := dig36) (a := n) (b := n + 1) rfl rfl rfl und_9 (by omega) (by show n + 1 ≤ 36; omega)) rfl rfl rfl ?_
    refine RunL.val (Val.pure rfl) rfl rfl rfl ?_
    refine RunL.nil ?_
    refine RunE.next ?_
    refine RunC.ret ?_
    refine RunE.pass_ret ?_
    exact RunE.retP (.r1 rfl (.tmp rfl)) (by rw [small1 (by omega)])
  · intro c0
    have c0' := c0; clear c0
    try simp only [decide_eq_true_eq, decide_eq_false_iff_not, Bool.not_eq_true', Bool.not_eq_false', Bool.and_eq_true, Bool.or_eq_true, Bool.and_eq_false_iff, Bool.or_eq_false_iff, Int.not_le, Int.not_lt] at c0'
    refine RunC.skip ?_
    refine RunE.next ?_
    refine RunC.seq ?_
    refine RunC.region ?_
    refine RunL.val (Val.pure rfl) rfl rfl rfl ?_
    refine RunL.val (Val.mulN (a := n) (b := 2) (n * 2) rfl rfl rfl (i64_inN (by omega))) rfl rfl rfl ?_
    refine RunL.val (Val.pure rfl) rfl rfl rfl ?_
    refine RunL.val (Val.mulN (a := n) (b := 2) (n * 2) rfl rfl rfl (i64_inN (by omega))) rfl rfl rfl ?_
    refine RunL.val (Val.addN (a := n * 2) (b := 2) (n * 2 + 2) rfl rfl rfl (i64_inN (by omega))) rfl rfl rfl ?_
    refine RunL.val (Val.strSlice (l := dig200) (a := n * 2) (b := n * 2 + 2) rfl rfl rfl und_9 (by omega) (by rw [dig200_len]; omega)) rfl rfl rfl ?_
    refine RunL.val (Val.pure rfl) rfl rfl rfl ?_
    refine RunL.nil ?_
    refine RunE.next ?_
    refine RunC.ret ?_
    exact RunE.retP (.r1 rfl (.tmp rfl)) (by rw [small2 (by omega) hn])
theorem format_calls (n : Nat) (hn : n < 100) (W : World) : Calls Tryd.prog 92 #[.int .i64 (n : Int), .int .i64 10] W (Pure (.string (bs (itoa n))) W) := by
  refine calls_start Tryd.func92 rfl rfl ?_
  refine RunC.seq ?_
  refine RunC.region ?_
  refine RunL.val (Val.pure rfl) rfl rfl rfl ?_
  refine RunL.nil ?_
  refine RunE.next ?_
  refine RunC.seq ?_
  refine RunC.seq ?_
  refine RunC.region ?_
  refine RunL.val (Val.pure rfl) rfl rfl rfl ?_
  refine RunL.val (Val.pure rfl) rfl rfl rfl ?_
  refine RunL.nil ?_
  refine RunE.next ?_
  refine RunC.cond rfl ?_ (fun h => absurd h (by simp))
  intro c0
  clear c0
  refine RunC.seq ?_
  refine RunC.seq ?_
  refine RunC.region ?_
  iterate 3 refine RunL.val (Val.pure rfl) rfl rfl rfl ?_
  refine RunL.andPart (dj := 14) (dp := 17) 3 rfl (fun g14 => by
    have g14' := g14
    try simp only [decide_eq_true_eq, decide_eq_false_iff_not, Bool.not_eq_true', Bool.not_eq_false', Bool.and_eq_true, Bool.or_eq_true, Bool.and_eq_false_iff, Bool.or_eq_false_iff, Int.not_le, Int.not_lt] at g14'
    iterate 3 refine RunL.val (Val.pure rfl) rfl rfl rfl ?_
    exact RunL.segEnd (Sub.cons rfl (Sub.skip rfl (Sub.skip rfl (Sub.skip rfl (Sub.same rfl (by rw [g14]) (Sub.refl _)))))) (List.Sublist.refl _)
  ) (fun g14 => by
    have g14' := g14
    try simp only [decide_eq_true_eq, decide_eq_false_iff_not, Bool.not_eq_true', Bool.not_eq_false', Bool.and_eq_true, Bool.or_eq_true, Bool.and_eq_false_iff, Bool.or_eq_false_iff, Int.not_le, Int.not_lt] at g14'
    refine RunL.no rfl rfl rfl ?_
    refine RunL.no rfl rfl rfl ?_
    refine RunL.val (Val.pure rfl) rfl rfl rfl ?_
    exact RunL.segEnd (Sub.cons rfl (Sub.skip rfl (Sub.skip rfl (Sub.skip rfl (Sub.same rfl (by rw [g14]) (Sub.refl _)))))) (List.Sublist.refl _)
  ) ?_
  refine RunL.nil ?_
  refine RunE.next ?_
  refine RunC.cond rfl ?_ (fun h => absurd h (by simp; omega))
  intro c1
  clear c1
  refine RunC.seq ?_
  refine RunC.region ?_
  refine RunL.val (Val.pure rfl) rfl rfl rfl ?_
  refine RunL.callP (isCall_func rfl ent_94) rfl rfl rfl (fun w hm => small_calls n hn w) ?_
  refine RunL.val (Val.pure rfl) rfl rfl rfl ?_
  refine RunL.nil ?_
  refine RunE.next ?_
  refine RunC.ret ?_
  refine RunE.pass_ret ?_
  refine RunE.pass_ret ?_
  exact RunE.retP (.r1 rfl (.tmp rfl)) (by first | rfl | simp)
theorem itoaI_calls (n : Nat) (hn : n < 100) (W : World) : Calls Tryd.prog 80 #[.int .i64 (n : Int)] W (Pure (.string (bs (itoa n))) W) := by
  refine calls_start Tryd.func80 rfl rfl ?_
  refine RunC.seq ?_
  refine RunC.region ?_
  refine RunL.val (Val.pure rfl) rfl rfl rfl ?_
  refine RunL.nil ?_
  refine RunE.next ?_
  refine RunC.seq ?_
  refine RunC.region ?_
  refine RunL.val (Val.pure rfl) rfl rfl rfl ?_
  refine RunL.callP (isCall_func rfl ent_92) rfl rfl rfl (fun w hm => format_calls n hn w) ?_
  refine RunL.val (Val.pure rfl) rfl rfl rfl ?_
  refine RunL.nil ?_
  refine RunE.next ?_
  refine RunC.ret ?_
  exact RunE.retP (.r1 rfl (.tmp rfl)) (by first | rfl | simp)
theorem itoa_calls (n : Nat) (hn : n < 100) (W : World) : Calls Tryd.prog 63 #[.int .i64 (n : Int)] W (Pure (.string (bs (itoa n))) W) := by
  refine calls_start Tryd.func63 rfl rfl ?_
  refine RunC.seq ?_
  refine RunC.region ?_
  refine RunL.val (Val.pure rfl) rfl rfl rfl ?_
  refine RunL.nil ?_
  refine RunE.next ?_
  refine RunC.seq ?_
  refine RunC.region ?_
  refine RunL.val (Val.pure rfl) rfl rfl rfl ?_
  refine RunL.callP (isCall_func rfl ent_80) rfl rfl rfl (fun w hm => itoaI_calls n hn w) ?_
  refine RunL.val (Val.pure rfl) rfl rfl rfl ?_
  refine RunL.nil ?_
  refine RunE.next ?_
  refine RunC.ret ?_
  exact RunE.retP (.r1 rfl (.tmp rfl)) (by first | rfl | simp)
theorem openH_err (m : MxA) (hsm : MSm m) (W : World) (hM : MOk W m) (hX : mixedX m.pl = false) : Calls Tryd.prog 39 #[m.v] W (Pure (.tuple #[.pointer none, .int .i64 1]) W) := by
  refine calls_start Tryd.func39 rfl rfl ?_
  refine RunC.seq ?_
  refine RunC.region ?_
  refine RunL.new (New.box rfl) rfl rfl rfl (fun b1 => ?_)
  refine RunL.val (Val.pure rfl) rfl rfl rfl ?_
  refine RunL.val (Val.pure rfl) rfl rfl rfl ?_
  refine RunL.nil ?_
  refine RunE.next ?_
  refine RunC.seq ?_
  refine RunC.seq ?_
  refine RunC.region ?_
  refine RunL.val (Val.load_agg rfl (.head _) ty_25 rfl) rfl rfl rfl ?_
  refine RunL.callP (isCall_func rfl ent_62) rfl rfl rfl (fun w hm => (by have h9 := isMixed_calls m hsm w (hM.mono0 hm); rw [hX] at h9; exact h9)) ?_
  refine RunL.val (Val.pure rfl) rfl rfl rfl ?_
  refine RunL.nil ?_
  refine RunE.next ?_
  refine RunC.cond rfl ?_ (fun h => absurd h (by simp))
  intro c0
  clear c0
  refine RunC.seq ?_
  refine RunC.region ?_
  refine RunL.val (Val.pure rfl) rfl rfl rfl ?_
  refine RunL.val (Val.pure rfl) rfl rfl rfl ?_
  refine RunL.nil ?_
  refine RunE.next ?_
  refine RunC.ret ?_
  refine RunE.pass_ret ?_
  exact RunE.retP (.r2 rfl (.tmp rfl) (.tmp rfl)) (by first | rfl | simp)
set_option maxHeartbeats 1000000 in
theorem openH_calls (m : MxA) (hsm : MSm m) (W : World) (hM : MOk W m) (hX : mixedX m.pl = true) : Calls Tryd.prog 39 #[m.v] W
    (News (fun z : HO m => .tuple #[.pointer (some ⟨z.1.bh, 0, none⟩), .int .i64 0]) (fun z => [(z.1.bh, .cells [.slice m.q m.bxs.length m.cap, .slice m.q2 m.cards.length m.cap2, .slice (ownQ z.1.x) (esX m).length (ownC z.1.x), .slice (ownQ z.1.y) (fsX m.pl).length (ownC z.1.y), .map (some z.1.bm)].toArray 73 (0, 0)), (z.1.bm, mapG [])] ++
      (ownB 68 z.1.y (setsV (fsX m.pl)).flatten ++ (ownB 95 z.1.x ((esX m).map En.cells).flatten ++ []))) W) := by
  obtain ⟨hb4, hc8, he12⟩ := mixed_ok hX
  have hen := en_small hsm
  have hman : manyX (m.bxs.map (·.bx)) = (esX m).length := (entries_len _).symm
  refine calls_start Tryd.func39 rfl rfl ?_
  refine RunC.seq ?_
  refine RunC.region ?_
  refine RunL.new (New.box rfl) rfl rfl rfl (fun b1 => ?_)
  refine RunL.val (Val.pure rfl) rfl rfl rfl ?_
  refine RunL.val (Val.pure rfl) rfl rfl rfl ?_
  refine RunL.nil ?_
  refine RunE.next ?_
  refine RunC.seq ?_
  refine RunC.seq ?_
  refine RunC.region ?_
  refine RunL.val (Val.load_agg rfl (.head _) ty_25 rfl) rfl rfl rfl ?_
  refine RunL.callP (isCall_func rfl ent_62) rfl rfl rfl (fun w hm => (by have h9 := isMixed_calls m hsm w (hM.mono0 hm); rw [hX] at h9; exact h9)) ?_
  refine RunL.val (Val.pure rfl) rfl rfl rfl ?_
  refine RunL.nil ?_
  refine RunE.next ?_
  refine RunC.cond rfl (fun h => absurd h (by simp)) ?_
  intro c0
  clear c0
  refine RunC.skip ?_
  refine RunE.next ?_
  refine RunC.seq ?_
  refine RunC.region ?_
  refine RunL.val (Val.load_agg rfl (.head _) ty_25 rfl) rfl rfl rfl ?_
  refine RunL.new New.makeMapG rfl rfl rfl (fun b15 => ?_)
  refine RunL.val (Val.build (parts := [(0, .tmp 14), (3, .tmp 15)]) rfl zero_73 places_73 rfl) rfl rfl rfl ?_
  refine RunL.new (New.box rfl) rfl rfl rfl (fun b17 => ?_)
  refine RunL.val (Val.pure rfl) rfl rfl rfl ?_
  refine RunL.nil ?_
  refine RunE.next ?_
  refine RunC.seq ?_
  refine RunC.seq ?_
  refine RunC.region ?_
  refine RunL.val (Val.fieldAddr rfl fld_25_0) rfl rfl rfl ?_
  refine RunL.val (Val.load_one rfl (.tail _ (.tail _ (.head _))) ty_22 rfl) rfl rfl rfl ?_
  refine RunL.val (Val.len_sl rfl sl_22) rfl rfl rfl ?_
  refine RunL.val (Val.pure rfl) rfl rfl rfl ?_
  refine RunL.nil ?_
  refine RunE.next ?_
  refine RunC.block ?_
  refine RunC.loopX (X := Eng.Own) (n0 := [(b15, _), (b1, _)]) (m.bxs.length) (fun k x q => (21, .int .i64 (k : Int)) :: q) (fun _ _ => _) (fun k x => [(b17, .cells [.slice m.q m.bxs.length m.cap, .slice m.q2 m.cards.length m.cap2, ownV x (enK m k).length, .slice none 0 0, .map (some b15)].toArray 73 (0, 0))]) (fun k x => ownB 95 x ((enK m k).map En.cells).flatten ++ []) (fun k x => OwnOk 3 x (enK m k).length ((enK m k).map En.cells).flatten) none OwnOk.start rfl (Sub.consE (t := 21) rfl rfl (Sub.cons (t := 1) rfl (Sub.cons (t := 4) rfl (Sub.cons (t := 19) rfl (Sub.cons (t := 20) rfl (Sub.nil _)))))) (.cons .here rfl (.cons .here rfl (.cons .here rfl (Pick.same rfl)))) ?_
  intro k x kN kI
  have hx1 := kI
  refine RunC.seq ?_
  refine RunC.region ?_
  refine RunL.val (Val.pure rfl) rfl rfl rfl ?_
  refine RunL.nil ?_
  refine RunE.next ?_
  refine RunC.seq ?_
  refine RunC.cond rfl ?_ ?_
  · intro c1
    have c1' := c1; clear c1
    try simp only [decide_eq_true_eq, decide_eq_false_iff_not, Bool.not_eq_true', Bool.not_eq_false', Bool.and_eq_true, Bool.or_eq_true, Bool.and_eq_false_iff, Bool.or_eq_false_iff, Int.not_le, Int.not_lt] at c1'
    have hk : k < m.bxs.length := by omega
    obtain ⟨B, hB⟩ : ∃ B, m.bxs[k] = B := ⟨_, rfl⟩
    have hBm : B ∈ m.bxs := hB ▸ List.getElem_mem hk
    have hBl := many_mem hBm
    have hBT := hM.ti B hBm
    refine RunC.skip ?_
    refine RunE.next ?_
    refine RunC.seq ?_
    refine RunC.block ?_
    refine RunC.seq ?_
    refine RunC.region ?_
    refine RunL.val (Val.indexAddr_slp rfl rfl sl_22 (by omega) (by omega) (hM.bx.ptrM hk)) rfl rfl rfl ?_
    refine RunL.val (Val.load_gen rfl (fun w hm => hM.bx.loadX (by decide) hm (by simp) ty_46 hk hB)) rfl rfl rfl ?_
    refine RunL.new (New.alloc zero_46) rfl rfl rfl (fun b6 => ?_)
    refine RunL.sto (Sto.store rfl rfl .here ty_46 rfl rfl) rfl rfl ?_
    refine RunL.nil ?_
    refine RunE.next ?_
    refine RunC.seq ?_
    refine RunC.region ?_
    refine RunL.val (Val.fieldAddr rfl fld_46_1) rfl rfl rfl ?_
    refine RunL.val (Val.load_one rfl (.head _) ty_44 rfl) rfl rfl rfl ?_
    refine RunL.val (Val.len_sl rfl sl_44) rfl rfl rfl ?_
    refine RunL.val (Val.pure rfl) rfl rfl rfl ?_
    refine RunL.nil ?_
    refine RunE.next ?_
    refine RunC.block ?_
    refine RunC.loopX (X := Eng.Own) (n0 := [(b6, _), (b15, _), (b1, _)]) (B.bx.titles.length) (fun j y q => (28, .int .i64 (j : Int)) :: q) (fun _ _ => _) (fun j y => [(b17, .cells [.slice m.q m.bxs.length m.cap, .slice m.q2 m.cards.length m.cap2, ownV y (enK m k ++ boxEn B.bx.colour 0 (B.bx.titles.take j)).length, .slice none 0 0, .map (some b15)].toArray 73 (0, 0))]) (fun j y => ownB 95 y ((enK m k ++ boxEn B.bx.colour 0 (B.bx.titles.take j)).map En.cells).flatten ++ []) (fun j y => OwnOk 3 y (enK m k ++ boxEn B.bx.colour 0 (B.bx.titles.take j)).length ((enK m k ++ boxEn B.bx.colour 0 (B.bx.titles.take j)).map En.cells).flatten) x (by simpa [boxEn] using hx1) rfl (Sub.consE (t := 28) rfl rfl (Sub.cons (t := 1) rfl (Sub.cons (t := 4) rfl (Sub.cons (t := 6) rfl (Sub.cons (t := 19) rfl (Sub.cons (t := 20) rfl (Sub.cons (t := 21) rfl (Sub.cons (t := 26) rfl (Sub.cons (t := 27) rfl (Sub.nil _)))))))))) (.cons (.there .here) (by simp [boxEn]) (.cons .here rfl (.cons .here rfl (.cons .here rfl (Pick.same (by simp [boxEn])))))) ?_
    intro j y jN jI
    have hy1 := jI
    refine RunC.seq ?_
    refine RunC.region ?_
    refine RunL.val (Val.pure rfl) rfl rfl rfl ?_
    refine RunL.nil ?_
    refine RunE.next ?_
    refine RunC.seq ?_
    refine RunC.cond rfl ?_ ?_
    · intro c2
      have c2' := c2; clear c2
      try simp only [decide_eq_true_eq, decide_eq_false_iff_not, Bool.not_eq_true', Bool.not_eq_false', Bool.and_eq_true, Bool.or_eq_true, Bool.and_eq_false_iff, Bool.or_eq_false_iff, Int.not_le, Int.not_lt] at c2'
      have hj : j < B.bx.titles.length := by omega
      obtain ⟨S, hS⟩ : ∃ S, B.bx.titles[j] = S := ⟨_, rfl⟩
      have hlen : (enK m k ++ boxEn B.bx.colour 0 (B.bx.titles.take j)).length ≤ 100000 := by (rw [List.length_append, boxEn_len]; have h9 := enK_len hsm k; rw [List.length_take]; omega)
      have hS2 : enK m k ++ boxEn B.bx.colour 0 (B.bx.titles.take (j + 1)) = (enK m k ++ boxEn B.bx.colour 0 (B.bx.titles.take j)) ++ [⟨B.bx.colour, itoa (j + 1), S⟩] := by rw [List.take_succ_eq_append_getElem hj, hS, boxEn_snoc, List.append_assoc]; simp [Nat.min_eq_left (Nat.le_of_lt hj)]
      have hlen2 : (enK m k ++ boxEn B.bx.colour 0 (B.bx.titles.take j) ++ [(⟨B.bx.colour, itoa (j + 1), S⟩ : En)]).length = (enK m k ++ boxEn B.bx.colour 0 (B.bx.titles.take j)).length + 1 := by rw [List.length_append (bs := [_])]; rfl
      refine RunC.skip ?_
      refine RunE.next ?_
      refine RunC.seq ?_
      refine RunC.block ?_
      refine RunC.seq ?_
      refine RunC.region ?_
      refine RunL.val (Val.pure rfl) rfl rfl rfl ?_
      refine RunL.val (Val.indexAddr_slp rfl rfl sl_44 (by omega) (by omega) (hBT.ptrM hj)) rfl rfl rfl ?_
      refine RunL.val (Val.load_gen rfl (fun w hm => Sl.loadM1 hBT (by decide) hm (by simp) ty_9 hj (v := .string (bs S)) (by simp [hS]))) rfl rfl rfl ?_
      refine RunL.val (Val.pure rfl) rfl rfl rfl ?_
      refine RunL.val (Val.pure rfl) rfl rfl rfl ?_
      refine RunL.nil ?_
      refine RunE.next ?_
      refine RunC.draw 14 fol_ (.cons .here rfl (.cons .here rfl (.cons .here rfl (.cons .here rfl .nil)))) ?_
      refine RunA.val (i := 0) rfl (by kernel_rfl) (by kernel_rfl) (Val.pure rfl) rfl rfl rfl (fun _ _ _ h => h) (.cons .here rfl (.cons .here rfl (.cons .here rfl (.cons .here rfl .nil)))) rfl ?_
      refine RunA.val (i := 1) rfl (by kernel_rfl) (by kernel_rfl) (Val.pure rfl) rfl rfl rfl (fun _ _ _ h => h) (.cons .here rfl (.cons .here rfl (.cons .here rfl (.cons .here rfl .nil)))) rfl ?_
      refine RunA.val (i := 2) rfl (by kernel_rfl) (by kernel_rfl) (Val.pure rfl) rfl rfl rfl (fun _ _ _ h => h) (.cons .here rfl (.cons .here rfl (.cons .here rfl (.cons .here rfl .nil)))) rfl ?_
      refine RunA.val (i := 3) rfl (by kernel_rfl) (by kernel_rfl) (Val.fieldAddr rfl fld_73_1) rfl rfl rfl (fun _ _ _ h => h) (.cons .here rfl (.cons .here rfl (.cons .here rfl (.cons .here rfl .nil)))) rfl ?_
      refine RunA.val (i := 4) rfl (by kernel_rfl) (by kernel_rfl) (Val.load_one rfl (.head _) ty_69 rfl) rfl rfl rfl (fun _ _ _ h => h) (.cons .here rfl (.cons .here rfl (.cons .here rfl (.cons .here rfl .nil)))) rfl ?_
      refine RunA.val (i := 5) rfl (by kernel_rfl) (by kernel_rfl) (Val.fieldAddr rfl fld_46_0) rfl rfl rfl (fun _ _ _ h => h) (.cons .here rfl (.cons .here rfl (.cons .here rfl (.cons .here rfl .nil)))) rfl ?_
      refine RunA.val (i := 6) rfl (by kernel_rfl) (by kernel_rfl) (Val.load_one rfl (.tail _ (.head _)) ty_3 rfl) rfl rfl rfl (fun _ _ _ h => h) (.cons .here rfl (.cons .here rfl (.cons .here rfl (.cons .here rfl .nil)))) rfl ?_
      refine RunA.val (i := 7) rfl (by kernel_rfl) (by kernel_rfl) (Val.pure rfl) rfl rfl rfl (fun _ _ _ h => h) (.cons .here rfl (.cons .here rfl (.cons .here rfl (.cons .here rfl .nil)))) rfl ?_
      refine RunA.val (i := 8) rfl (by kernel_rfl) (by kernel_rfl) (Val.add rfl rfl (IntWalk.i64_in _ ⟨by omega, by omega⟩)) rfl rfl rfl (fun _ _ _ h => h) (.cons .here rfl (.cons .here rfl (.cons .here rfl (.cons .here rfl .nil)))) rfl ?_
      refine RunA.val (i := 10) rfl (by kernel_rfl) (by kernel_rfl) (Val.pure rfl) rfl rfl rfl (fun _ _ _ h => h) (.cons .here rfl (.cons .here rfl (.cons .here rfl (.cons .here rfl .nil)))) rfl ?_
      refine RunA.one (i := 9) (by kernel_rfl) (by kernel_rfl) ?_
      refine RunI.callP rfl (isCall_func rfl ent_63) rfl rfl rfl (fun w hm => itoa_calls (j + 1) (by omega) w) (RunK.toA (.cons .here rfl (.cons .here rfl (.cons .here rfl (.cons .here rfl .nil)))) (.cons .here rfl (.cons .here rfl (.cons .here rfl (.cons .here rfl .nil)))) rfl ?_)
      refine RunA.val (i := 11) rfl (by kernel_rfl) (by kernel_rfl) (Val.build (parts := [(0, .tmp 39), (1, .tmp 42), (2, .tmp 43)]) rfl zero_95 places_95 rfl) rfl rfl rfl (fun _ _ _ h => h) (.cons .here rfl (.cons .here rfl (.cons .here rfl (.cons .here rfl .nil)))) rfl ?_
      refine RunA.one (i := 12) (by kernel_rfl) (by kernel_rfl) ?_
      refine RunI.new rfl (New.buildSlice (parts := [(0, .tmp 44)]) rfl sl_69 zero_95 rfl rfl rfl rfl) rfl rfl rfl (fun b45 => (RunK.toA (.cons .here rfl (.cons .here rfl (.cons .here rfl (.cons .here rfl (.cons .here rfl .nil))))) (.cons (.there .here) rfl (.cons (.there .here) rfl (.cons (.there .here) rfl (.cons (.there .here) rfl .nil)))) rfl ?_))
      refine RunA.one (i := 13) (by kernel_rfl) (by kernel_rfl) ?_
      refine RunI.append (A := [(b45, _), (b17, _), (b6, _), (b15, _), (b1, _)]) (B := _) (x := y) (ys := (En.cells ⟨B.bx.colour, itoa (j + 1), S⟩)) rfl ap_69 rfl rfl rfl hy1 rfl (fun h => by cases h) (fun w hm => src_blk (hm.at (.head _))) (one_of (en_one _)) (by simp only [maxLen]; omega) (by omega) rfl (fun z46 hz46 => (RunK.toA (.cons .here rfl (.cons .here rfl (.cons .here rfl (.cons .here rfl (.cons .here rfl .nil))))) (.cons .here rfl (.cons .here rfl (.cons .here rfl (.cons .here rfl (.cons .here rfl .nil))))) rfl ?_))
      refine RunA.toB (by kernel_rfl) ?_
      refine RunB.one (i := 14) (by kernel_rfl) ?_
      obtain ⟨bz46, cz46, rz46, rfl, lz461, lz462, lz463⟩ := hz46.has (by simp)
      refine RunI.val rfl (Val.pure rfl) rfl rfl rfl (RunK.toB ?_)
      refine RunB.one (i := 15) (by kernel_rfl) ?_
      refine RunI.val rfl (Val.fieldAddr rfl fld_73_1) rfl rfl rfl (RunK.toB ?_)
      refine RunB.one (i := 16) (by kernel_rfl) ?_
      refine RunI.sto rfl (Sto.store rfl rfl (.there .here) ty_69 rfl rfl) rfl rfl (RunK.toB ?_)
      refine RunB.done (by kernel_rfl) ?_
      refine RunE.block_normal ?_
      refine RunE.next ?_
      refine RunC.region ?_
      refine RunL.val (Val.add rfl rfl (IntWalk.i64_in _ ⟨by omega, by omega⟩)) rfl rfl rfl ?_
      refine RunL.val (Val.pure rfl) rfl rfl rfl ?_
      refine RunL.nil ?_
      exact RunE.roundX (some (bz46, cz46, rz46)) (by omega) (by rw [hS2, ← flat_snoc, hlen2]; exact hz46) rfl (Sub.consE (t := 28) rfl rfl (Sub.cons (t := 1) rfl (Sub.cons (t := 4) rfl (Sub.cons (t := 6) rfl (Sub.cons (t := 19) rfl (Sub.cons (t := 20) rfl (Sub.cons (t := 21) rfl (Sub.cons (t := 26) rfl (Sub.cons (t := 27) rfl (Sub.nil _)))))))))) (.cons (.there .here) (by rw [hS2, hlen2]) (.cons (.there .here) rfl (.cons (.there .here) rfl (.cons (.there .here) rfl (.cons (.there .here) (by rw [hS2, ← flat_snoc]) .nil)))))
    · intro c2
      have c2' := c2; clear c2
      try simp only [decide_eq_true_eq, decide_eq_false_iff_not, Bool.not_eq_true', Bool.not_eq_false', Bool.and_eq_true, Bool.or_eq_true, Bool.and_eq_false_iff, Bool.or_eq_false_iff, Int.not_le, Int.not_lt] at c2'
      obtain rfl : j = B.bx.titles.length := by omega
      rw [List.take_length] at hy1
      simp only [List.take_length]
      refine RunC.exit ?_
      refine RunE.pass_exit ?_
      refine RunE.pass_exit ?_
      refine RunE.block_here ?_
      refine RunE.block_normal ?_
      refine RunE.next ?_
      refine RunC.region ?_
      refine RunL.val (Val.add rfl rfl (IntWalk.i64_in _ ⟨by omega, by omega⟩)) rfl rfl rfl ?_
      refine RunL.val (Val.pure rfl) rfl rfl rfl ?_
      refine RunL.nil ?_
      exact RunE.roundX y (by omega) (by rw [enK_snoc hk hB]; exact hy1) rfl (Sub.consE (t := 21) rfl rfl (Sub.cons (t := 1) rfl (Sub.cons (t := 4) rfl (Sub.cons (t := 19) rfl (Sub.cons (t := 20) rfl (Sub.nil _)))))) (.cons .here (by rw [enK_snoc hk hB]) (.cons (.there .here) rfl (.cons (.there .here) rfl (Pick.skip (Pick.same (by rw [enK_snoc hk hB]))))))
  · intro c1
    have c1' := c1; clear c1
    try simp only [decide_eq_true_eq, decide_eq_false_iff_not, Bool.not_eq_true', Bool.not_eq_false', Bool.and_eq_true, Bool.or_eq_true, Bool.and_eq_false_iff, Bool.or_eq_false_iff, Int.not_le, Int.not_lt] at c1'
    obtain rfl : k = m.bxs.length := by omega
    rw [enK_all] at hx1
    have y1 : ownV x (esX m).length = .slice (ownQ x) (esX m).length (ownC x) := ownV_slice hx1
    simp only [enK_all, y1]
    refine RunC.exit ?_
    refine RunE.pass_exit ?_
    refine RunE.pass_exit ?_
    refine RunE.block_here ?_
    refine RunE.next ?_
    refine RunC.seq ?_
    refine RunC.seq ?_
    refine RunC.region ?_
    refine RunL.val (Val.fieldAddr rfl fld_25_1) rfl rfl rfl ?_
    refine RunL.val (Val.load_one rfl (.tail _ (.tail _ (.head _))) ty_23 rfl) rfl rfl rfl ?_
    refine RunL.val (Val.len_sl rfl sl_23) rfl rfl rfl ?_
    refine RunL.val (Val.pure rfl) rfl rfl rfl ?_
    refine RunL.nil ?_
    refine RunE.next ?_
    refine RunC.block ?_
    refine RunC.loopX (X := Eng.Own) (n0 := [(b15, _), (b1, _)]) (m.cards.length) (fun l f q => (54, .int .i64 (l : Int)) :: q) (fun _ _ => _) (fun l f => [(b17, .cells [.slice m.q m.bxs.length m.cap, .slice m.q2 m.cards.length m.cap2, .slice (ownQ x) (esX m).length (ownC x), ownV f l, .map (some b15)].toArray 73 (0, 0))]) (fun l f => ownB 68 f (setsV ((m.cards.take l).map (fitsX m.pl))).flatten ++ (ownB 95 x ((esX m).map En.cells).flatten ++ [])) (fun l f => OwnOk 1 f l (setsV ((m.cards.take l).map (fitsX m.pl))).flatten) none OwnOk.start rfl (Sub.consE (t := 54) rfl rfl (Sub.cons (t := 1) rfl (Sub.cons (t := 4) rfl (Sub.cons (t := 52) rfl (Sub.cons (t := 53) rfl (Sub.nil _)))))) (.cons .here rfl (.cons .here rfl (.cons .here rfl (Pick.same rfl)))) ?_
    intro l f lN lI
    have hf1 := lI
    refine RunC.seq ?_
    refine RunC.region ?_
    refine RunL.val (Val.pure rfl) rfl rfl rfl ?_
    refine RunL.nil ?_
    refine RunE.next ?_
    refine RunC.seq ?_
    refine RunC.cond rfl ?_ ?_
    · intro c3
      have c3' := c3; clear c3
      try simp only [decide_eq_true_eq, decide_eq_false_iff_not, Bool.not_eq_true', Bool.not_eq_false', Bool.and_eq_true, Bool.or_eq_true, Bool.and_eq_false_iff, Bool.or_eq_false_iff, Int.not_le, Int.not_lt] at c3'
      have hl : l < m.cards.length := by omega
      obtain ⟨c, hc⟩ : ∃ c, m.cards[l] = c := ⟨_, rfl⟩
      have hct := hsm.tx c (hc ▸ List.getElem_mem hl)
      have hS3 : (setsV ((m.cards.take (l + 1)).map (fitsX m.pl))).flatten = (setsV ((m.cards.take l).map (fitsX m.pl))).flatten ++ [.int .u64 ((fitsX m.pl c : Nat) : Int)] := by rw [List.take_succ_eq_append_getElem hl, hc, List.map_append]; simp [setsV]
      refine RunC.skip ?_
      refine RunE.next ?_
      refine RunC.seq ?_
      refine RunC.block ?_
      refine RunC.seq ?_
      refine RunC.region ?_
      refine RunL.val (Val.indexAddr_slp rfl rfl sl_23 (by omega) (by omega) (hM.cd.ptrM hl)) rfl rfl rfl ?_
      refine RunL.val (Val.load_gen rfl (fun w hm => hM.cd.loadX (by decide) hm (by simp) ty_50 hl hc)) rfl rfl rfl ?_
      refine RunL.new (New.alloc zero_50) rfl rfl rfl (fun b10 => ?_)
      refine RunL.sto (Sto.store rfl rfl .here ty_50 rfl rfl) rfl rfl ?_
      refine RunL.nil ?_
      refine RunE.next ?_
      refine RunC.draw 10 fol_ (.cons .here rfl (.cons .here rfl (.cons .here rfl (.cons .here rfl .nil)))) ?_
      refine RunA.val (i := 0) rfl (by kernel_rfl) (by kernel_rfl) (Val.pure rfl) rfl rfl rfl (fun _ _ _ h => h) (.cons .here rfl (.cons .here rfl (.cons .here rfl (.cons .here rfl .nil)))) rfl ?_
      refine RunA.val (i := 1) rfl (by kernel_rfl) (by kernel_rfl) (Val.pure rfl) rfl rfl rfl (fun _ _ _ h => h) (.cons .here rfl (.cons .here rfl (.cons .here rfl (.cons .here rfl .nil)))) rfl ?_
      refine RunA.val (i := 2) rfl (by kernel_rfl) (by kernel_rfl) (Val.pure rfl) rfl rfl rfl (fun _ _ _ h => h) (.cons .here rfl (.cons .here rfl (.cons .here rfl (.cons .here rfl .nil)))) rfl ?_
      refine RunA.val (i := 3) rfl (by kernel_rfl) (by kernel_rfl) (Val.fieldAddr rfl fld_73_2) rfl rfl rfl (fun _ _ _ h => h) (.cons .here rfl (.cons .here rfl (.cons .here rfl (.cons .here rfl .nil)))) rfl ?_
      refine RunA.val (i := 4) rfl (by kernel_rfl) (by kernel_rfl) (Val.load_one rfl (.tail _ (.head _)) ty_70 rfl) rfl rfl rfl (fun _ _ _ h => h) (.cons .here rfl (.cons .here rfl (.cons .here rfl (.cons .here rfl .nil)))) rfl ?_
      refine RunA.val (i := 5) rfl (by kernel_rfl) (by kernel_rfl) (Val.pure rfl) rfl rfl rfl (fun _ _ _ h => h) (.cons .here rfl (.cons .here rfl (.cons .here rfl (.cons .here rfl .nil)))) rfl ?_
      refine RunA.val (i := 6) rfl (by kernel_rfl) (by kernel_rfl) (Val.load_agg rfl (.head _) ty_50 rfl) rfl rfl rfl (fun _ _ _ h => h) (.cons .here rfl (.cons .here rfl (.cons .here rfl (.cons .here rfl .nil)))) rfl ?_
      refine RunA.one (i := 7) (by kernel_rfl) (by kernel_rfl) ?_
      refine RunI.callP rfl (isCall_func rfl ent_64) rfl rfl rfl (fun w hm => fit_calls c hct (esX m) he12 hen b17 _ _ _ _ (ownQ x) (ownK x) (ownC x) w (hm.at (.tail _ (.head _))) (own_sl en_len (by decide) hx1 (fun b o h => hm.at (.tail _ (.tail _ (.tail _ (.tail _ ((by first | exact List.mem_append_right _ (List.mem_append_left _ h) | exact List.mem_append_right _ (List.mem_append_right _ (List.mem_append_left _ h))))))))))) (RunK.toA (.cons .here rfl (.cons .here rfl (.cons .here rfl (.cons .here rfl .nil)))) (.cons .here rfl (.cons .here rfl (.cons .here rfl (.cons .here rfl .nil)))) rfl ?_)
      refine RunA.one (i := 8) (by kernel_rfl) (by kernel_rfl) ?_
      refine RunI.new rfl (New.buildSlice (parts := [(0, .tmp 65)]) rfl sl_70 zero_68 rfl rfl rfl rfl) rfl rfl rfl (fun b66 => (RunK.toA (.cons .here rfl (.cons .here rfl (.cons .here rfl (.cons .here rfl (.cons .here rfl .nil))))) (.cons (.there .here) rfl (.cons (.there .here) rfl (.cons (.there .here) rfl (.cons (.there .here) rfl .nil)))) rfl ?_))
      refine RunA.one (i := 9) (by kernel_rfl) (by kernel_rfl) ?_
      refine RunI.append (A := [(b66, _), (b10, _), (b17, _), (b15, _), (b1, _)]) (B := _) (x := f) (ys := [.int .u64 ((fitsX m.pl c : Nat) : Int)]) rfl ap_70 rfl rfl rfl hf1 rfl (fun h => by cases h) (fun w hm => src_blk (hm.at (.head _))) (one_of rfl) (by simp only [maxLen]; omega) (by omega) rfl (fun z67 hz67 => (RunK.toA (.cons .here rfl (.cons .here rfl (.cons .here rfl (.cons .here rfl (.cons .here rfl .nil))))) (.cons .here rfl (.cons .here rfl (.cons .here rfl (.cons .here rfl (.cons .here rfl .nil))))) rfl ?_))
      refine RunA.toB (by kernel_rfl) ?_
      refine RunB.one (i := 10) (by kernel_rfl) ?_
      obtain ⟨bz67, cz67, rz67, rfl, lz671, lz672, lz673⟩ := hz67.has (by omega)
      refine RunI.val rfl (Val.pure rfl) rfl rfl rfl (RunK.toB ?_)
      refine RunB.one (i := 11) (by kernel_rfl) ?_
      refine RunI.val rfl (Val.fieldAddr rfl fld_73_2) rfl rfl rfl (RunK.toB ?_)
      refine RunB.one (i := 12) (by kernel_rfl) ?_
      refine RunI.sto rfl (Sto.store rfl rfl (.there (.there .here)) ty_70 rfl rfl) rfl rfl (RunK.toB ?_)
      refine RunB.done (by kernel_rfl) ?_
      refine RunE.block_normal ?_
      refine RunE.next ?_
      refine RunC.region ?_
      refine RunL.val (Val.add rfl rfl (IntWalk.i64_in _ ⟨by omega, by omega⟩)) rfl rfl rfl ?_
      refine RunL.val (Val.pure rfl) rfl rfl rfl ?_
      refine RunL.nil ?_
      exact RunE.roundX (some (bz67, cz67, rz67)) (by omega) (by rw [hS3]; exact hz67) rfl (Sub.consE (t := 54) rfl rfl (Sub.cons (t := 1) rfl (Sub.cons (t := 4) rfl (Sub.cons (t := 52) rfl (Sub.cons (t := 53) rfl (Sub.nil _)))))) (.cons (.there (.there .here)) rfl (.cons (.there (.there .here)) rfl (.cons (.there (.there .here)) rfl (.cons (.there (.there .here)) (by rw [hS3]) (Pick.skip (Pick.skip (Pick.refl _)))))))
    · intro c3
      have c3' := c3; clear c3
      try simp only [decide_eq_true_eq, decide_eq_false_iff_not, Bool.not_eq_true', Bool.not_eq_false', Bool.and_eq_true, Bool.or_eq_true, Bool.and_eq_false_iff, Bool.or_eq_false_iff, Int.not_le, Int.not_lt] at c3'
      obtain rfl : l = m.cards.length := by omega
      refine RunC.exit ?_
      refine RunE.pass_exit ?_
      refine RunE.pass_exit ?_
      refine RunE.block_here ?_
      refine RunE.next ?_
      refine RunC.seq ?_
      refine RunC.region ?_
      iterate 3 refine RunL.val (Val.pure rfl) rfl rfl rfl ?_
      refine RunL.nil ?_
      refine RunE.next ?_
      refine RunC.ret ?_
      rw [List.take_length] at hf1
      have y2 : ownV f m.cards.length = .slice (ownQ f) (fsX m.pl).length (ownC f) := by rw [ownV_slice hf1]; simp [fsX, MxA.pl]
      simp only [List.take_length, y2]
      exact RunE.ret (chg := []) (.r2 rfl (.tmp rfl) (.tmp rfl)) (fun _ hm => ⟨⟨⟨b17, b15, x, f⟩, hx1, (by rw [show (fsX m.pl).length = m.cards.length by simp [fsX, MxA.pl]]; exact hf1)⟩, rfl, hm.pick (.cons .here rfl (.cons .here rfl (Pick.skip (Pick.refl _))))⟩)
end Go.Proofs.YtlhdalcipflblaaDoor
