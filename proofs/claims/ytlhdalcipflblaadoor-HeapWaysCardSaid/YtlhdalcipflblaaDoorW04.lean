/- Walks of the laws of layer 10: far; of the reference: titles, pieces, boxes. -/
import Derived.Test.YtlhdalcipflblaaDoorW03
set_option linter.unusedSimpArgs false
set_option linter.unusedVariables false
namespace Go.Hp
open Go Go.Eng Go.Pw1
def farT (t : Str) : Bool := decide (100 < t.length)
def farB (b : Bx) : Bool := decide (30 < b.titles.length) || b.titles.any farT
def farC (t : Tn) : Bool := decide (100 < t.number.length) || decide (100 < t.text.length)
def farX (m : Mx) : Bool := decide (12 < m.boxes.length) || decide (20 < m.cards.length) || m.boxes.any farB || m.cards.any farC
theorem far_len {m : MxA} (h : 12 < (m.bxs.length : Int) ∨ 20 < (m.cards.length : Int)) : farX m.pl = true := by
  unfold farX MxA.pl
  simp only [List.length_map]
  rcases h with h | h
  · have : 12 < m.bxs.length := by omega
    simp [this]
  · have : 20 < m.cards.length := by omega
    simp [this]
theorem far_box {m : MxA} {k : Nat} (hk : k < m.bxs.length) (h : farB m.bxs[k].bx = true) : farX m.pl = true := by
  have : (m.bxs.map (·.bx)).any farB = true := List.any_eq_true.2 ⟨_, List.mem_map.2 ⟨_, List.getElem_mem hk, rfl⟩, h⟩
  unfold farX MxA.pl
  simp only [this]
  simp
theorem far_tit {b : Bx} {j : Nat} (hj : j < b.titles.length) (h : farT b.titles[j] = true) : farB b = true := by
  have : b.titles.any farT = true := List.any_eq_true.2 ⟨_, List.getElem_mem hj, h⟩
  unfold farB
  simp [this]
theorem far_card {m : MxA} {k : Nat} (hk : k < m.cards.length) (h : farC m.cards[k] = true) : farX m.pl = true := by
  have : m.cards.any farC = true := List.any_eq_true.2 ⟨_, List.getElem_mem hk, h⟩
  unfold farX MxA.pl
  simp only [this]
  simp
theorem any_map_bx {p : Bx → Bool} : ∀ l : List BxA, (l.map (·.bx)).any p = l.any fun B => p B.bx
  | [] => rfl
  | _ :: l => by simp only [List.map_cons, List.any_cons, any_map_bx l]
theorem far_no {m : MxA} (h1 : m.bxs.length ≤ 12) (h2 : m.cards.length ≤ 20) (h3 : m.bxs.any (fun B => farB B.bx) = false) (h4 : m.cards.any farC = false) : farX m.pl = false := by
  have e1 : ¬ 12 < m.bxs.length := by omega
  have e2 : ¬ 20 < m.cards.length := by omega
  unfold farX MxA.pl
  simp only [List.length_map, any_map_bx, h3, h4, e1, e2]
  simp
theorem far_sm {m : MxA} (h : farX m.pl = false) : MSm m := by
  unfold farX MxA.pl at h
  simp only [List.length_map, any_map_bx, Bool.or_eq_false_iff, decide_eq_false_iff_not, List.any_eq_false] at h
  obtain ⟨⟨⟨h1, h2⟩, h3⟩, h4⟩ := h
  refine ⟨by omega, by omega, fun x hx => ?_, fun t ht => ?_⟩
  · have h5 := h3 x hx
    simp only [farB, Bool.or_eq_true, decide_eq_true_eq, List.any_eq_true, not_or, not_exists, not_and, farT] at h5
    exact ⟨by omega, fun t ht => by have := h5.2 t ht; omega⟩
  · have h5 := h4 t ht
    simp only [farC, Bool.or_eq_true, decide_eq_true_eq, not_or] at h5
    omega
theorem far_bd {m : MxA} (h : farX m.pl = false) : m.bxs.length ≤ 12 ∧ m.cards.length ≤ 20 := by
  unfold farX MxA.pl at h
  simp only [List.length_map, any_map_bx, Bool.or_eq_false_iff, decide_eq_false_iff_not] at h
  omega
/-! ## The reference's titles and pieces -/
theorem all_count (p : UInt8 → Bool) : ∀ s : Str, s.all p = decide (s.countP p = s.length)
  | [] => by simp
  | c :: s => by
    have hle := List.countP_le_length (p := p) (l := s)
    rw [List.all_cons, all_count p s, List.countP_cons, List.length_cons]
    cases p c
    · simp only [Bool.false_and, Bool.false_eq_true, if_false, Nat.add_zero]
      exact (decide_eq_false (by omega)).symm
    · simp only [Bool.true_and, if_true]
      exact decide_eq_decide.2 (by omega)
theorem title_no {s : Str} {k : Nat} (hk : k < s.length) (h : letterX s[k] = false) : badTitle s = true := by
  have h1 : s.all letterX = false := by
    rw [List.all_eq_false]
    exact ⟨_, List.getElem_mem hk, by simp [h]⟩
  rw [all_count, decide_eq_false_iff_not] at h1
  have hle := List.countP_le_length (p := letterX) (l := s)
  unfold badTitle
  have : s.countP letterX < s.length := by omega
  simp [this]
theorem title_yes {s : Str} (h : s.all letterX = true) : badTitle s = !within s.length 1 12 := by
  rw [all_count, decide_eq_true_eq] at h
  unfold badTitle
  have : ¬ s.countP letterX < s.length := by omega
  simp [this]
theorem all_snoc {p : UInt8 → Bool} {s : Str} {k : Nat} (hk : k < s.length) (h : (s.take k).all p = true) (h2 : p s[k] = true) : (s.take (k + 1)).all p = true := by
  rw [List.take_succ_eq_append_getElem hk, List.all_append, h]
  simp [h2]
theorem piece_no {s : Str} {k : Nat} (hk : k < s.length) (h : goodX s[k] = false) : pieceX s = false := by
  have h1 : s.all goodX = false := by
    rw [List.all_eq_false]
    exact ⟨_, List.getElem_mem hk, by simp [h]⟩
  rw [all_count, decide_eq_false_iff_not] at h1
  unfold pieceX
  simp [h1]
theorem piece_yes {s : Str} (h : s.all goodX = true) : pieceX s = (decide (s.length ≤ 12) && decide (s.countP starX ≤ 1)) := by
  rw [all_count, decide_eq_true_eq] at h
  unfold pieceX
  simp [h]
theorem mixed_eq (m : MxA) : mixedX m.pl = (decide (m.bxs.length ≤ 4) && decide (m.cards.length ≤ 8) && !m.bxs.any (fun B => badBox B.bx) && decide (manyX (m.bxs.map (·.bx)) ≤ 12) && !m.cards.any badCard) := by
  unfold mixedX MxA.pl
  simp only [List.length_map, any_map_bx]
theorem mixed_box {m : MxA} {k : Nat} (hk : k < m.bxs.length) (h : badBox m.bxs[k].bx = true) : mixedX m.pl = false := by
  have h1 : m.bxs.any (fun B => badBox B.bx) = true := List.any_eq_true.2 ⟨_, List.getElem_mem hk, h⟩
  rw [mixed_eq, h1]
  simp
theorem mixed_card {m : MxA} {k : Nat} (hk : k < m.cards.length) (h : badCard m.cards[k] = true) : mixedX m.pl = false := by
  have h1 : m.cards.any badCard = true := List.any_eq_true.2 ⟨_, List.getElem_mem hk, h⟩
  rw [mixed_eq, h1]
  simp
theorem box_title {b : Bx} {j : Nat} (hj : j < b.titles.length) (h : badTitle b.titles[j] = true) : badBox b = true := by
  have h1 : b.titles.any badTitle = true := List.any_eq_true.2 ⟨_, List.getElem_mem hj, h⟩
  unfold badBox
  simp [h1]
end Go.Hp
namespace Go.Proofs.YtlhdalcipflblaaDoor
open Go Go.Eng Go.Hp Go.Pw1

theorem far_calls (m : MxA) (W : World) (hM : MOk W m) : Calls Tryd.prog 12 #[m.v] W (Pure (.bool (farX m.pl)) W) := by
  refine calls_start Tryd.func12 rfl rfl ?_
  refine RunC.seq ?_
  refine RunC.region ?_
  refine RunL.new (New.box rfl) rfl rfl rfl (fun b1 => ?_)
  refine RunL.val (Val.pure rfl) rfl rfl rfl ?_
  refine RunL.nil ?_
  refine RunE.next ?_
  refine RunC.seq ?_
  refine RunC.seq ?_
  refine RunC.region ?_
  refine RunL.val (Val.fieldAddr rfl fld_25_0) rfl rfl rfl ?_
  refine RunL.val (Val.load_one rfl (.head _) ty_22 rfl) rfl rfl rfl ?_
  refine RunL.val (Val.len_sl rfl sl_22) rfl rfl rfl ?_
  refine RunL.val (Val.pure rfl) rfl rfl rfl ?_
  refine RunL.val (Val.pure rfl) rfl rfl rfl ?_
  refine RunL.orPart (dj := 10) (dp := 15) 5 rfl (fun g10 => by
    have g10' := g10
    try simp only [decide_eq_true_eq, decide_eq_false_iff_not, Bool.not_eq_true', Bool.not_eq_false', Bool.and_eq_true, Bool.or_eq_true, Bool.and_eq_false_iff, Bool.or_eq_false_iff, Int.not_le, Int.not_lt] at g10'
    refine RunL.val (Val.fieldAddr rfl fld_25_1) rfl rfl rfl ?_
    refine RunL.val (Val.load_one rfl (.head _) ty_23 rfl) rfl rfl rfl ?_
    refine RunL.val (Val.len_sl rfl sl_23) rfl rfl rfl ?_
    refine RunL.val (Val.pure rfl) rfl rfl rfl ?_
    refine RunL.val (Val.pure rfl) rfl rfl rfl ?_
    exact RunL.segEnd (Sub.cons rfl (Sub.skip rfl (Sub.skip rfl (Sub.skip rfl (Sub.skip rfl (Sub.skip rfl (Sub.same rfl (by rw [g10]) (Sub.refl _)))))))) (List.Sublist.refl _)
  ) (fun g10 => by
    have g10' := g10
    try simp only [decide_eq_true_eq, decide_eq_false_iff_not, Bool.not_eq_true', Bool.not_eq_false', Bool.and_eq_true, Bool.or_eq_true, Bool.and_eq_false_iff, Bool.or_eq_false_iff, Int.not_le, Int.not_lt] at g10'
    iterate 4 refine RunL.no rfl rfl rfl ?_
    refine RunL.val (Val.pure rfl) rfl rfl rfl ?_
    exact RunL.segEnd (Sub.cons rfl (Sub.skip rfl (Sub.skip rfl (Sub.skip rfl (Sub.skip rfl (Sub.skip rfl (Sub.same rfl (by rw [g10]) (Sub.refl _)))))))) (List.Sublist.refl _)
  ) ?_
  refine RunL.nil ?_
  refine RunE.next ?_
  refine RunC.cond rfl ?_ ?_
  · intro c0
    have c0' := c0; clear c0
    try simp only [decide_eq_true_eq, decide_eq_false_iff_not, Bool.not_eq_true', Bool.not_eq_false', Bool.and_eq_true, Bool.or_eq_true, Bool.and_eq_false_iff, Bool.or_eq_false_iff, Int.not_le, Int.not_lt] at c0'
    refine RunC.seq ?_
    refine RunC.region ?_
    refine RunL.val (Val.pure rfl) rfl rfl rfl ?_
    refine RunL.nil ?_
    refine RunE.next ?_
    refine RunC.ret ?_
    refine RunE.pass_ret ?_
    exact RunE.retP (.r1 rfl (.tmp rfl)) (by rw [far_len (by omega)])
  · intro c0
    have c0' := c0; clear c0
    try simp only [decide_eq_true_eq, decide_eq_false_iff_not, Bool.not_eq_true', Bool.not_eq_false', Bool.and_eq_true, Bool.or_eq_true, Bool.and_eq_false_iff, Bool.or_eq_false_iff, Int.not_le, Int.not_lt] at c0'
    refine RunC.skip ?_
    refine RunE.next ?_
    refine RunC.seq ?_
    refine RunC.seq ?_
    refine RunC.region ?_
    refine RunL.val (Val.pure rfl) rfl rfl rfl ?_
    refine RunL.nil ?_
    refine RunE.next ?_
    refine RunC.block ?_
    refine RunC.loopK (m.bxs.length) (fun k q => (3, .int .i64 (k : Int)) :: q) (fun _ => _) (fun _ => []) (fun k => (m.bxs.take k).any (fun B => farB B.bx) = false) (by simp) rfl (Sub.consE (t := 3) rfl rfl (Sub.cons (t := 1) rfl (Sub.nil _))) (.cons .here rfl .nil) ?_
    intro k kN kI
    refine RunC.seq ?_
    refine RunC.seq ?_
    refine RunC.region ?_
    refine RunL.val (Val.pure rfl) rfl rfl rfl ?_
    refine RunL.val (Val.fieldAddr rfl fld_25_0) rfl rfl rfl ?_
    refine RunL.val (Val.load_one rfl (.head _) ty_22 rfl) rfl rfl rfl ?_
    refine RunL.val (Val.len_sl rfl sl_22) rfl rfl rfl ?_
    refine RunL.val (Val.pure rfl) rfl rfl rfl ?_
    refine RunL.nil ?_
    refine RunE.next ?_
    refine RunC.cond rfl ?_ ?_
    · intro c1
      have c1' := c1; clear c1
      try simp only [decide_eq_true_eq, decide_eq_false_iff_not, Bool.not_eq_true', Bool.not_eq_false', Bool.and_eq_true, Bool.or_eq_true, Bool.and_eq_false_iff, Bool.or_eq_false_iff, Int.not_le, Int.not_lt] at c1'
      have hk : k < m.bxs.length := by omega
      obtain ⟨B, hB⟩ : ∃ B, m.bxs[k] = B := ⟨_, rfl⟩
      have hBT := hM.ti B (hB ▸ List.getElem_mem hk)
      refine RunC.skip ?_
      refine RunE.next ?_
      refine RunC.seq ?_
      refine RunC.block ?_
      refine RunC.seq ?_
      refine RunC.seq ?_
      refine RunC.region ?_
      refine RunL.val (Val.fieldAddr rfl fld_25_0) rfl rfl rfl ?_
      refine RunL.val (Val.load_one rfl (.head _) ty_22 rfl) rfl rfl rfl ?_
      refine RunL.val (Val.pure rfl) rfl rfl rfl ?_
      refine RunL.val (Val.indexAddr_slp rfl rfl sl_22 (by omega) (by omega) (hM.bx.ptrM hk)) rfl rfl rfl ?_
      refine RunL.val (Val.fieldAddr rfl fld_46_1) rfl rfl rfl ?_
      refine RunL.val (Val.load_gen rfl (fun w hm => hM.bx.cellX hm (by simp) ty_44 hk hB (j := 1) (by decide) rfl)) rfl rfl rfl ?_
      refine RunL.val (Val.len_sl rfl sl_44) rfl rfl rfl ?_
      refine RunL.val (Val.pure rfl) rfl rfl rfl ?_
      refine RunL.nil ?_
      refine RunE.next ?_
      refine RunC.cond rfl ?_ ?_
      · intro c2
        have c2' := c2; clear c2
        try simp only [decide_eq_true_eq, decide_eq_false_iff_not, Bool.not_eq_true', Bool.not_eq_false', Bool.and_eq_true, Bool.or_eq_true, Bool.and_eq_false_iff, Bool.or_eq_false_iff, Int.not_le, Int.not_lt] at c2'
        refine RunC.seq ?_
        refine RunC.region ?_
        refine RunL.val (Val.pure rfl) rfl rfl rfl ?_
        refine RunL.nil ?_
        refine RunE.next ?_
        refine RunC.ret ?_
        refine RunE.pass_ret ?_
        refine RunE.block_ret ?_
        refine RunE.pass_ret ?_
        refine RunE.pass_ret ?_
        refine RunE.block_ret ?_
        refine RunE.pass_ret ?_
        exact RunE.retP (.r1 rfl (.tmp rfl)) (by rw [far_box hk (by (rw [hB]; unfold farB; simp; omega))])
      · intro c2
        have c2' := c2; clear c2
        try simp only [decide_eq_true_eq, decide_eq_false_iff_not, Bool.not_eq_true', Bool.not_eq_false', Bool.and_eq_true, Bool.or_eq_true, Bool.and_eq_false_iff, Bool.or_eq_false_iff, Int.not_le, Int.not_lt] at c2'
        refine RunC.skip ?_
        refine RunE.next ?_
        refine RunC.seq ?_
        refine RunC.region ?_
        refine RunL.val (Val.pure rfl) rfl rfl rfl ?_
        refine RunL.nil ?_
        refine RunE.next ?_
        refine RunC.block ?_
        refine RunC.loopK (B.bx.titles.length) (fun j q => (4, .int .i64 (j : Int)) :: q) (fun _ => _) (fun _ => []) (fun j => (B.bx.titles.take j).any farT = false) (by simp) rfl (Sub.consE (t := 4) rfl rfl (Sub.cons (t := 1) rfl (Sub.cons (t := 3) rfl (Sub.nil _)))) (.cons .here rfl .nil) ?_
        intro j jN jI
        refine RunC.seq ?_
        refine RunC.seq ?_
        refine RunC.region ?_
        refine RunL.val (Val.pure rfl) rfl rfl rfl ?_
        refine RunL.val (Val.fieldAddr rfl fld_25_0) rfl rfl rfl ?_
        refine RunL.val (Val.load_one rfl (.head _) ty_22 rfl) rfl rfl rfl ?_
        refine RunL.val (Val.pure rfl) rfl rfl rfl ?_
        refine RunL.val (Val.indexAddr_slp rfl rfl sl_22 (by omega) (by omega) (hM.bx.ptrM hk)) rfl rfl rfl ?_
        refine RunL.val (Val.fieldAddr rfl fld_46_1) rfl rfl rfl ?_
        refine RunL.val (Val.load_gen rfl (fun w hm => hM.bx.cellX hm (by simp) ty_44 hk hB (j := 1) (by decide) rfl)) rfl rfl rfl ?_
        refine RunL.val (Val.len_sl rfl sl_44) rfl rfl rfl ?_
        refine RunL.val (Val.pure rfl) rfl rfl rfl ?_
        refine RunL.nil ?_
        refine RunE.next ?_
        refine RunC.cond rfl ?_ ?_
        · intro c3
          have c3' := c3; clear c3
          try simp only [decide_eq_true_eq, decide_eq_false_iff_not, Bool.not_eq_true', Bool.not_eq_false', Bool.and_eq_true, Bool.or_eq_true, Bool.and_eq_false_iff, Bool.or_eq_false_iff, Int.not_le, Int.not_lt] at c3'
          have hj : j < B.bx.titles.length := by omega
          obtain ⟨S, hS⟩ : ∃ S, B.bx.titles[j] = S := ⟨_, rfl⟩
          refine RunC.skip ?_
          refine RunE.next ?_
          refine RunC.seq ?_
          refine RunC.block ?_
          refine RunC.seq ?_
          refine RunC.region ?_
          refine RunL.val (Val.fieldAddr rfl fld_25_0) rfl rfl rfl ?_
          refine RunL.val (Val.load_one rfl (.head _) ty_22 rfl) rfl rfl rfl ?_
          refine RunL.val (Val.pure rfl) rfl rfl rfl ?_
          refine RunL.val (Val.indexAddr_slp rfl rfl sl_22 (by omega) (by omega) (hM.bx.ptrM hk)) rfl rfl rfl ?_
          refine RunL.val (Val.fieldAddr rfl fld_46_1) rfl rfl rfl ?_
          refine RunL.val (Val.load_gen rfl (fun w hm => hM.bx.cellX hm (by simp) ty_44 hk hB (j := 1) (by decide) rfl)) rfl rfl rfl ?_
          refine RunL.val (Val.pure rfl) rfl rfl rfl ?_
          refine RunL.val (Val.indexAddr_slp rfl rfl sl_44 (by omega) (by omega) (hBT.ptrM hj)) rfl rfl rfl ?_
          refine RunL.val (Val.load_gen rfl (fun w hm => Sl.loadM1 hBT (by decide) hm (by simp) ty_9 hj (v := .string (bs S)) (by simp [hS]))) rfl rfl rfl ?_
          refine RunL.val (Val.lenS rfl und_9) rfl rfl rfl ?_
          refine RunL.val (Val.pure rfl) rfl rfl rfl ?_
          refine RunL.nil ?_
          refine RunE.next ?_
          refine RunC.cond rfl ?_ ?_
          · intro c4
            have c4' := c4; clear c4
            try simp only [decide_eq_true_eq, decide_eq_false_iff_not, Bool.not_eq_true', Bool.not_eq_false', Bool.and_eq_true, Bool.or_eq_true, Bool.and_eq_false_iff, Bool.or_eq_false_iff, Int.not_le, Int.not_lt] at c4'
            refine RunC.seq ?_
            refine RunC.region ?_
            refine RunL.val (Val.pure rfl) rfl rfl rfl ?_
            refine RunL.nil ?_
            refine RunE.next ?_
            refine RunC.ret ?_
            refine RunE.block_ret ?_
            refine RunE.pass_ret ?_
            refine RunE.pass_ret ?_
            refine RunE.block_ret ?_
            refine RunE.block_ret ?_
            refine RunE.pass_ret ?_
            refine RunE.pass_ret ?_
            refine RunE.block_ret ?_
            refine RunE.pass_ret ?_
            exact RunE.retP (.r1 rfl (.tmp rfl)) (by rw [far_box hk (by (rw [hB]; exact far_tit hj (by (rw [hS]; exact decide_eq_true (by omega)))))])
          · intro c4
            have c4' := c4; clear c4
            try simp only [decide_eq_true_eq, decide_eq_false_iff_not, Bool.not_eq_true', Bool.not_eq_false', Bool.and_eq_true, Bool.or_eq_true, Bool.and_eq_false_iff, Bool.or_eq_false_iff, Int.not_le, Int.not_lt] at c4'
            refine RunC.skip ?_
            refine RunE.block_normal ?_
            refine RunE.next ?_
            refine RunC.region ?_
            refine RunL.val (Val.pure rfl) rfl rfl rfl ?_
            refine RunL.val (Val.add rfl rfl (IntWalk.i64_in _ ⟨by omega, by omega⟩)) rfl rfl rfl ?_
            refine RunL.val (Val.pure rfl) rfl rfl rfl ?_
            refine RunL.nil ?_
            exact RunE.round (by omega) (any_snoc hj jI (by (rw [hS]; exact decide_eq_false (by omega)))) rfl (Sub.consE (t := 4) rfl rfl (Sub.cons (t := 1) rfl (Sub.cons (t := 3) rfl (Sub.nil _)))) (.cons .here rfl .nil)
        · intro c3
          have c3' := c3; clear c3
          try simp only [decide_eq_true_eq, decide_eq_false_iff_not, Bool.not_eq_true', Bool.not_eq_false', Bool.and_eq_true, Bool.or_eq_true, Bool.and_eq_false_iff, Bool.or_eq_false_iff, Int.not_le, Int.not_lt] at c3'
          obtain rfl : j = B.bx.titles.length := by omega
          rw [List.take_length] at jI
          refine RunC.exit ?_
          refine RunE.pass_exit ?_
          refine RunE.pass_exit ?_
          refine RunE.block_here ?_
          refine RunE.block_normal ?_
          refine RunE.next ?_
          refine RunC.region ?_
          refine RunL.val (Val.pure rfl) rfl rfl rfl ?_
          refine RunL.val (Val.add rfl rfl (IntWalk.i64_in _ ⟨by omega, by omega⟩)) rfl rfl rfl ?_
          refine RunL.val (Val.pure rfl) rfl rfl rfl ?_
          refine RunL.nil ?_
          exact RunE.round (by omega) (any_snoc hk kI (by (rw [hB]; unfold farB; rw [jI]; simp; omega))) rfl (Sub.consE (t := 3) rfl rfl (Sub.cons (t := 1) rfl (Sub.nil _))) (.cons .here rfl .nil)
    · intro c1
      have c1' := c1; clear c1
      try simp only [decide_eq_true_eq, decide_eq_false_iff_not, Bool.not_eq_true', Bool.not_eq_false', Bool.and_eq_true, Bool.or_eq_true, Bool.and_eq_false_iff, Bool.or_eq_false_iff, Int.not_le, Int.not_lt] at c1'
      obtain rfl : k = m.bxs.length := by omega
      rw [List.take_length] at kI
      refine RunC.exit ?_
      refine RunE.pass_exit ?_
      refine RunE.pass_exit ?_
      refine RunE.block_here ?_
      refine RunE.next ?_
      refine RunC.seq ?_
      refine RunC.seq ?_
      refine RunC.region ?_
      refine RunL.val (Val.pure rfl) rfl rfl rfl ?_
      refine RunL.nil ?_
      refine RunE.next ?_
      refine RunC.block ?_
      refine RunC.loopK (m.cards.length) (fun l q => (5, .int .i64 (l : Int)) :: q) (fun _ => _) (fun _ => []) (fun l => (m.cards.take l).any farC = false) (by simp) rfl (Sub.consE (t := 5) rfl rfl (Sub.cons (t := 1) rfl (Sub.nil _))) (.cons .here rfl .nil) ?_
      intro l lN lI
      refine RunC.seq ?_
      refine RunC.seq ?_
      refine RunC.region ?_
      refine RunL.val (Val.pure rfl) rfl rfl rfl ?_
      refine RunL.val (Val.fieldAddr rfl fld_25_1) rfl rfl rfl ?_
      refine RunL.val (Val.load_one rfl (.head _) ty_23 rfl) rfl rfl rfl ?_
      refine RunL.val (Val.len_sl rfl sl_23) rfl rfl rfl ?_
      refine RunL.val (Val.pure rfl) rfl rfl rfl ?_
      refine RunL.nil ?_
      refine RunE.next ?_
      refine RunC.cond rfl ?_ ?_
      · intro c5
        have c5' := c5; clear c5
        try simp only [decide_eq_true_eq, decide_eq_false_iff_not, Bool.not_eq_true', Bool.not_eq_false', Bool.and_eq_true, Bool.or_eq_true, Bool.and_eq_false_iff, Bool.or_eq_false_iff, Int.not_le, Int.not_lt] at c5'
        have hl : l < m.cards.length := by omega
        obtain ⟨C, hC⟩ : ∃ C, m.cards[l] = C := ⟨_, rfl⟩
        refine RunC.skip ?_
        refine RunE.next ?_
        refine RunC.seq ?_
        refine RunC.block ?_
        refine RunC.seq ?_
        refine RunC.region ?_
        refine RunL.val (Val.fieldAddr rfl fld_25_1) rfl rfl rfl ?_
        refine RunL.val (Val.load_one rfl (.head _) ty_23 rfl) rfl rfl rfl ?_
        refine RunL.val (Val.pure rfl) rfl rfl rfl ?_
        refine RunL.val (Val.indexAddr_slp rfl rfl sl_23 (by omega) (by omega) (hM.cd.ptrM hl)) rfl rfl rfl ?_
        refine RunL.val (Val.fieldAddr rfl fld_50_1) rfl rfl rfl ?_
        refine RunL.val (Val.load_gen rfl (fun w hm => hM.cd.cellX hm (by simp) ty_9 hl hC (j := 1) (by decide) rfl)) rfl rfl rfl ?_
        refine RunL.val (Val.lenS rfl und_9) rfl rfl rfl ?_
        refine RunL.val (Val.pure rfl) rfl rfl rfl ?_
        refine RunL.val (Val.pure rfl) rfl rfl rfl ?_
        refine RunL.orPart (dj := 68) (dp := 77) 9 rfl (fun g68 => by
          have g68' := g68
          try simp only [decide_eq_true_eq, decide_eq_false_iff_not, Bool.not_eq_true', Bool.not_eq_false', Bool.and_eq_true, Bool.or_eq_true, Bool.and_eq_false_iff, Bool.or_eq_false_iff, Int.not_le, Int.not_lt] at g68'
          refine RunL.val (Val.fieldAddr rfl fld_25_1) rfl rfl rfl ?_
          refine RunL.val (Val.load_one rfl (.head _) ty_23 rfl) rfl rfl rfl ?_
          refine RunL.val (Val.pure rfl) rfl rfl rfl ?_
          refine RunL.val (Val.indexAddr_slp rfl rfl sl_23 (by omega) (by omega) (hM.cd.ptrM hl)) rfl rfl rfl ?_
          refine RunL.val (Val.fieldAddr rfl fld_50_2) rfl rfl rfl ?_
          refine RunL.val (Val.load_gen rfl (fun w hm => hM.cd.cellX hm (by simp) ty_9 hl hC (j := 2) (by decide) rfl)) rfl rfl rfl ?_
          refine RunL.val (Val.lenS rfl und_9) rfl rfl rfl ?_
          refine RunL.val (Val.pure rfl) rfl rfl rfl ?_
          refine RunL.val (Val.pure rfl) rfl rfl rfl ?_
          exact RunL.segEnd (Sub.cons rfl (Sub.skip rfl (Sub.skip rfl (Sub.skip rfl (Sub.skip rfl (Sub.skip rfl (Sub.skip rfl (Sub.skip rfl (Sub.skip rfl (Sub.skip rfl (Sub.same rfl (by rw [g68]) (Sub.refl _)))))))))))) (List.Sublist.refl _)
        ) (fun g68 => by
          have g68' := g68
          try simp only [decide_eq_true_eq, decide_eq_false_iff_not, Bool.not_eq_true', Bool.not_eq_false', Bool.and_eq_true, Bool.or_eq_true, Bool.and_eq_false_iff, Bool.or_eq_false_iff, Int.not_le, Int.not_lt] at g68'
          iterate 8 refine RunL.no rfl rfl rfl ?_
          refine RunL.val (Val.pure rfl) rfl rfl rfl ?_
          exact RunL.segEnd (Sub.cons rfl (Sub.skip rfl (Sub.skip rfl (Sub.skip rfl (Sub.skip rfl (Sub.skip rfl (Sub.skip rfl (Sub.skip rfl (Sub.skip rfl (Sub.skip rfl (Sub.same rfl (by rw [g68]) (Sub.refl _)))))))))))) (List.Sublist.refl _)
        ) ?_
        refine RunL.nil ?_
        refine RunE.next ?_
        refine RunC.cond rfl ?_ ?_
        · intro c6
          have c6' := c6; clear c6
          try simp only [decide_eq_true_eq, decide_eq_false_iff_not, Bool.not_eq_true', Bool.not_eq_false', Bool.and_eq_true, Bool.or_eq_true, Bool.and_eq_false_iff, Bool.or_eq_false_iff, Int.not_le, Int.not_lt] at c6'
          refine RunC.seq ?_
          refine RunC.region ?_
          refine RunL.val (Val.pure rfl) rfl rfl rfl ?_
          refine RunL.nil ?_
          refine RunE.next ?_
          refine RunC.ret ?_
          refine RunE.block_ret ?_
          refine RunE.pass_ret ?_
          refine RunE.pass_ret ?_
          refine RunE.block_ret ?_
          refine RunE.pass_ret ?_
          exact RunE.retP (.r1 rfl (.tmp rfl)) (by rw [far_card hl (by (rw [hC]; unfold farC; simp; omega))])
        · intro c6
          have c6' := c6; clear c6
          try simp only [decide_eq_true_eq, decide_eq_false_iff_not, Bool.not_eq_true', Bool.not_eq_false', Bool.and_eq_true, Bool.or_eq_true, Bool.and_eq_false_iff, Bool.or_eq_false_iff, Int.not_le, Int.not_lt] at c6'
          refine RunC.skip ?_
          refine RunE.block_normal ?_
          refine RunE.next ?_
          refine RunC.region ?_
          refine RunL.val (Val.pure rfl) rfl rfl rfl ?_
          refine RunL.val (Val.add rfl rfl (IntWalk.i64_in _ ⟨by omega, by omega⟩)) rfl rfl rfl ?_
          refine RunL.val (Val.pure rfl) rfl rfl rfl ?_
          refine RunL.nil ?_
          exact RunE.round (by omega) (any_snoc hl lI (by (rw [hC]; unfold farC; simp; omega))) rfl (Sub.consE (t := 5) rfl rfl (Sub.cons (t := 1) rfl (Sub.nil _))) (.cons .here rfl .nil)
      · intro c5
        have c5' := c5; clear c5
        try simp only [decide_eq_true_eq, decide_eq_false_iff_not, Bool.not_eq_true', Bool.not_eq_false', Bool.and_eq_true, Bool.or_eq_true, Bool.and_eq_false_iff, Bool.or_eq_false_iff, Int.not_le, Int.not_lt] at c5'
        obtain rfl : l = m.cards.length := by omega
        rw [List.take_length] at lI
        refine RunC.exit ?_
        refine RunE.pass_exit ?_
        refine RunE.pass_exit ?_
        refine RunE.block_here ?_
        refine RunE.next ?_
        refine RunC.seq ?_
        refine RunC.region ?_
        refine RunL.val (Val.pure rfl) rfl rfl rfl ?_
        refine RunL.nil ?_
        refine RunE.next ?_
        refine RunC.ret ?_
        exact RunE.retP (.r1 rfl (.tmp rfl)) (by rw [far_no (by omega) (by omega) kI lI])
theorem rTitle_calls (s : Str) (hl : s.length ≤ 1000000) (W : World) : Calls Tryd.prog 60 #[.string (bs s)] W (Pure (.bool (!badTitle s)) W) := by
  refine calls_start Tryd.func60 rfl rfl ?_
  refine RunC.seq ?_
  refine RunC.region ?_
  refine RunL.val (Val.pure rfl) rfl rfl rfl ?_
  refine RunL.nil ?_
  refine RunE.next ?_
  refine RunC.seq ?_
  refine RunC.seq ?_
  refine RunC.region ?_
  refine RunL.val (Val.pure rfl) rfl rfl rfl ?_
  refine RunL.nil ?_
  refine RunE.next ?_
  refine RunC.block ?_
  refine RunC.loopK (s.length) (fun k q => (3, .int .i64 (k : Int)) :: q) (fun _ => _) (fun _ => []) (fun k => (s.take k).all letterX = true) (by simp) rfl (Sub.consE (t := 3) rfl rfl (Sub.cons (t := 0) rfl (Sub.nil _))) .nil ?_
  intro k kN kI
  refine RunC.seq ?_
  refine RunC.seq ?_
  refine RunC.region ?_
  refine RunL.val (Val.pure rfl) rfl rfl rfl ?_
  refine RunL.val (Val.pure rfl) rfl rfl rfl ?_
  refine RunL.val (Val.lenS rfl und_9) rfl rfl rfl ?_
  refine RunL.val (Val.pure rfl) rfl rfl rfl ?_
  refine RunL.nil ?_
  refine RunE.next ?_
  refine RunC.cond rfl ?_ ?_
  · intro c0
    have c0' := c0; clear c0
    try simp only [decide_eq_true_eq, decide_eq_false_iff_not, Bool.not_eq_true', Bool.not_eq_false', Bool.and_eq_true, Bool.or_eq_true, Bool.and_eq_false_iff, Bool.or_eq_false_iff, Int.not_le, Int.not_lt] at c0'
    have hk : k < s.length := by omega
    obtain ⟨x, hx⟩ : ∃ x, s[k] = x := ⟨_, rfl⟩
    have hx2 : s[(k : Int).toNat]? = some x := by simp [hk, hx]
    refine RunC.skip ?_
    refine RunE.next ?_
    refine RunC.seq ?_
    refine RunC.block ?_
    refine RunC.seq ?_
    refine RunC.region ?_
    refine RunL.val (Val.pure rfl) rfl rfl rfl ?_
    refine RunL.val (Val.pure rfl) rfl rfl rfl ?_
    refine RunL.val (Val.strIndex rfl rfl und_9 (by omega) hx2) rfl rfl rfl ?_
    refine RunL.val (Val.pure rfl) rfl rfl rfl ?_
    refine RunL.val (Val.pure rfl) rfl rfl rfl ?_
    refine RunL.orPart (dj := 14) (dp := 19) 5 rfl (fun g14 => by
      have g14' := g14
      try simp only [decide_eq_true_eq, decide_eq_false_iff_not, Bool.not_eq_true', Bool.not_eq_false', Bool.and_eq_true, Bool.or_eq_true, Bool.and_eq_false_iff, Bool.or_eq_false_iff, Int.not_le, Int.not_lt] at g14'
      refine RunL.val (Val.pure rfl) rfl rfl rfl ?_
      refine RunL.val (Val.pure rfl) rfl rfl rfl ?_
      refine RunL.val (Val.strIndex rfl rfl und_9 (by omega) hx2) rfl rfl rfl ?_
      refine RunL.val (Val.pure rfl) rfl rfl rfl ?_
      refine RunL.val (Val.pure rfl) rfl rfl rfl ?_
      exact RunL.segEnd (Sub.cons rfl (Sub.skip rfl (Sub.skip rfl (Sub.skip rfl (Sub.skip rfl (Sub.skip rfl (Sub.same rfl (by rw [g14]) (Sub.refl _)))))))) (List.Sublist.refl _)
    ) (fun g14 => by
      have g14' := g14
      try simp only [decide_eq_true_eq, decide_eq_false_iff_not, Bool.not_eq_true', Bool.not_eq_false', Bool.and_eq_true, Bool.or_eq_true, Bool.and_eq_false_iff, Bool.or_eq_false_iff, Int.not_le, Int.not_lt] at g14'
      iterate 4 refine RunL.no rfl rfl rfl ?_
      refine RunL.val (Val.pure rfl) rfl rfl rfl ?_
      exact RunL.segEnd (Sub.cons rfl (Sub.skip rfl (Sub.skip rfl (Sub.skip rfl (Sub.skip rfl (Sub.skip rfl (Sub.same rfl (by rw [g14]) (Sub.refl _)))))))) (List.Sublist.refl _)
    ) ?_
    refine RunL.nil ?_
    refine RunE.next ?_
    refine RunC.cond rfl ?_ ?_
    · intro c1
      have c1' := c1; clear c1
      try simp only [decide_eq_true_eq, decide_eq_false_iff_not, Bool.not_eq_true', Bool.not_eq_false', Bool.and_eq_true, Bool.or_eq_true, Bool.and_eq_false_iff, Bool.or_eq_false_iff, Int.not_le, Int.not_lt] at c1'
      refine RunC.seq ?_
      refine RunC.region ?_
      refine RunL.val (Val.pure rfl) rfl rfl rfl ?_
      refine RunL.nil ?_
      refine RunE.next ?_
      refine RunC.ret ?_
      refine RunE.block_ret ?_
      refine RunE.pass_ret ?_
      refine RunE.pass_ret ?_
      refine RunE.block_ret ?_
      refine RunE.pass_ret ?_
      exact RunE.retP (.r1 rfl (.tmp rfl)) (by rw [title_no hk (by (rw [hx]; unfold letterX; simp; omega))]; rfl)
    · intro c1
      have c1' := c1; clear c1
      try simp only [decide_eq_true_eq, decide_eq_false_iff_not, Bool.not_eq_true', Bool.not_eq_false', Bool.and_eq_true, Bool.or_eq_true, Bool.and_eq_false_iff, Bool.or_eq_false_iff, Int.not_le, Int.not_lt] at c1'
      refine RunC.skip ?_
      refine RunE.block_normal ?_
      refine RunE.next ?_
      refine RunC.region ?_
      refine RunL.val (Val.pure rfl) rfl rfl rfl ?_
      refine RunL.val (Val.add rfl rfl (IntWalk.i64_in _ ⟨by omega, by omega⟩)) rfl rfl rfl ?_
      refine RunL.val (Val.pure rfl) rfl rfl rfl ?_
      refine RunL.nil ?_
      exact RunE.round (by omega) (all_snoc hk kI (by (rw [hx]; unfold letterX; simp; omega))) rfl (Sub.consE (t := 3) rfl rfl (Sub.cons (t := 0) rfl (Sub.nil _))) .nil
  · intro c0
    have c0' := c0; clear c0
    try simp only [decide_eq_true_eq, decide_eq_false_iff_not, Bool.not_eq_true', Bool.not_eq_false', Bool.and_eq_true, Bool.or_eq_true, Bool.and_eq_false_iff, Bool.or_eq_false_iff, Int.not_le, Int.not_lt] at c0'
    obtain rfl : k = s.length := by omega
    rw [List.take_length] at kI
    refine RunC.exit ?_
    refine RunE.pass_exit ?_
    refine RunE.pass_exit ?_
    refine RunE.block_here ?_
    refine RunE.next ?_
    refine RunC.seq ?_
    refine RunC.region ?_
    refine RunL.val (Val.pure rfl) rfl rfl rfl ?_
    refine RunL.val (Val.lenS rfl und_9) rfl rfl rfl ?_
    refine RunL.callP (isCall_func rfl ent_42) rfl rfl rfl (fun w hm => rin_calls s.length 1 12 w) ?_
    refine RunL.val (Val.pure rfl) rfl rfl rfl ?_
    refine RunL.nil ?_
    refine RunE.next ?_
    refine RunC.ret ?_
    exact RunE.retP (.r1 rfl (.tmp rfl)) (by rw [title_yes kI, Bool.not_not])
theorem rPiece_calls (s : Str) (hl : s.length ≤ 1000000) (W : World) : Calls Tryd.prog 61 #[.string (bs s)] W (Pure (.bool (pieceX s)) W) := by
  refine calls_start Tryd.func61 rfl rfl ?_
  refine RunC.seq ?_
  refine RunC.region ?_
  refine RunL.val (Val.pure rfl) rfl rfl rfl ?_
  refine RunL.nil ?_
  refine RunE.next ?_
  refine RunC.seq ?_
  refine RunC.region ?_
  refine RunL.val (Val.pure rfl) rfl rfl rfl ?_
  refine RunL.nil ?_
  refine RunE.next ?_
  refine RunC.seq ?_
  refine RunC.seq ?_
  refine RunC.region ?_
  refine RunL.val (Val.pure rfl) rfl rfl rfl ?_
  refine RunL.nil ?_
  refine RunE.next ?_
  refine RunC.block ?_
  refine RunC.loopK (s.length) (fun k q => (4, .int .i64 (k : Int)) :: (3, .int .i64 (((s.take k).countP starX : Nat) : Int)) :: q) (fun _ => _) (fun _ => []) (fun k => (s.take k).all goodX = true) (by simp) rfl (Sub.consE (t := 4) rfl rfl (Sub.consE (t := 3) rfl rfl (Sub.cons (t := 0) rfl (Sub.nil _)))) .nil ?_
  intro k kN kI
  refine RunC.seq ?_
  refine RunC.seq ?_
  refine RunC.region ?_
  refine RunL.val (Val.pure rfl) rfl rfl rfl ?_
  refine RunL.val (Val.pure rfl) rfl rfl rfl ?_
  refine RunL.val (Val.lenS rfl und_9) rfl rfl rfl ?_
  refine RunL.val (Val.pure rfl) rfl rfl rfl ?_
  refine RunL.nil ?_
  refine RunE.next ?_
  refine RunC.cond rfl ?_ ?_
  · intro c0
    have c0' := c0; clear c0
    try simp only [decide_eq_true_eq, decide_eq_false_iff_not, Bool.not_eq_true', Bool.not_eq_false', Bool.and_eq_true, Bool.or_eq_true, Bool.and_eq_false_iff, Bool.or_eq_false_iff, Int.not_le, Int.not_lt] at c0'
    have hk : k < s.length := by omega
    obtain ⟨x, hx⟩ : ∃ x, s[k] = x := ⟨_, rfl⟩
    have hx2 : s[(k : Int).toNat]? = some x := by simp [hk, hx]
    have hcl := List.countP_le_length (p := starX) (l := s.take k)
    rw [List.length_take] at hcl
    refine RunC.skip ?_
    refine RunE.next ?_
    refine RunC.seq ?_
    refine RunC.block ?_
    refine RunC.seq ?_
    refine RunC.region ?_
    refine RunL.val (Val.pure rfl) rfl rfl rfl ?_
    refine RunL.val (Val.pure rfl) rfl rfl rfl ?_
    refine RunL.val (Val.strIndex rfl rfl und_9 (by omega) hx2) rfl rfl rfl ?_
    refine RunL.val (Val.pure rfl) rfl rfl rfl ?_
    refine RunL.nil ?_
    refine RunE.next ?_
    refine RunC.cond rfl ?_ ?_
    · intro c1
      have c1' := c1; clear c1
      try simp only [decide_eq_true_eq, decide_eq_false_iff_not, Bool.not_eq_true', Bool.not_eq_false', Bool.and_eq_true, Bool.or_eq_true, Bool.and_eq_false_iff, Bool.or_eq_false_iff, Int.not_le, Int.not_lt] at c1'
      refine RunC.region ?_
      refine RunL.val (Val.pure rfl) rfl rfl rfl ?_
      refine RunL.val (Val.add rfl rfl (IntWalk.i64_in _ ⟨by omega, by omega⟩)) rfl rfl rfl ?_
      refine RunL.val (Val.pure rfl) rfl rfl rfl ?_
      refine RunL.nil ?_
      refine RunE.block_normal ?_
      refine RunE.next ?_
      refine RunC.region ?_
      refine RunL.val (Val.pure rfl) rfl rfl rfl ?_
      refine RunL.val (Val.add rfl rfl (IntWalk.i64_in _ ⟨by omega, by omega⟩)) rfl rfl rfl ?_
      refine RunL.val (Val.pure rfl) rfl rfl rfl ?_
      refine RunL.nil ?_
      exact RunE.round (by omega) (all_snoc hk kI (by (rw [hx]; unfold goodX letterX digitX; simp; omega))) rfl (Sub.consE (t := 4) rfl rfl (Sub.consE (t := 3) rfl (by rw [take_count hk, hx]; unfold starX; simp [c1']) (Sub.cons (t := 0) rfl (Sub.nil _)))) .nil
    · intro c1
      have c1' := c1; clear c1
      try simp only [decide_eq_true_eq, decide_eq_false_iff_not, Bool.not_eq_true', Bool.not_eq_false', Bool.and_eq_true, Bool.or_eq_true, Bool.and_eq_false_iff, Bool.or_eq_false_iff, Int.not_le, Int.not_lt] at c1'
      refine RunC.seq ?_
      refine RunC.region ?_
      refine RunL.val (Val.pure rfl) rfl rfl rfl ?_
      refine RunL.val (Val.pure rfl) rfl rfl rfl ?_
      refine RunL.val (Val.strIndex rfl rfl und_9 (by omega) hx2) rfl rfl rfl ?_
      refine RunL.val (Val.pure rfl) rfl rfl rfl ?_
      refine RunL.val (Val.pure rfl) rfl rfl rfl ?_
      refine RunL.andPart (dj := 21) (dp := 33) 12 rfl (fun g21 => by
        have g21' := g21
        try simp only [decide_eq_true_eq, decide_eq_false_iff_not, Bool.not_eq_true', Bool.not_eq_false', Bool.and_eq_true, Bool.or_eq_true, Bool.and_eq_false_iff, Bool.or_eq_false_iff, Int.not_le, Int.not_lt] at g21'
        refine RunL.val (Val.pure rfl) rfl rfl rfl ?_
        refine RunL.val (Val.pure rfl) rfl rfl rfl ?_
        refine RunL.val (Val.strIndex rfl rfl und_9 (by omega) hx2) rfl rfl rfl ?_
        refine RunL.val (Val.pure rfl) rfl rfl rfl ?_
        refine RunL.val (Val.pure rfl) rfl rfl rfl ?_
        refine RunL.andPart (dj := 26) (dp := 31) 5 rfl (fun g26 => by
          have g26' := g26
          try simp only [decide_eq_true_eq, decide_eq_false_iff_not, Bool.not_eq_true', Bool.not_eq_false', Bool.and_eq_true, Bool.or_eq_true, Bool.and_eq_false_iff, Bool.or_eq_false_iff, Int.not_le, Int.not_lt] at g26'
          refine RunL.val (Val.pure rfl) rfl rfl rfl ?_
          refine RunL.val (Val.pure rfl) rfl rfl rfl ?_
          refine RunL.val (Val.strIndex rfl rfl und_9 (by omega) hx2) rfl rfl rfl ?_
          refine RunL.val (Val.pure rfl) rfl rfl rfl ?_
          refine RunL.val (Val.pure rfl) rfl rfl rfl ?_
          exact RunL.segEnd (Sub.cons rfl (Sub.skip rfl (Sub.skip rfl (Sub.skip rfl (Sub.skip rfl (Sub.skip rfl (Sub.same rfl (by rw [g26]) (Sub.refl _)))))))) (List.Sublist.refl _)
        ) (fun g26 => by
          have g26' := g26
          try simp only [decide_eq_true_eq, decide_eq_false_iff_not, Bool.not_eq_true', Bool.not_eq_false', Bool.and_eq_true, Bool.or_eq_true, Bool.and_eq_false_iff, Bool.or_eq_false_iff, Int.not_le, Int.not_lt] at g26'
          iterate 4 refine RunL.no rfl rfl rfl ?_
          refine RunL.val (Val.pure rfl) rfl rfl rfl ?_
          exact RunL.segEnd (Sub.cons rfl (Sub.skip rfl (Sub.skip rfl (Sub.skip rfl (Sub.skip rfl (Sub.skip rfl (Sub.same rfl (by rw [g26]) (Sub.refl _)))))))) (List.Sublist.refl _)
        ) ?_
        refine RunL.val (Val.pure rfl) rfl rfl rfl ?_
        refine RunL.val (Val.pure rfl) rfl rfl rfl ?_
        exact RunL.segEnd (Sub.cons rfl (Sub.skip rfl (Sub.skip rfl (Sub.skip rfl (Sub.skip rfl (Sub.skip rfl (Sub.skip rfl (Sub.skip rfl (Sub.skip rfl (Sub.same rfl (by rw [g21]) (Sub.refl _))))))))))) (List.Sublist.refl _)
      ) (fun g21 => by
        have g21' := g21
        try simp only [decide_eq_true_eq, decide_eq_false_iff_not, Bool.not_eq_true', Bool.not_eq_false', Bool.and_eq_true, Bool.or_eq_true, Bool.and_eq_false_iff, Bool.or_eq_false_iff, Int.not_le, Int.not_lt] at g21'
        iterate 11 refine RunL.no rfl rfl rfl ?_
        refine RunL.val (Val.pure rfl) rfl rfl rfl ?_
        exact RunL.segEnd (Sub.cons rfl (Sub.skip rfl (Sub.skip rfl (Sub.skip rfl (Sub.skip rfl (Sub.skip rfl (Sub.skip rfl (Sub.skip rfl (Sub.skip rfl (Sub.skip rfl (Sub.skip rfl (Sub.skip rfl (Sub.skip rfl (Sub.same rfl (by rw [g21]) (Sub.refl _))))))))))))))) (List.Sublist.refl _)
      ) ?_
      refine RunL.val (Val.pure rfl) rfl rfl rfl ?_
      refine RunL.andPart (dj := 34) (dp := 46) 12 rfl (fun g34 => by
        have g34' := g34
        try simp only [decide_eq_true_eq, decide_eq_false_iff_not, Bool.not_eq_true', Bool.not_eq_false', Bool.and_eq_true, Bool.or_eq_true, Bool.and_eq_false_iff, Bool.or_eq_false_iff, Int.not_le, Int.not_lt] at g34'
        refine RunL.val (Val.pure rfl) rfl rfl rfl ?_
        refine RunL.val (Val.pure rfl) rfl rfl rfl ?_
        refine RunL.val (Val.strIndex rfl rfl und_9 (by omega) hx2) rfl rfl rfl ?_
        refine RunL.val (Val.pure rfl) rfl rfl rfl ?_
        refine RunL.val (Val.pure rfl) rfl rfl rfl ?_
        refine RunL.andPart (dj := 39) (dp := 44) 5 rfl (fun g39 => by
          have g39' := g39
          try simp only [decide_eq_true_eq, decide_eq_false_iff_not, Bool.not_eq_true', Bool.not_eq_false', Bool.and_eq_true, Bool.or_eq_true, Bool.and_eq_false_iff, Bool.or_eq_false_iff, Int.not_le, Int.not_lt] at g39'
          refine RunL.val (Val.pure rfl) rfl rfl rfl ?_
          refine RunL.val (Val.pure rfl) rfl rfl rfl ?_
          refine RunL.val (Val.strIndex rfl rfl und_9 (by omega) hx2) rfl rfl rfl ?_
          refine RunL.val (Val.pure rfl) rfl rfl rfl ?_
          refine RunL.val (Val.pure rfl) rfl rfl rfl ?_
          exact RunL.segEnd (Sub.cons rfl (Sub.skip rfl (Sub.skip rfl (Sub.skip rfl (Sub.skip rfl (Sub.skip rfl (Sub.same rfl (by rw [g39]) (Sub.refl _)))))))) (List.Sublist.refl _)
        ) (fun g39 => by
          have g39' := g39
          try simp only [decide_eq_true_eq, decide_eq_false_iff_not, Bool.not_eq_true', Bool.not_eq_false', Bool.and_eq_true, Bool.or_eq_true, Bool.and_eq_false_iff, Bool.or_eq_false_iff, Int.not_le, Int.not_lt] at g39'
          iterate 4 refine RunL.no rfl rfl rfl ?_
          refine RunL.val (Val.pure rfl) rfl rfl rfl ?_
          exact RunL.segEnd (Sub.cons rfl (Sub.skip rfl (Sub.skip rfl (Sub.skip rfl (Sub.skip rfl (Sub.skip rfl (Sub.same rfl (by rw [g39]) (Sub.refl _)))))))) (List.Sublist.refl _)
        ) ?_
        refine RunL.val (Val.pure rfl) rfl rfl rfl ?_
        refine RunL.val (Val.pure rfl) rfl rfl rfl ?_
        exact RunL.segEnd (Sub.cons rfl (Sub.skip rfl (Sub.skip rfl (Sub.skip rfl (Sub.skip rfl (Sub.skip rfl (Sub.skip rfl (Sub.skip rfl (Sub.skip rfl (Sub.same rfl (by rw [g34]) (Sub.refl _))))))))))) (List.Sublist.refl _)
      ) (fun g34 => by
        have g34' := g34
        try simp only [decide_eq_true_eq, decide_eq_false_iff_not, Bool.not_eq_true', Bool.not_eq_false', Bool.and_eq_true, Bool.or_eq_true, Bool.and_eq_false_iff, Bool.or_eq_false_iff, Int.not_le, Int.not_lt] at g34'
        iterate 11 refine RunL.no rfl rfl rfl ?_
        refine RunL.val (Val.pure rfl) rfl rfl rfl ?_
        exact RunL.segEnd (Sub.cons rfl (Sub.skip rfl (Sub.skip rfl (Sub.skip rfl (Sub.skip rfl (Sub.skip rfl (Sub.skip rfl (Sub.skip rfl (Sub.skip rfl (Sub.skip rfl (Sub.skip rfl (Sub.skip rfl (Sub.skip rfl (Sub.same rfl (by rw [g34]) (Sub.refl _))))))))))))))) (List.Sublist.refl _)
      ) ?_
      refine RunL.nil ?_
      refine RunE.next ?_
      refine RunC.cond rfl ?_ ?_
      · intro c2
        have c2' := c2; clear c2
        try simp only [decide_eq_true_eq, decide_eq_false_iff_not, Bool.not_eq_true', Bool.not_eq_false', Bool.and_eq_true, Bool.or_eq_true, Bool.and_eq_false_iff, Bool.or_eq_false_iff, Int.not_le, Int.not_lt] at c2'
        refine RunC.seq ?_
        refine RunC.region ?_
        refine RunL.val (Val.pure rfl) rfl rfl rfl ?_
        refine RunL.nil ?_
        refine RunE.next ?_
        refine RunC.ret ?_
        refine RunE.block_ret ?_
        refine RunE.pass_ret ?_
        refine RunE.pass_ret ?_
        refine RunE.block_ret ?_
        refine RunE.pass_ret ?_
        exact RunE.retP (.r1 rfl (.tmp rfl)) (by rw [piece_no hk (by (rw [hx]; unfold goodX letterX digitX; simp; omega))])
      · intro c2
        have c2' := c2; clear c2
        try simp only [decide_eq_true_eq, decide_eq_false_iff_not, Bool.not_eq_true', Bool.not_eq_false', Bool.and_eq_true, Bool.or_eq_true, Bool.and_eq_false_iff, Bool.or_eq_false_iff, Int.not_le, Int.not_lt] at c2'
        refine RunC.skip ?_
        refine RunE.block_normal ?_
        refine RunE.next ?_
        refine RunC.region ?_
        refine RunL.val (Val.pure rfl) rfl rfl rfl ?_
        refine RunL.val (Val.add rfl rfl (IntWalk.i64_in _ ⟨by omega, by omega⟩)) rfl rfl rfl ?_
        refine RunL.val (Val.pure rfl) rfl rfl rfl ?_
        refine RunL.nil ?_
        exact RunE.round (by omega) (all_snoc hk kI (by (rw [hx]; unfold goodX letterX digitX; simp; omega))) rfl (Sub.consE (t := 4) rfl rfl (Sub.consE (t := 3) rfl (by rw [take_count hk, hx]; unfold starX; simp [c1']) (Sub.cons (t := 0) rfl (Sub.nil _)))) .nil
  · intro c0
    have c0' := c0; clear c0
    try simp only [decide_eq_true_eq, decide_eq_false_iff_not, Bool.not_eq_true', Bool.not_eq_false', Bool.and_eq_true, Bool.or_eq_true, Bool.and_eq_false_iff, Bool.or_eq_false_iff, Int.not_le, Int.not_lt] at c0'
    obtain rfl : k = s.length := by omega
    simp only [List.take_length] at kI ⊢
    have hcl := List.countP_le_length (p := starX) (l := s)
    refine RunC.exit ?_
    refine RunE.pass_exit ?_
    refine RunE.pass_exit ?_
    refine RunE.block_here ?_
    refine RunE.next ?_
    refine RunC.seq ?_
    refine RunC.region ?_
    refine RunL.val (Val.pure rfl) rfl rfl rfl ?_
    refine RunL.val (Val.lenS rfl und_9) rfl rfl rfl ?_
    refine RunL.val (Val.pure rfl) rfl rfl rfl ?_
    refine RunL.val (Val.pure rfl) rfl rfl rfl ?_
    refine RunL.andPart (dj := 50) (dp := 53) 3 rfl (fun g50 => by
      have g50' := g50
      try simp only [decide_eq_true_eq, decide_eq_false_iff_not, Bool.not_eq_true', Bool.not_eq_false', Bool.and_eq_true, Bool.or_eq_true, Bool.and_eq_false_iff, Bool.or_eq_false_iff, Int.not_le, Int.not_lt] at g50'
      iterate 3 refine RunL.val (Val.pure rfl) rfl rfl rfl ?_
      exact RunL.segEnd (Sub.cons rfl (Sub.skip rfl (Sub.skip rfl (Sub.skip rfl (Sub.same rfl (by rw [g50]) (Sub.refl _)))))) (List.Sublist.refl _)
    ) (fun g50 => by
      have g50' := g50
      try simp only [decide_eq_true_eq, decide_eq_false_iff_not, Bool.not_eq_true', Bool.not_eq_false', Bool.and_eq_true, Bool.or_eq_true, Bool.and_eq_false_iff, Bool.or_eq_false_iff, Int.not_le, Int.not_lt] at g50'
      refine RunL.no rfl rfl rfl ?_
      refine RunL.no rfl rfl rfl ?_
      refine RunL.val (Val.pure rfl) rfl rfl rfl ?_
      exact RunL.segEnd (Sub.cons rfl (Sub.skip rfl (Sub.skip rfl (Sub.skip rfl (Sub.same rfl (by rw [g50]) (Sub.refl _)))))) (List.Sublist.refl _)
    ) ?_
    refine RunL.val (Val.pure rfl) rfl rfl rfl ?_
    refine RunL.nil ?_
    refine RunE.next ?_
    refine RunC.ret ?_
    exact RunE.retP (.r1 rfl (.tmp rfl)) (by rw [piece_yes kI]; refine congrArg Value.bool (Bool.eq_iff_iff.2 ?_); simp only [Bool.and_eq_true, decide_eq_true_eq]; omega)
end Go.Proofs.YtlhdalcipflblaaDoor
/- The facts on the tables of types and on the entries of functions that the walks use. Written by program. -/
set_option linter.unusedSimpArgs false
set_option linter.unusedVariables false
namespace Go.Proofs.YtlhdalcipflblaaDoor
open Go Go.Eng
theorem ap_23 : apB Tryd.prog 23 = some (50, 3, 40) := by kernel_rfl
theorem ent_31 : Enters Tryd.prog 31 := enters_of Tryd.func31 (by kernel_rfl) rfl
theorem ent_38 : Enters Tryd.prog 38 := enters_of Tryd.func38 (by kernel_rfl) rfl
theorem places_25 : placesB Tryd.prog 25 = some [(0, 1), (1, 1)] := by kernel_rfl
theorem places_46 : placesB Tryd.prog 46 = some [(0, 1), (1, 1)] := by kernel_rfl
theorem places_50 : placesB Tryd.prog 50 = some [(0, 1), (1, 1), (2, 1)] := by kernel_rfl
theorem und_21 : Tryd.prog.underlying 21 = some (.int .i32) := by kernel_rfl
theorem zero_25 : zeroB Tryd.prog 25 = some [.slice none 0 0, .slice none 0 0] := by kernel_rfl
theorem zero_9 : zeroB Tryd.prog 9 = some [.string ⟨#[]⟩] := by kernel_rfl
end Go.Proofs.YtlhdalcipflblaaDoor
/- Walks of the laws of layer 10: entries, lists, the sample, awake. -/
set_option linter.unusedSimpArgs false
set_option linter.unusedVariables false
namespace Go.Hp
open Go Go.Eng Go.Pw1
theorem itoa1 {n : Nat} (h : n < 10) : itoa n = [UInt8.ofNat (48 + n)] := by unfold itoa; rw [if_pos h]; rfl
theorem itoa2 {n : Nat} (h : ¬ n < 10) (h2 : n < 100) : itoa n = itoa (n / 10) ++ itoa (n % 10) := by
  rw [itoa1 (n := n / 10) (by omega), itoa1 (n := n % 10) (by omega)]
  unfold itoa
  rw [if_neg h]
  rfl
theorem bs_app (a b : Str) : bs a ++ bs b = bs (a ++ b) := by
  simp [bs, ByteArray.ext_iff]
abbrev EO (m : MxA) := { x : Eng.Own // OwnOk 3 x (esX m).length ((esX m).map En.cells).flatten }
/-! ## The sample -/
structure SZ where
  bb : Nat
  b1 : Nat
  b2 : Nat
  bc : Nat
  c : Nat
  r : List Value
def smT : List Tn := [⟨0, [63], [109, 105, 42]⟩, ⟨0, [42], [109, 105, 108, 108]⟩, ⟨0, [50], [63, 97, 42]⟩]
theorem sm_own (b : Nat) : OwnOk 3 (some (b, 3, [])) 3 (smT.map Tn.cells).flatten := ⟨rfl, (fun h => by cases h), fun b c r h => by cases h; exact ⟨Nat.le_refl _, by decide, rfl⟩⟩
def smMore : Tn := ⟨0, [42], [109, 63, 63, 108]⟩
def smL1 : List Str := [[102, 97, 108, 108, 115], [109, 105, 108, 108], [112, 97, 115, 115]]
def smL2 : List Str := [[109, 105, 108, 108], [108, 97, 107, 101]]
def smA (z : SZ) (more : List Tn) : MxA := ⟨[⟨⟨1, smL1⟩, some ⟨z.b1, 0, none⟩, z.b1, 0, 3⟩, ⟨⟨2, smL2⟩, some ⟨z.b2, 0, none⟩, z.b2, 0, 2⟩], some ⟨z.bb, 0, none⟩, z.bb, 0, 2, smT ++ more, some ⟨z.bc, 0, none⟩, z.bc, 0, z.c⟩
abbrev smW (z : SZ) (more : List Tn) : Blks := [(z.bb, .cells [.int .i64 1, .slice (some ⟨z.b1, 0, none⟩) 3 3, .int .i64 2, .slice (some ⟨z.b2, 0, none⟩) 2 2].toArray 46 (0, 0)), (z.b1, .cells (strsV smL1).flatten.toArray 9 (0, 0)), (z.b2, .cells (strsV smL2).flatten.toArray 9 (0, 0)),
  (z.bc, .cells ((smT.map Tn.cells).flatten ++ (more.map Tn.cells).flatten ++ z.r).toArray 50 (0, 0))]
structure SmAt (w : World) (z : SZ) (more : List Tn) : Prop where
  bb : w.heap[z.bb]? = some (.cells [.int .i64 1, .slice (some ⟨z.b1, 0, none⟩) 3 3, .int .i64 2, .slice (some ⟨z.b2, 0, none⟩) 2 2].toArray 46 (0, 0))
  b1 : w.heap[z.b1]? = some (.cells (strsV smL1).flatten.toArray 9 (0, 0))
  b2 : w.heap[z.b2]? = some (.cells (strsV smL2).flatten.toArray 9 (0, 0))
  bc : w.heap[z.bc]? = some (.cells ((smT.map Tn.cells).flatten ++ (more.map Tn.cells).flatten ++ z.r).toArray 50 (0, 0))
theorem sm_ok {w : World} {z : SZ} {more : List Tn} (h : SmAt w z more) : MOk w (smA z more) := by
  refine ⟨Sl.rows (xs := (smA z more).bxs.map BxA.cells) h.bb (by simp [smA, BxA.cells]), fun x hx => ?_, ?_⟩
  · rcases List.mem_cons.1 hx with rfl | hx
    · exact Sl.rows h.b1 (by simp [smL1, strsV])
    · obtain rfl := List.mem_singleton.1 hx
      exact Sl.rows h.b2 (by simp [smL2, strsV])
  · refine Sl.rowsR (t := z.r) (xs := (smA z more).cards.map Tn.cells) (T := 50) (fr := (0, 0)) ?_ (fun x hx => by obtain ⟨a, _, rfl⟩ := List.mem_map.1 hx; rfl)
    have e : ((smA z more).cards.map Tn.cells).flatten = (smT.map Tn.cells).flatten ++ (more.map Tn.cells).flatten := by show ((smT ++ more).map Tn.cells).flatten = _; rw [List.map_append, List.flatten_append]
    rw [e]
    exact h.bc
theorem sm_sm0 (z : SZ) : MSm (smA z []) := far_sm (show farX ⟨[⟨1, smL1⟩, ⟨2, smL2⟩], smT ++ []⟩ = false by kernel_rfl)
theorem sm_sm1 (z : SZ) : MSm (smA z [smMore]) := far_sm (show farX ⟨[⟨1, smL1⟩, ⟨2, smL2⟩], smT ++ [smMore]⟩ = false by kernel_rfl)
def smP (more : List Tn) : Mx := ⟨[⟨1, smL1⟩, ⟨2, smL2⟩], smT ++ more⟩
theorem sm_pl (z : SZ) (more : List Tn) : (smA z more).pl = smP more := rfl
theorem sm_fits : FitsX (smP []) 0 = (10, 0) := by kernel_rfl
theorem sm_count : CountX (smP []) = (2, 0) := by kernel_rfl
theorem sm_share : ShareX (smP []) 0 3 = (1, 0) := by kernel_rfl
theorem sm_ways : waysE (smP []) = 0 := by kernel_rfl
theorem sm_first : FirstX (smP []) = ([1, 3, 4], 0) := by kernel_rfl
theorem sm_sure : SureX (smP []) = ([-1, -1, 4], 0) := by kernel_rfl
theorem sm_lost : LostX (smP []) = ((5, 5), 0) := by kernel_rfl
theorem sm_why : WhyX (smP [smMore]) = (11, 11) := by kernel_rfl
theorem ints_all {a b : List Int} (h : a.length = b.length) (h2 : a.take a.length = b.take a.length) : a = b := by
  rw [List.take_length, h, List.take_length] at h2
  exact h2
theorem take_snoc {a b : List Int} {k : Nat} (ha : k < a.length) (hb : k < b.length) (h : a.take k = b.take k) (h2 : a[k] = b[k]) : a.take (k + 1) = b.take (k + 1) := by
  rw [List.take_succ_eq_append_getElem ha, List.take_succ_eq_append_getElem hb, h, h2]
abbrev OZ := Nat × Nat × List Value
abbrev ozB (z : OZ) (l : List Value) : Blks := [(z.1, .cells (l ++ z.2.2).toArray 3 (0, 0))]
end Go.Hp
namespace Go.Proofs.YtlhdalcipflblaaDoor
open Go Go.Eng Go.Hp Go.Pw1

theorem rText1_calls (n : Nat) (hn : n < 10) (W : World) : Calls Tryd.prog 31 #[.int .i64 (n : Int)] W (Pure (.string (bs (itoa n))) W) := by
  rw [itoa1 hn]
  refine calls_start Tryd.func31 rfl rfl ?_
  refine RunC.seq ?_
  refine RunC.region ?_
  refine RunL.val (Val.pure rfl) rfl rfl rfl ?_
  refine RunL.nil ?_
  refine RunE.next ?_
  refine RunC.seq ?_
  refine RunC.seq ?_
  refine RunC.region ?_
  refine RunL.val (Val.pure rfl) rfl rfl rfl ?_
  refine RunL.val (Val.pure rfl) rfl rfl rfl ?_
  refine RunL.nil ?_
  refine RunE.next ?_
  refine RunC.cond rfl ?_ (fun h => absurd h (by simp; omega))
  intro c0
  clear c0
  refine RunC.seq ?_
  refine RunC.region ?_
  refine RunL.val (Val.pure rfl) rfl rfl rfl ?_
  refine RunL.val (Val.addN (a := 48) (b := n) (48 + n) rfl rfl rfl (i64_inN (by omega))) rfl rfl rfl ?_
  refine RunL.val (Val.convInt rfl und_3 und_21 (i32_in (by omega) (by omega))) rfl rfl rfl ?_
  refine RunL.val (Val.runeStr (c := 48 + n) rfl und_21 und_9 (by omega)) rfl rfl rfl ?_
  refine RunL.val (Val.pure rfl) rfl rfl rfl ?_
  refine RunL.nil ?_
  refine RunE.next ?_
  refine RunC.ret ?_
  refine RunE.pass_ret ?_
  exact RunE.retP (.r1 rfl (.tmp rfl)) (by first | rfl | simp)
theorem rText_calls (n : Nat) (hn : n < 100) (W : World) : Calls Tryd.prog 31 #[.int .i64 (n : Int)] W (Pure (.string (bs (itoa n))) W) := by
  rcases Nat.lt_or_ge n 10 with h | h
  · exact rText1_calls n h W
  · rw [itoa2 (by omega) hn]
    refine calls_start Tryd.func31 rfl rfl ?_
    refine RunC.seq ?_
    refine RunC.region ?_
    refine RunL.val (Val.pure rfl) rfl rfl rfl ?_
    refine RunL.nil ?_
    refine RunE.next ?_
    refine RunC.seq ?_
    refine RunC.seq ?_
    refine RunC.region ?_
    refine RunL.val (Val.pure rfl) rfl rfl rfl ?_
    refine RunL.val (Val.pure rfl) rfl rfl rfl ?_
    refine RunL.nil ?_
    refine RunE.next ?_
    refine RunC.cond rfl (fun h => absurd h (by simp; omega)) ?_
    intro c0
    clear c0
    refine RunC.skip ?_
    refine RunE.next ?_
    refine RunC.seq ?_
    refine RunC.region ?_
    refine RunL.val (Val.pure rfl) rfl rfl rfl ?_
    refine RunL.val (Val.quoT rfl rfl (by decide) (i64_inN (n := n / 10) (by omega))) rfl rfl rfl ?_
    refine RunL.callP (isCall_func rfl ent_31) rfl rfl rfl (fun w hm => rText1_calls (n / 10) (by omega) w) ?_
    refine RunL.val (Val.pure rfl) rfl rfl rfl ?_
    refine RunL.val (Val.remT rfl rfl (by decide)) rfl rfl rfl ?_
    refine RunL.callP (isCall_func rfl ent_31) rfl rfl rfl (fun w hm => rText1_calls (n % 10) (by omega) w) ?_
    refine RunL.val (Val.strAdd rfl rfl (by have z1 := itoa_len (n / 10); have z2 := itoa_len (n % 10); omega)) rfl rfl rfl ?_
    refine RunL.val (Val.pure rfl) rfl rfl rfl ?_
    refine RunL.nil ?_
    refine RunE.next ?_
    refine RunC.ret ?_
    exact RunE.retP (.r1 rfl (.tmp rfl)) (by first | rfl | simp)
theorem rInts_calls (a b : List Int) (qa : Option Addr) (ba oa ca : Nat) (qb : Option Addr) (bb ob cb : Nat) (ha : a.length ≤ 1000) (hb : b.length ≤ 1000) (W : World) (hA : Sl W qa ba oa 1 (intsW a)) (hB : Sl W qb bb ob 1 (intsW b)) :
    Calls Tryd.prog 29 #[.slice qa a.length ca, .slice qb b.length cb] W (Pure (.bool (decide (a = b))) W) := by
  refine calls_start Tryd.func29 rfl rfl ?_
  refine RunC.seq ?_
  refine RunC.region ?_
  refine RunL.val (Val.pure rfl) rfl rfl rfl ?_
  refine RunL.nil ?_
  refine RunE.next ?_
  refine RunC.seq ?_
  refine RunC.seq ?_
  refine RunC.region ?_
  refine RunL.val (Val.pure rfl) rfl rfl rfl ?_
  refine RunL.val (Val.len_sl rfl sl_34) rfl rfl rfl ?_
  refine RunL.val (Val.pure rfl) rfl rfl rfl ?_
  refine RunL.val (Val.len_sl rfl sl_34) rfl rfl rfl ?_
  refine RunL.val (Val.pure rfl) rfl rfl rfl ?_
  refine RunL.nil ?_
  refine RunE.next ?_
  refine RunC.cond rfl ?_ ?_
  · intro c0
    have c0' := c0; clear c0
    try simp only [decide_eq_true_eq, decide_eq_false_iff_not, Bool.not_eq_true', Bool.not_eq_false', Bool.and_eq_true, Bool.or_eq_true, Bool.and_eq_false_iff, Bool.or_eq_false_iff, Int.not_le, Int.not_lt] at c0'
    refine RunC.seq ?_
    refine RunC.region ?_
    refine RunL.val (Val.pure rfl) rfl rfl rfl ?_
    refine RunL.nil ?_
    refine RunE.next ?_
    refine RunC.ret ?_
    refine RunE.pass_ret ?_
    exact RunE.retP (.r1 rfl (.tmp rfl)) (by rw [decide_eq_false (fun e => by rw [e] at c0'; exact c0' rfl)])
  · intro c0
    have c0' := c0; clear c0
    try simp only [decide_eq_true_eq, decide_eq_false_iff_not, Bool.not_eq_true', Bool.not_eq_false', Bool.and_eq_true, Bool.or_eq_true, Bool.and_eq_false_iff, Bool.or_eq_false_iff, Int.not_le, Int.not_lt] at c0'
    have heq : a.length = b.length := by omega
    refine RunC.skip ?_
    refine RunE.next ?_
    refine RunC.seq ?_
    refine RunC.seq ?_
    refine RunC.region ?_
    refine RunL.val (Val.pure rfl) rfl rfl rfl ?_
    refine RunL.nil ?_
    refine RunE.next ?_
    refine RunC.block ?_
    refine RunC.loopK (a.length) (fun k q => (5, .int .i64 (k : Int)) :: q) (fun _ => _) (fun _ => []) (fun k => a.take k = b.take k) (by simp) rfl (Sub.consE (t := 5) rfl rfl (Sub.cons (t := 0) rfl (Sub.cons (t := 1) rfl (Sub.nil _)))) .nil ?_
    intro k kN kI
    refine RunC.seq ?_
    refine RunC.seq ?_
    refine RunC.region ?_
    refine RunL.val (Val.pure rfl) rfl rfl rfl ?_
    refine RunL.val (Val.pure rfl) rfl rfl rfl ?_
    refine RunL.val (Val.len_sl rfl sl_34) rfl rfl rfl ?_
    refine RunL.val (Val.pure rfl) rfl rfl rfl ?_
    refine RunL.nil ?_
    refine RunE.next ?_
    refine RunC.cond rfl ?_ ?_
    · intro c1
      have c1' := c1; clear c1
      try simp only [decide_eq_true_eq, decide_eq_false_iff_not, Bool.not_eq_true', Bool.not_eq_false', Bool.and_eq_true, Bool.or_eq_true, Bool.and_eq_false_iff, Bool.or_eq_false_iff, Int.not_le, Int.not_lt] at c1'
      have hk : k < a.length := by omega
      have hk2 : k < b.length := by omega
      obtain ⟨x, hx⟩ : ∃ x, a[k] = x := ⟨_, rfl⟩
      obtain ⟨y, hy⟩ : ∃ y, b[k] = y := ⟨_, rfl⟩
      refine RunC.skip ?_
      refine RunE.next ?_
      refine RunC.seq ?_
      refine RunC.block ?_
      refine RunC.seq ?_
      refine RunC.draw 8 fol_ .nil ?_
      refine RunA.val (i := 0) rfl (by kernel_rfl) (by kernel_rfl) (Val.pure rfl) rfl rfl rfl (fun _ _ _ h => h) .nil rfl ?_
      refine RunA.val (i := 1) rfl (by kernel_rfl) (by kernel_rfl) (Val.pure rfl) rfl rfl rfl (fun _ _ _ h => h) .nil rfl ?_
      refine RunA.val (i := 2) rfl (by kernel_rfl) (by kernel_rfl) (Val.indexAddr_slp rfl rfl sl_34 (by omega) (by omega) (hA.ptrM hk)) rfl rfl rfl (fun _ _ _ h => h) .nil rfl ?_
      refine RunA.val (i := 3) rfl (by kernel_rfl) (by kernel_rfl) (Val.load_gen rfl (fun w hm => hA.loadM1 (by decide) hm (by simp) ty_3 hk (v := .int .i64 x) (by simp [hx]))) rfl rfl rfl (fun _ _ _ h => h) .nil rfl ?_
      refine RunA.val (i := 4) rfl (by kernel_rfl) (by kernel_rfl) (Val.pure rfl) rfl rfl rfl (fun _ _ _ h => h) .nil rfl ?_
      refine RunA.val (i := 5) rfl (by kernel_rfl) (by kernel_rfl) (Val.pure rfl) rfl rfl rfl (fun _ _ _ h => h) .nil rfl ?_
      refine RunA.val (i := 6) rfl (by kernel_rfl) (by kernel_rfl) (Val.indexAddr_slp rfl rfl sl_34 (by omega) (by omega) (hB.ptrM hk2)) rfl rfl rfl (fun _ _ _ h => h) .nil rfl ?_
      refine RunA.val (i := 7) rfl (by kernel_rfl) (by kernel_rfl) (Val.load_gen rfl (fun w hm => hB.loadM1 (by decide) hm (by simp) ty_3 hk2 (v := .int .i64 y) (by simp [hy]))) rfl rfl rfl (fun _ _ _ h => h) .nil rfl ?_
      refine RunA.toB (by kernel_rfl) ?_
      refine RunB.one (i := 8) (by kernel_rfl) ?_
      refine RunI.val rfl (Val.pure rfl) rfl rfl rfl (RunK.toB ?_)
      refine RunB.done (by kernel_rfl) ?_
      refine RunE.next ?_
      refine RunC.cond rfl ?_ ?_
      · intro c2
        have c2' := c2; clear c2
        try simp only [decide_eq_true_eq, decide_eq_false_iff_not, Bool.not_eq_true', Bool.not_eq_false', Bool.and_eq_true, Bool.or_eq_true, Bool.and_eq_false_iff, Bool.or_eq_false_iff, Int.not_le, Int.not_lt] at c2'
        refine RunC.seq ?_
        refine RunC.region ?_
        refine RunL.val (Val.pure rfl) rfl rfl rfl ?_
        refine RunL.nil ?_
        refine RunE.next ?_
        refine RunC.ret ?_
        refine RunE.block_ret ?_
        refine RunE.pass_ret ?_
        refine RunE.pass_ret ?_
        refine RunE.block_ret ?_
        refine RunE.pass_ret ?_
        exact RunE.retP (.r1 rfl (.tmp rfl)) (by rw [decide_eq_false (fun e => by subst e; exact c2' (by rw [← hx, ← hy]))])
      · intro c2
        have c2' := c2; clear c2
        try simp only [decide_eq_true_eq, decide_eq_false_iff_not, Bool.not_eq_true', Bool.not_eq_false', Bool.and_eq_true, Bool.or_eq_true, Bool.and_eq_false_iff, Bool.or_eq_false_iff, Int.not_le, Int.not_lt] at c2'
        refine RunC.skip ?_
        refine RunE.block_normal ?_
        refine RunE.next ?_
        refine RunC.region ?_
        refine RunL.val (Val.pure rfl) rfl rfl rfl ?_
        refine RunL.val (Val.add rfl rfl (IntWalk.i64_in _ ⟨by omega, by omega⟩)) rfl rfl rfl ?_
        refine RunL.val (Val.pure rfl) rfl rfl rfl ?_
        refine RunL.nil ?_
        exact RunE.round (by omega) (take_snoc hk hk2 kI (by rw [hx, hy]; exact c2')) rfl (Sub.consE (t := 5) rfl rfl (Sub.cons (t := 0) rfl (Sub.cons (t := 1) rfl (Sub.nil _)))) .nil
    · intro c1
      have c1' := c1; clear c1
      try simp only [decide_eq_true_eq, decide_eq_false_iff_not, Bool.not_eq_true', Bool.not_eq_false', Bool.and_eq_true, Bool.or_eq_true, Bool.and_eq_false_iff, Bool.or_eq_false_iff, Int.not_le, Int.not_lt] at c1'
      obtain rfl : k = a.length := by omega
      refine RunC.exit ?_
      refine RunE.pass_exit ?_
      refine RunE.pass_exit ?_
      refine RunE.block_here ?_
      refine RunE.next ?_
      refine RunC.seq ?_
      refine RunC.region ?_
      refine RunL.val (Val.pure rfl) rfl rfl rfl ?_
      refine RunL.nil ?_
      refine RunE.next ?_
      refine RunC.ret ?_
      exact RunE.retP (.r1 rfl (.tmp rfl)) (by rw [decide_eq_true (ints_all heq kI)])
theorem torn_calls (a b : ByteArray) (W : World) : Calls Tryd.prog 38 #[.string a, .string b] W (Pure (.agg #[.int .i64 0, .string a, .string b]) W) := by
  refine calls_start Tryd.func38 rfl rfl ?_
  refine RunC.seq ?_
  refine RunC.region ?_
  refine RunL.new (New.alloc zero_50) rfl rfl rfl (fun b4 => ?_)
  refine RunL.nil ?_
  refine RunE.next ?_
  refine RunC.seq ?_
  refine RunC.region ?_
  refine RunL.val (Val.pure rfl) rfl rfl rfl ?_
  refine RunL.val (Val.pure rfl) rfl rfl rfl ?_
  refine RunL.val (Val.build (parts := [(1, .tmp 5), (2, .tmp 6)]) rfl zero_50 places_50 rfl) rfl rfl rfl ?_
  refine RunL.sto (Sto.store rfl rfl .here ty_50 rfl rfl) rfl rfl ?_
  refine RunL.nil ?_
  refine RunE.next ?_
  refine RunC.ret ?_
  exact RunE.retP (.r1 rfl (.agg rfl (.head _) ty_50 rfl)) (by first | rfl | simp)
theorem sample0_calls (W : World) : Calls Tryd.prog 37 #[.slice none 0 0] W (News (fun z : SZ => (smA z []).v) (fun z => smW z []) W) := by
  refine calls_start Tryd.func37 rfl rfl ?_
  refine RunC.seq ?_
  refine RunC.region ?_
  refine RunL.new (New.alloc zero_25) rfl rfl rfl (fun b2 => ?_)
  refine RunL.nil ?_
  refine RunE.next ?_
  refine RunC.seq ?_
  refine RunC.region ?_
  iterate 3 refine RunL.callP (isCall_func rfl ent_38) rfl rfl rfl (fun w hm => torn_calls _ _ w) ?_
  refine RunL.new (New.buildSlice (parts := [(0, .tmp 4), (1, .tmp 5), (2, .tmp 6)]) rfl sl_23 zero_50 rfl rfl rfl rfl) rfl rfl rfl (fun b7 => ?_)
  refine RunL.val (Val.pure rfl) rfl rfl rfl ?_
  refine RunL.nil ?_
  refine RunE.next ?_
  refine RunC.seq ?_
  refine RunC.region ?_
  refine RunL.new (New.buildSlice (parts := [(0, .const (.string ⟨#[102,97,108,108,115]⟩)), (1, .const (.string ⟨#[109,105,108,108]⟩)), (2, .const (.string ⟨#[112,97,115,115]⟩))]) rfl sl_44 zero_9 rfl rfl rfl rfl) rfl rfl rfl (fun b8 => ?_)
  refine RunL.val (Val.build (parts := [(0, .const (.int .i64 1)), (1, .tmp 8)]) rfl zero_46 places_46 rfl) rfl rfl rfl ?_
  refine RunL.new (New.buildSlice (parts := [(0, .const (.string ⟨#[109,105,108,108]⟩)), (1, .const (.string ⟨#[108,97,107,101]⟩))]) rfl sl_44 zero_9 rfl rfl rfl rfl) rfl rfl rfl (fun b10 => ?_)
  refine RunL.val (Val.build (parts := [(0, .const (.int .i64 2)), (1, .tmp 10)]) rfl zero_46 places_46 rfl) rfl rfl rfl ?_
  refine RunL.new (New.buildSlice (parts := [(0, .tmp 9), (1, .tmp 11)]) rfl sl_22 zero_46 rfl rfl rfl rfl) rfl rfl rfl (fun b12 => ?_)
  refine RunL.val (Val.pure rfl) rfl rfl rfl ?_
  refine RunL.val (Val.pure rfl) rfl rfl rfl ?_
  refine RunL.keep (Sub.refl _) (.cons .here rfl (.cons .here rfl (.cons .here rfl (.cons (.there .here) rfl (.cons .here rfl .nil))))) ?_
  refine RunL.append (A := [(b12, _), (b10, _), (b8, _), (b2, _)]) (B := _) (x := (some (b7, 3, []))) (ys := []) ap_23 rfl rfl rfl (sm_own b7) rfl (fun _ => ⟨rfl, rfl⟩) (fun w hm j u h => by cases h) (one_of rfl) (by simp only [maxLen]; omega) (by omega) rfl (fun z15 hz15 => ?_)
  obtain ⟨bz15, cz15, rz15, rfl, lz151, lz152, lz153⟩ := hz15.has (by omega)
  refine RunL.val (Val.build (parts := [(0, .tmp 12), (1, .tmp 15)]) rfl zero_25 places_25 rfl) rfl rfl rfl ?_
  refine RunL.sto (Sto.store rfl rfl (.there (.there (.there .here))) ty_25 rfl rfl) rfl rfl ?_
  refine RunL.nil ?_
  refine RunE.next ?_
  refine RunC.ret ?_
  exact RunE.ret (chg := []) (.r1 rfl (.agg rfl (.tail _ (.tail _ (.tail _ (.head _)))) ty_25 rfl)) (fun _ hm => ⟨⟨b12, b8, b10, bz15, cz15, rz15⟩, rfl, hm.pick (.cons .here rfl (.cons (.there .here) rfl (.cons .here rfl (.cons (.there .here) rfl .nil))))⟩)
theorem sample1_calls (b : Nat) (W : World) (h : W.heap[b]? = some (.cells smMore.cells.toArray 50 (0, 0))) : Calls Tryd.prog 37 #[.slice (some ⟨b, 0, none⟩) 1 1] W (News (fun z : SZ => (smA z [smMore]).v) (fun z => smW z [smMore]) W) := by
  refine calls_start Tryd.func37 rfl rfl ?_
  refine RunC.seq ?_
  refine RunC.region ?_
  refine RunL.new (New.alloc zero_25) rfl rfl rfl (fun b2 => ?_)
  refine RunL.nil ?_
  refine RunE.next ?_
  refine RunC.seq ?_
  refine RunC.region ?_
  iterate 3 refine RunL.callP (isCall_func rfl ent_38) rfl rfl rfl (fun w hm => torn_calls _ _ w) ?_
  refine RunL.new (New.buildSlice (parts := [(0, .tmp 4), (1, .tmp 5), (2, .tmp 6)]) rfl sl_23 zero_50 rfl rfl rfl rfl) rfl rfl rfl (fun b7 => ?_)
  refine RunL.val (Val.pure rfl) rfl rfl rfl ?_
  refine RunL.nil ?_
  refine RunE.next ?_
  refine RunC.seq ?_
  refine RunC.region ?_
  refine RunL.new (New.buildSlice (parts := [(0, .const (.string ⟨#[102,97,108,108,115]⟩)), (1, .const (.string ⟨#[109,105,108,108]⟩)), (2, .const (.string ⟨#[112,97,115,115]⟩))]) rfl sl_44 zero_9 rfl rfl rfl rfl) rfl rfl rfl (fun b8 => ?_)
  refine RunL.val (Val.build (parts := [(0, .const (.int .i64 1)), (1, .tmp 8)]) rfl zero_46 places_46 rfl) rfl rfl rfl ?_
  refine RunL.new (New.buildSlice (parts := [(0, .const (.string ⟨#[109,105,108,108]⟩)), (1, .const (.string ⟨#[108,97,107,101]⟩))]) rfl sl_44 zero_9 rfl rfl rfl rfl) rfl rfl rfl (fun b10 => ?_)
  refine RunL.val (Val.build (parts := [(0, .const (.int .i64 2)), (1, .tmp 10)]) rfl zero_46 places_46 rfl) rfl rfl rfl ?_
  refine RunL.new (New.buildSlice (parts := [(0, .tmp 9), (1, .tmp 11)]) rfl sl_22 zero_46 rfl rfl rfl rfl) rfl rfl rfl (fun b12 => ?_)
  refine RunL.val (Val.pure rfl) rfl rfl rfl ?_
  refine RunL.val (Val.pure rfl) rfl rfl rfl ?_
  refine RunL.keep (Sub.refl _) (.cons .here rfl (.cons .here rfl (.cons .here rfl (.cons (.there .here) rfl (.cons .here rfl .nil))))) ?_
  refine RunL.append (A := [(b12, _), (b10, _), (b8, _), (b2, _)]) (B := _) (x := (some (b7, 3, []))) (ys := smMore.cells) ap_23 rfl rfl rfl (sm_own b7) rfl (fun h => by cases h) (fun w hm => src_blk (hm.old_at h (by simp))) (one_of rfl) (by simp only [maxLen]; omega) (by omega) rfl (fun z15 hz15 => ?_)
  obtain ⟨bz15, cz15, rz15, rfl, lz151, lz152, lz153⟩ := hz15.has (by omega)
  refine RunL.val (Val.build (parts := [(0, .tmp 12), (1, .tmp 15)]) rfl zero_25 places_25 rfl) rfl rfl rfl ?_
  refine RunL.sto (Sto.store rfl rfl (.there (.there (.there .here))) ty_25 rfl rfl) rfl rfl ?_
  refine RunL.nil ?_
  refine RunE.next ?_
  refine RunC.ret ?_
  exact RunE.ret (chg := []) (.r1 rfl (.agg rfl (.tail _ (.tail _ (.tail _ (.head _)))) ty_25 rfl)) (fun _ hm => ⟨⟨b12, b8, b10, bz15, cz15, rz15⟩, rfl, hm.pick (.cons .here rfl (.cons (.there .here) rfl (.cons .here rfl (.cons (.there .here) rfl .nil))))⟩)
end Go.Proofs.YtlhdalcipflblaaDoor
/- The facts on the tables of types and on the entries of functions that the walks use. Written by program. -/
set_option linter.unusedSimpArgs false
set_option linter.unusedVariables false
namespace Go.Proofs.YtlhdalcipflblaaDoor
open Go Go.Eng
theorem ent_14 : Enters Tryd.prog 14 := enters_of Tryd.func14 (by kernel_rfl) rfl
theorem ent_16 : Enters Tryd.prog 16 := enters_of Tryd.func16 (by kernel_rfl) rfl
theorem ent_19 : Enters Tryd.prog 19 := enters_of Tryd.func19 (by kernel_rfl) rfl
theorem ent_21 : Enters Tryd.prog 21 := enters_of Tryd.func21 (by kernel_rfl) rfl
theorem ent_23 : Enters Tryd.prog 23 := enters_of Tryd.func23 (by kernel_rfl) rfl
theorem ent_25 : Enters Tryd.prog 25 := enters_of Tryd.func25 (by kernel_rfl) rfl
theorem ent_27 : Enters Tryd.prog 27 := enters_of Tryd.func27 (by kernel_rfl) rfl
theorem ent_29 : Enters Tryd.prog 29 := enters_of Tryd.func29 (by kernel_rfl) rfl
theorem ent_37 : Enters Tryd.prog 37 := enters_of Tryd.func37 (by kernel_rfl) rfl
end Go.Proofs.YtlhdalcipflblaaDoor
/- Walks of the laws of layer 10: awake; what comes in. -/
set_option linter.unusedSimpArgs false
set_option linter.unusedVariables false
namespace Go.Hp
open Go Go.Eng Go.Pw1
theorem calls_mono {P : Program} {f : FuncId} {args : Array Value} {w : World} {R R' : Ending → World → Prop} (h : Calls P f args w R) (hr : ∀ e w', R e w' → R' e w') : Calls P f args w R' :=
  fun cs => let ⟨e, w', fr, r, s⟩ := h cs; ⟨e, w', fr, hr _ _ r, s⟩
theorem own_oz {l : List Int} (hl : 0 < l.length) {x : Eng.Own} (h : OwnOk 1 x l.length (intsW l).flatten) : ∃ z : OZ, ownV x l.length = .slice (some ⟨z.1, 0, none⟩) l.length z.2.1 ∧ ownB 3 x (intsW l).flatten = ozB z (intsW l).flatten := by
  obtain ⟨b, c, r, rfl, _⟩ := h.has hl
  exact ⟨(b, c, r), rfl, rfl⟩
abbrev bxSh : Sh := .st [.int .i64, .sl .str]
abbrev tnSh : Sh := .st [.int .i64, .str, .str]
abbrev mxSh : Sh := .st [.sl bxSh, .sl tnSh]
theorem rd_tn {w : World} {cs : List Value} (h : Rd w tnSh cs) : ∃ t : Tn, cs = t.cells := by
  cases h with
  | recS h1 h2 =>
  cases h1
  cases h2 with
  | recS h1 h2 =>
  cases h1 with
  | @str s1 _ =>
  cases h2 with
  | recS h1 h2 =>
  cases h1 with
  | @str s2 _ =>
  cases h2
  exact ⟨⟨_, s1.data.toList, s2.data.toList⟩, rfl⟩
theorem rowsH_of {α : Type} {f : α → List Value} {p : α → Prop} : ∀ {xs : List (List Value)}, (∀ x ∈ xs, ∃ a, x = f a ∧ p a) → ∃ l : List α, xs = l.map f ∧ ∀ a ∈ l, p a
  | [], _ => ⟨[], rfl, fun a h => by cases h⟩
  | x :: xs, h => by
    obtain ⟨a, rfl, ha⟩ := h x (by simp)
    obtain ⟨l, rfl, hl⟩ := rowsH_of (xs := xs) (fun y hy => h y (List.mem_cons_of_mem _ hy))
    exact ⟨a :: l, rfl, fun b hb => by rcases List.mem_cons.1 hb with rfl | hb; exact ha; exact hl b hb⟩
theorem rd_str {w : World} {cs : List Value} (h : Rd w .str cs) : ∃ s : Str, cs = [.string (bs s)] ∧ True := by
  cases h with
  | @str s _ => exact ⟨s.data.toList, by simp [bs], trivial⟩
theorem rd_bx {w : World} {cs : List Value} (h : Rd w bxSh cs) : ∃ x : BxA, cs = x.cells ∧ TOk w x := by
  cases h with
  | recS h1 h2 =>
  cases h1
  cases h2 with
  | recS h1 h2 =>
  cases h2
  cases h1 with
  | slNil => exact ⟨⟨⟨_, []⟩, none, 0, 0, 0⟩, rfl, Sl.emp⟩
  | sl hs hl hc hx =>
    obtain ⟨ts, rfl, _⟩ := rowsH_of (f := fun s : Str => [Value.string (bs s)]) (fun x hx' => rd_str (hx x hx'))
    exact ⟨⟨⟨_, ts⟩, some _, _, _, _⟩, by rw [List.length_map]; rfl, hs⟩
theorem rd_bxs {w : World} {cs : List Value} (h : Rd w (.sl bxSh) cs) : ∃ (l : List BxA) (q : Option Addr) (b o cap : Nat), cs = [Value.slice q l.length cap] ∧ Sl w q b o 2 (l.map BxA.cells) ∧ ∀ x ∈ l, TOk w x := by
  cases h with
  | slNil => exact ⟨[], none, 0, 0, 0, rfl, Sl.emp, fun x h => by cases h⟩
  | sl hs hl hc hx =>
    obtain ⟨l, rfl, hl2⟩ := rowsH_of (f := BxA.cells) (fun x hx' => rd_bx (hx x hx'))
    exact ⟨l, some _, _, _, _, by rw [List.length_map], hs, hl2⟩
theorem rd_tns {w : World} {cs : List Value} (h : Rd w (.sl tnSh) cs) : ∃ (l : List Tn) (q : Option Addr) (b o cap : Nat), cs = [Value.slice q l.length cap] ∧ Sl w q b o 3 (l.map Tn.cells) := by
  cases h with
  | slNil => exact ⟨[], none, 0, 0, 0, rfl, Sl.emp⟩
  | sl hs hl hc hx =>
    obtain ⟨l, rfl, _⟩ := rowsH_of (f := Tn.cells) (p := fun _ => True) (fun x hx' => by obtain ⟨t, h⟩ := rd_tn (hx x hx'); exact ⟨t, h, trivial⟩)
    exact ⟨l, some _, _, _, _, by rw [List.length_map], hs⟩
theorem rd_mx {w : World} {cs : List Value} (h : Rd w mxSh cs) : ∃ m : MxA, cs = m.cells ∧ MOk w m := by
  cases h with
  | recS h1 h2 =>
  cases h2 with
  | recS h2 h3 =>
  cases h3
  obtain ⟨l, q, b, o, cap, rfl, hb, hT⟩ := rd_bxs h1
  obtain ⟨l2, q2, b2, o2, cap2, rfl, hc⟩ := rd_tns h2
  exact ⟨⟨l, q, b, o, cap, l2, q2, b2, o2, cap2⟩, rfl, ⟨hb, hT, hc⟩⟩
end Go.Hp
namespace Go.Proofs.YtlhdalcipflblaaDoor
open Go Go.Eng Go.Hp Go.Pw1

theorem smFits (z : SZ) (W : World) (h : SmAt W z []) : Calls Tryd.prog 14 #[(smA z []).v, .int .i64 0] W (Pure (.tuple #[.int .i64 10, .int .i64 0]) W) := by
  have h1 := fits_calls (smA z []) (sm_sm0 z) 0 W (sm_ok h)
  rwa [sm_pl, sm_fits] at h1
theorem smCount (z : SZ) (W : World) (h : SmAt W z []) : Calls Tryd.prog 19 #[(smA z []).v] W (Pure (.tuple #[.int .i64 2, .int .i64 0]) W) := by
  have h1 := counth_calls (smA z []) (sm_sm0 z) W (sm_ok h)
  rwa [sm_pl, sm_count] at h1
theorem smShare (z : SZ) (W : World) (h : SmAt W z []) : Calls Tryd.prog 21 #[(smA z []).v, .int .i64 0, .int .i64 3] W (Pure (.tuple #[.int .i64 1, .int .i64 0]) W) := by
  have h1 := shareh_calls (smA z []) (sm_sm0 z) 0 3 W (sm_ok h)
  rwa [sm_pl, sm_share] at h1
theorem smFirst (z : SZ) (W : World) (h : SmAt W z []) : Calls Tryd.prog 23 #[(smA z []).v] W (News (fun y : OZ => .tuple #[.slice (some ⟨y.1, 0, none⟩) 3 y.2.1, .int .i64 0]) (fun y => ozB y [.int .i64 1, .int .i64 3, .int .i64 4]) W) := by
  have h1 := first_calls (smA z []) (sm_sm0 z) W (sm_ok h) sm_ways
  rw [sm_pl, sm_first] at h1
  refine calls_mono h1 ?_
  rintro e w' ⟨⟨x, hx⟩, rfl, hm⟩
  obtain ⟨y, e1, e2⟩ := own_oz (l := [1, 3, 4]) (by decide) hx
  simp only [List.append_nil] at hm
  rw [e2] at hm
  exact ⟨y, congrArg (fun v => Ending.returned (Value.tuple #[v, .int .i64 0])) e1, hm⟩
theorem smSure (z : SZ) (W : World) (h : SmAt W z []) : Calls Tryd.prog 25 #[(smA z []).v] W (News (fun y : OZ => .tuple #[.slice (some ⟨y.1, 0, none⟩) 3 y.2.1, .int .i64 0]) (fun y => ozB y [.int .i64 (-1), .int .i64 (-1), .int .i64 4]) W) := by
  have h1 := sure_calls (smA z []) (sm_sm0 z) W (sm_ok h) sm_ways
  rw [sm_pl, sm_sure] at h1
  refine calls_mono h1 ?_
  rintro e w' ⟨⟨x, hx⟩, rfl, hm⟩
  obtain ⟨y, e1, e2⟩ := own_oz (l := [-1, -1, 4]) (by decide) hx
  simp only [List.append_nil] at hm
  rw [e2] at hm
  exact ⟨y, congrArg (fun v => Ending.returned (Value.tuple #[v, .int .i64 0])) e1, hm⟩
theorem smLost (z : SZ) (W : World) (h : SmAt W z []) : Calls Tryd.prog 27 #[(smA z []).v] W (Pure (.tuple #[.int .i64 5, .int .i64 5, .int .i64 0]) W) := by
  have h1 := lost_calls (smA z []) (sm_sm0 z) W (sm_ok h)
  rwa [sm_pl, sm_lost] at h1
theorem smWhy (z : SZ) (W : World) (h : SmAt W z [smMore]) : Calls Tryd.prog 16 #[(smA z [smMore]).v] W (Pure (.tuple #[.int .i64 11, .int .i64 11]) W) := by
  have h1 := why_calls (smA z [smMore]) (sm_sm1 z) W (sm_ok h)
  rwa [sm_pl, sm_why] at h1
theorem ozInts {y : OZ} {a b : List Int} {w : World} {bb : Nat} {cb : Nat} (h : w.heap[y.1]? = some (.cells ((intsW a).flatten ++ y.2.2).toArray 3 (0, 0))) (h2 : w.heap[bb]? = some (.cells (intsW b).flatten.toArray 3 (0, 0))) (ha : a.length ≤ 1000) (hb : b.length ≤ 1000) :
    Calls Tryd.prog 29 #[.slice (some ⟨y.1, 0, none⟩) a.length y.2.1, .slice (some ⟨bb, 0, none⟩) b.length cb] w (Pure (.bool (decide (a = b))) w) :=
  rInts_calls a b _ y.1 0 _ _ bb 0 _ ha hb w (Sl.rowsR (t := y.2.2) h (fun x hx => by obtain ⟨a, _, rfl⟩ := List.mem_map.1 hx; rfl)) (Sl.rows h2 (fun x hx => by obtain ⟨a, _, rfl⟩ := List.mem_map.1 hx; rfl))
set_option maxRecDepth 4000 in
theorem hawake_calls (W : World) : Calls Tryd.prog 13 #[] W (Pure (.bool true) W) := by
  refine calls_start Tryd.func13 rfl rfl ?_
  refine RunC.seq ?_
  refine RunC.region ?_
  refine RunL.val (Val.pure rfl) rfl rfl rfl ?_
  refine RunL.nil ?_
  refine RunE.next ?_
  refine RunC.seq ?_
  refine RunC.region ?_
  refine RunL.callN (isCall_func rfl ent_37) rfl rfl rfl (fun w hm => sample0_calls w) (fun b17 => ?_)
  refine RunL.callP (isCall_func rfl ent_14) rfl rfl rfl (fun w hm => smFits b17 w ⟨hm.at (.head _), hm.at (.tail _ (.head _)), hm.at (.tail _ (.tail _ (.head _))), hm.at (.tail _ (.tail _ (.tail _ (.head _))))⟩) ?_
  iterate 5 refine RunL.val (Val.pure rfl) rfl rfl rfl ?_
  refine RunL.nil ?_
  refine RunE.next ?_
  refine RunC.seq ?_
  refine RunC.region ?_
  refine RunL.callN (isCall_func rfl ent_37) rfl rfl rfl (fun w hm => sample0_calls w) (fun b22 => ?_)
  refine RunL.callP (isCall_func rfl ent_19) rfl rfl rfl (fun w hm => smCount b22 w ⟨hm.at (.head _), hm.at (.tail _ (.head _)), hm.at (.tail _ (.tail _ (.head _))), hm.at (.tail _ (.tail _ (.tail _ (.head _))))⟩) ?_
  iterate 5 refine RunL.val (Val.pure rfl) rfl rfl rfl ?_
  refine RunL.nil ?_
  refine RunE.next ?_
  refine RunC.seq ?_
  refine RunC.region ?_
  refine RunL.callN (isCall_func rfl ent_37) rfl rfl rfl (fun w hm => sample0_calls w) (fun b27 => ?_)
  refine RunL.callP (isCall_func rfl ent_21) rfl rfl rfl (fun w hm => smShare b27 w ⟨hm.at (.head _), hm.at (.tail _ (.head _)), hm.at (.tail _ (.tail _ (.head _))), hm.at (.tail _ (.tail _ (.tail _ (.head _))))⟩) ?_
  iterate 5 refine RunL.val (Val.pure rfl) rfl rfl rfl ?_
  refine RunL.nil ?_
  refine RunE.next ?_
  refine RunC.seq ?_
  refine RunC.region ?_
  refine RunL.callN (isCall_func rfl ent_37) rfl rfl rfl (fun w hm => sample0_calls w) (fun b32 => ?_)
  refine RunL.callN (isCall_func rfl ent_23) rfl rfl rfl (fun w hm => smFirst b32 w ⟨hm.at (.head _), hm.at (.tail _ (.head _)), hm.at (.tail _ (.tail _ (.head _))), hm.at (.tail _ (.tail _ (.tail _ (.head _))))⟩) (fun b33 => ?_)
  iterate 5 refine RunL.val (Val.pure rfl) rfl rfl rfl ?_
  refine RunL.nil ?_
  refine RunE.next ?_
  refine RunC.seq ?_
  refine RunC.region ?_
  refine RunL.callN (isCall_func rfl ent_37) rfl rfl rfl (fun w hm => sample0_calls w) (fun b37 => ?_)
  refine RunL.callN (isCall_func rfl ent_25) rfl rfl rfl (fun w hm => smSure b37 w ⟨hm.at (.head _), hm.at (.tail _ (.head _)), hm.at (.tail _ (.tail _ (.head _))), hm.at (.tail _ (.tail _ (.tail _ (.head _))))⟩) (fun b38 => ?_)
  iterate 5 refine RunL.val (Val.pure rfl) rfl rfl rfl ?_
  refine RunL.nil ?_
  refine RunE.next ?_
  refine RunC.seq ?_
  refine RunC.region ?_
  refine RunL.callN (isCall_func rfl ent_37) rfl rfl rfl (fun w hm => sample0_calls w) (fun b42 => ?_)
  refine RunL.callP (isCall_func rfl ent_27) rfl rfl rfl (fun w hm => smLost b42 w ⟨hm.at (.head _), hm.at (.tail _ (.head _)), hm.at (.tail _ (.tail _ (.head _))), hm.at (.tail _ (.tail _ (.tail _ (.head _))))⟩) ?_
  iterate 7 refine RunL.val (Val.pure rfl) rfl rfl rfl ?_
  refine RunL.nil ?_
  refine RunE.next ?_
  refine RunC.seq ?_
  refine RunC.region ?_
  refine RunL.callP (isCall_func rfl ent_38) rfl rfl rfl (fun w hm => torn_calls _ _ w) ?_
  refine RunL.new (New.buildSlice (parts := [(0, .tmp 48)]) rfl sl_23 zero_50 rfl rfl rfl rfl) rfl rfl rfl (fun b49 => ?_)
  refine RunL.callN (isCall_func rfl ent_37) rfl rfl rfl (fun w hm => sample1_calls b49 w (hm.at (.head _))) (fun b50 => ?_)
  refine RunL.callP (isCall_func rfl ent_16) rfl rfl rfl (fun w hm => smWhy b50 w ⟨hm.at (.head _), hm.at (.tail _ (.head _)), hm.at (.tail _ (.tail _ (.head _))), hm.at (.tail _ (.tail _ (.tail _ (.head _))))⟩) ?_
  iterate 5 refine RunL.val (Val.pure rfl) rfl rfl rfl ?_
  refine RunL.nil ?_
  refine RunE.next ?_
  refine RunC.seq ?_
  refine RunC.region ?_
  iterate 3 refine RunL.val (Val.pure rfl) rfl rfl rfl ?_
  refine RunL.sure (dj := 56) true rfl (by simp) ?_
  iterate 4 refine RunL.val (Val.pure rfl) rfl rfl rfl ?_
  refine RunL.sure (dj := 60) true rfl (by simp) ?_
  iterate 4 refine RunL.val (Val.pure rfl) rfl rfl rfl ?_
  refine RunL.sure (dj := 64) true rfl (by simp) ?_
  iterate 4 refine RunL.val (Val.pure rfl) rfl rfl rfl ?_
  refine RunL.sure (dj := 68) true rfl (by simp) ?_
  iterate 4 refine RunL.val (Val.pure rfl) rfl rfl rfl ?_
  refine RunL.sure (dj := 72) true rfl (by simp) ?_
  iterate 4 refine RunL.val (Val.pure rfl) rfl rfl rfl ?_
  refine RunL.sure (dj := 76) true rfl (by simp) ?_
  refine RunL.val (Val.pure rfl) rfl rfl rfl ?_
  refine RunL.new (New.buildSlice (parts := [(0, .const (.int .i64 1)), (1, .const (.int .i64 3)), (2, .const (.int .i64 4))]) rfl sl_34 zero_3 rfl rfl rfl rfl) rfl rfl rfl (fun b78 => ?_)
  refine RunL.callP (isCall_func rfl ent_29) rfl rfl rfl (fun w hm => ozInts (y := b33) (a := [1, 3, 4]) (b := [1, 3, 4]) (hm.at (.tail _ (.tail _ (.tail _ (.tail _ (.tail _ (.tail _ (.tail _ (.tail _ (.tail _ (.tail _ (.tail _ (.tail _ (.tail _ (.tail _ (.tail _ (.head _))))))))))))))))) (hm.at (.head _)) (by decide) (by decide)) ?_
  refine RunL.val (Val.pure rfl) rfl rfl rfl ?_
  refine RunL.val (Val.pure rfl) rfl rfl rfl ?_
  refine RunL.sure (dj := 81) true rfl (by simp) ?_
  iterate 4 refine RunL.val (Val.pure rfl) rfl rfl rfl ?_
  refine RunL.sure (dj := 85) true rfl (by simp) ?_
  refine RunL.val (Val.pure rfl) rfl rfl rfl ?_
  refine RunL.new (New.buildSlice (parts := [(0, .const (.int .i64 (-1))), (1, .const (.int .i64 (-1))), (2, .const (.int .i64 4))]) rfl sl_34 zero_3 rfl rfl rfl rfl) rfl rfl rfl (fun b87 => ?_)
  refine RunL.callP (isCall_func rfl ent_29) rfl rfl rfl (fun w hm => ozInts (y := b38) (a := [-1, -1, 4]) (b := [-1, -1, 4]) (hm.at (.tail _ (.tail _ (.tail _ (.tail _ (.tail _ (.tail _ (.tail _ (.tail _ (.tail _ (.tail _ (.tail _ (.head _))))))))))))) (hm.at (.head _)) (by decide) (by decide)) ?_
  refine RunL.val (Val.pure rfl) rfl rfl rfl ?_
  refine RunL.val (Val.pure rfl) rfl rfl rfl ?_
  refine RunL.sure (dj := 90) true rfl (by simp) ?_
  iterate 4 refine RunL.val (Val.pure rfl) rfl rfl rfl ?_
  refine RunL.sure (dj := 94) true rfl (by simp) ?_
  iterate 4 refine RunL.val (Val.pure rfl) rfl rfl rfl ?_
  refine RunL.sure (dj := 98) true rfl (by simp) ?_
  iterate 4 refine RunL.val (Val.pure rfl) rfl rfl rfl ?_
  refine RunL.sure (dj := 102) true rfl (by simp) ?_
  iterate 4 refine RunL.val (Val.pure rfl) rfl rfl rfl ?_
  refine RunL.sure (dj := 106) true rfl (by simp) ?_
  iterate 4 refine RunL.val (Val.pure rfl) rfl rfl rfl ?_
  refine RunL.sure (dj := 110) true rfl (by simp) ?_
  iterate 4 refine RunL.val (Val.pure rfl) rfl rfl rfl ?_
  refine RunL.nil ?_
  refine RunE.next ?_
  refine RunC.ret ?_
  exact RunE.retP (.r1 rfl (.tmp rfl)) (by first | rfl | simp)
end Go.Proofs.YtlhdalcipflblaaDoor
/- Layer 10, plain: the first set of cards that have too few entries. -/
set_option linter.unusedSimpArgs false
set_option linter.unusedVariables false
namespace Go.Hp
open Go Go.Eng Go.Pw1 Go.Proofs.YtlhdalcipflblaaDoor
theorem bit_one (s k : Nat) : s / 2 ^ k % 2 = if s.testBit k then 1 else 0 := by
  rw [Nat.testBit_eq_decide_div_mod_eq]
  by_cases h : s / 2 ^ k % 2 = 1
  · simp [h]
  · simp [h]; omega
theorem pc_del {s t i : Nat} (h : ∀ j, t.testBit j = (s.testBit j && !decide (j = i))) : ∀ k, pc s k = pc t k + if decide (i < k) && s.testBit i then 1 else 0
  | 0 => by simp [pc]
  | k + 1 => by
    have ih := pc_del h k
    show pc s k + s / 2 ^ k % 2 = pc t k + t / 2 ^ k % 2 + _
    rw [bit_one, bit_one, h k, ih]
    by_cases e : k = i
    · subst e
      have h1 : ¬ k < k := by omega
      cases s.testBit k <;> simp [h1]
    · by_cases h1 : i < k
      · have h2 : i < k + 1 := by omega
        cases s.testBit k <;> cases s.testBit i <;> simp [h1, h2, e]
      · have h2 : ¬ i < k + 1 := by omega
        cases s.testBit k <;> simp [h1, h2, e]
theorem pc_pos : ∀ {k s : Nat}, 0 < s → s < 2 ^ k → 0 < pc s k
  | 0, s, h0, h => by simp at h; omega
  | k + 1, s, h0, h => by
    rw [pc_half]
    rcases Nat.eq_zero_or_pos (s % 2) with h1 | h1
    · have := pc_pos (k := k) (s := s / 2) (by omega) (by rw [Nat.pow_succ] at h; omega)
      omega
    · omega
theorem pc12 {s n : Nat} (hn : n ≤ 12) (h : s < 2 ^ n) : pc s 12 = pc s n := by
  have h1 := pc_top (s := s) (k := n) (Nat.div_eq_of_lt h) (12 - n)
  rw [show n + (12 - n) = 12 by omega] at h1
  exact h1
def ltS (s t : Nat) : Prop := pc s 12 < pc t 12 ∨ (pc s 12 = pc t 12 ∧ s < t)
theorem sets_pw (n : Nat) : (setsL n).Pairwise ltS := by
  unfold setsL
  refine flat_pw (R := (· < ·)) (List.pairwise_map.2 (List.pairwise_lt_range.imp fun h => by omega)) (fun k _ => ?_) fun a b hab x hx y hy => ?_
  · refine (List.pairwise_lt_range.filter _).imp_of_mem fun {x y} hx hy h => .inr ⟨?_, h⟩
    have h1 := (List.mem_filter.1 hx).2
    have h2 := (List.mem_filter.1 hy).2
    simp only [Bool.and_eq_true, decide_eq_true_eq] at h1 h2
    omega
  · have h1 := (List.mem_filter.1 hx).2
    have h2 := (List.mem_filter.1 hy).2
    simp only [Bool.and_eq_true, decide_eq_true_eq] at h1 h2
    exact .inl (by omega)
theorem sets_mem {n s : Nat} (hn : n ≤ 8) : s ∈ setsL n ↔ 0 < s ∧ s < 2 ^ n := by
  unfold setsL
  simp only [List.mem_flatMap, List.mem_map, List.mem_range, List.mem_filter, Bool.and_eq_true, decide_eq_true_eq]
  constructor
  · rintro ⟨_, _, h1, h2, _⟩
    exact ⟨h2, h1⟩
  · rintro ⟨h1, h2⟩
    have h3 := pc12 (by omega) h2
    have h4 := pc_pos h1 h2
    have h5 := pc_le s n
    exact ⟨pc s 12, ⟨pc s 12 - 1, by omega, by omega⟩, h2, h1, rfl⟩
theorem short_zero (fs : List Nat) : shortX fs 0 = false := by
  unfold shortX
  rw [pc_zero]
  simp
/-- What Why returns, in one piece. -/
structure WhyIs (fs : List Nat) (s e : Nat) : Prop where
  lt : s < 2 ^ fs.length
  se : (s = 0 ∧ e = 0) ∨ (0 < s ∧ e = 11 ∧ shortX fs s = true)
  del : ∀ i, s.testBit i = true → shortX fs (andN s (2 ^ i)) = false
  min : ∀ t, t < 2 ^ fs.length → shortX fs t = true → 0 < s ∧ (pc s 12 < pc t 12 ∨ (pc s 12 = pc t 12 ∧ s ≤ t))
theorem andN_del {s i : Nat} : ∀ j, (andN s (2 ^ i)).testBit j = (s.testBit j && !decide (j = i)) := fun j => by
  rw [andN_bit, Nat.testBit_two_pow]
  congr 2
  exact decide_eq_decide.2 ⟨fun h => h.symm, fun h => h.symm⟩
theorem bit_lt {s n i : Nat} (h : s < 2 ^ n) (hb : s.testBit i = true) : i < n := by
  rcases Nat.lt_or_ge i n with h1 | h1
  · exact h1
  · have h2 : s < 2 ^ i := Nat.lt_of_lt_of_le h (Nat.pow_le_pow_right (by decide) h1)
    rw [Nat.testBit_lt_two_pow h2] at hb
    cases hb
theorem whyL_is {fs : List Nat} (hn : fs.length ≤ 8) : ∃ s e, WhyIs fs s e ∧ (match whyL fs with | some s => ((s : Int), (11 : Int)) | none => (0, 0)) = ((s : Int), (e : Int)) := by
  cases h : whyL fs with
  | none =>
    have h0 : ∀ t, t < 2 ^ fs.length → shortX fs t = false := fun t ht => by
      rcases Nat.eq_zero_or_pos t with rfl | h1
      · exact short_zero fs
      · have := List.find?_eq_none.1 h t ((sets_mem hn).2 ⟨h1, ht⟩)
        simpa using this
    exact ⟨0, 0, ⟨Nat.two_pow_pos _, .inl ⟨rfl, rfl⟩, fun i hi => by simp at hi, fun t ht hs => by rw [h0 t ht] at hs; cases hs⟩, rfl⟩
  | some s =>
    obtain ⟨h1, l1, l2, h2, h3⟩ := List.find?_eq_some_iff_append.1 h
    have hm : s ∈ setsL fs.length := by rw [h2]; simp
    obtain ⟨hs0, hs1⟩ := (sets_mem hn).1 hm
    have key : ∀ t, t < 2 ^ fs.length → ltS t s → shortX fs t = false := fun t ht hlt => by
      rcases Nat.eq_zero_or_pos t with rfl | h4
      · exact short_zero fs
      · have h5 : t ∈ setsL fs.length := (sets_mem hn).2 ⟨h4, ht⟩
        have h6 := sets_pw fs.length
        rw [h2] at h5 h6
        rcases List.mem_append.1 h5 with h7 | h7
        · simpa using h3 t h7
        · exfalso
          have h8 := (List.pairwise_append.1 h6).2.1
          unfold ltS at hlt
          rcases List.mem_cons.1 h7 with rfl | h7
          · omega
          · cases h8 with
            | cons h9 _ =>
              have h10 := h9 t h7
              unfold ltS at h10
              omega
    refine ⟨s, 11, ⟨hs1, .inr ⟨hs0, rfl, h1⟩, fun i hi => ?_, fun t ht hsh => ⟨hs0, ?_⟩⟩, rfl⟩
    · have h4 := pc_del (andN_del (s := s) (i := i)) 12
      have hi2 := bit_lt hs1 hi
      have hi3 : i < 12 := by omega
      simp only [hi3, hi, decide_true, Bool.and_self, if_true] at h4
      exact key _ (Nat.lt_of_le_of_lt (andN_le _ _) hs1) (.inl (by omega))
    · rcases Nat.lt_trichotomy (pc s 12) (pc t 12) with h4 | h4 | h4
      · exact .inl h4
      · refine .inr ⟨h4, ?_⟩
        rcases Nat.lt_or_ge t s with h5 | h5
        · rw [key t ht (.inr ⟨h4.symm, h5⟩)] at hsh; cases hsh
        · exact h5
      · rw [key t ht (.inl h4)] at hsh; cases hsh
theorem why_is {m : MxA} (hX : mixedX m.pl = true) : ∃ s e, WhyIs (fsX m.pl) s e ∧ WhyX m.pl = ((s : Int), (e : Int)) := by
  obtain ⟨h4, h8, h12⟩ := mixed_ok hX
  obtain ⟨s, e, h1, h2⟩ := whyL_is (fs := fsX m.pl) (by rw [fs_len]; exact h8)
  exact ⟨s, e, h1, by unfold WhyX; rw [if_pos hX]; exact h2⟩
theorem bit_iff (s k : Nat) : s.testBit k = decide (((s >>> k &&& 1 : Nat) : Int) = 1) := by
  rw [Nat.testBit_eq_decide_div_mod_eq, ← Nat.shiftRight_eq_div_pow, decide_eq_decide, Nat.and_one_is_mod]
  omega
theorem bit_yes {s k : Nat} (h : ((s >>> k &&& 1 : Nat) : Int) = 1) : s.testBit k = true := by rw [bit_iff, decide_eq_true h]
theorem bit_no {s k : Nat} (h : ¬ ((s >>> k &&& 1 : Nat) : Int) = 1) : s.testBit k = false := by rw [bit_iff, decide_eq_false h]
theorem fits_at {m : MxA} (hX : mixedX m.pl = true) {k f : Nat} (hk : k < (fsX m.pl).length) (hf : (fsX m.pl)[k] = f) : FitsX m.pl (k : Int) = ((f : Int), 0) := by
  have hk2 : k < m.pl.cards.length := by rw [fs_len] at hk; exact hk
  have hc : cardX m.pl (k : Int) = true := by
    unfold cardX within
    rw [Bool.and_eq_true, decide_eq_true_eq, decide_eq_true_eq]
    omega
  unfold FitsX
  rw [if_pos hX, if_pos hc]
  simp [hk, hf]
theorem fs12 {m : MxA} (hX : mixedX m.pl = true) : ∀ f ∈ fsX m.pl, f < 2 ^ 12 := fun f hf => Nat.lt_of_lt_of_le (fs_lt m f hf) (Nat.pow_le_pow_right (by decide) (mixed_ok hX).2.2)
abbrev mB (m : MxA) : Obj := .cells m.cells.toArray 25 (0, 0)
end Go.Hp
/- The facts on the tables of types and on the entries of functions that the walks use. Written by program. -/
set_option linter.unusedSimpArgs false
set_option linter.unusedVariables false
namespace Go.Proofs.YtlhdalcipflblaaDoor
open Go Go.Eng
theorem boolB_4 : boolB Tryd.prog 4 = true := by kernel_rfl
theorem ent_12 : Enters Tryd.prog 12 := enters_of Tryd.func12 (by kernel_rfl) rfl
theorem ent_13 : Enters Tryd.prog 13 := enters_of Tryd.func13 (by kernel_rfl) rfl
theorem ent_33 : Enters Tryd.prog 33 := enters_of Tryd.func33 (by kernel_rfl) rfl
theorem ent_35 : Enters Tryd.prog 35 := enters_of Tryd.func35 (by kernel_rfl) rfl
theorem ent_36 : Enters Tryd.prog 36 := enters_of Tryd.func36 (by kernel_rfl) rfl
theorem ent_60 : Enters Tryd.prog 60 := enters_of Tryd.func60 (by kernel_rfl) rfl
theorem ent_61 : Enters Tryd.prog 61 := enters_of Tryd.func61 (by kernel_rfl) rfl
end Go.Proofs.YtlhdalcipflblaaDoor
/- Walks of the laws of layer 10: HeapWhy. -/
set_option linter.unusedSimpArgs false
set_option linter.unusedVariables false
namespace Go.Proofs.YtlhdalcipflblaaDoor
open Go Go.Eng Go.Hp Go.Pw1

theorem rMixed_calls (m : MxA) (hsm : MSm m) (W : World) (hM : MOk W m) : Calls Tryd.prog 33 #[m.v] W (Pure (.bool (mixedX m.pl)) W) := by
  have hs1 := hsm.bx
  have hs2 := hsm.cd
  have hml := many_le fun x hx => (hsm.ti x hx).n
  refine calls_start Tryd.func33 rfl rfl ?_
  refine RunC.seq ?_
  refine RunC.region ?_
  refine RunL.new (New.box rfl) rfl rfl rfl (fun b1 => ?_)
  refine RunL.val (Val.pure rfl) rfl rfl rfl ?_
  refine RunL.nil ?_
  refine RunE.next ?_
  refine RunC.seq ?_
  refine RunC.region ?_
  refine RunL.val (Val.pure rfl) rfl rfl rfl ?_
  refine RunL.nil ?_
  refine RunE.next ?_
  refine RunC.seq ?_
  refine RunC.seq ?_
  refine RunC.region ?_
  refine RunL.val (Val.pure rfl) rfl rfl rfl ?_
  refine RunL.nil ?_
  refine RunE.next ?_
  refine RunC.block ?_
  refine RunC.loopK (m.bxs.length) (fun k q => (4, .int .i64 (k : Int)) :: (3, .int .i64 ((manyX ((m.bxs.take k).map (·.bx)) : Nat) : Int)) :: q) (fun _ => _) (fun _ => []) (fun k => (m.bxs.take k).any (fun B => badBox B.bx) = false) (by simp) rfl (Sub.consE (t := 4) rfl rfl (Sub.consE (t := 3) rfl rfl (Sub.cons (t := 1) rfl (Sub.nil _)))) (.cons .here rfl .nil) ?_
  intro k kN kI
  refine RunC.seq ?_
  refine RunC.seq ?_
  refine RunC.region ?_
  refine RunL.val (Val.pure rfl) rfl rfl rfl ?_
  refine RunL.val (Val.fieldAddr rfl fld_25_0) rfl rfl rfl ?_
  refine RunL.val (Val.load_one rfl (.head _) ty_22 rfl) rfl rfl rfl ?_
  refine RunL.val (Val.len_sl rfl sl_22) rfl rfl rfl ?_
  refine RunL.val (Val.pure rfl) rfl rfl rfl ?_
  refine RunL.nil ?_
  refine RunE.next ?_
  refine RunC.cond rfl ?_ ?_
  · intro c0
    have c0' := c0; clear c0
    try simp only [decide_eq_true_eq, decide_eq_false_iff_not, Bool.not_eq_true', Bool.not_eq_false', Bool.and_eq_true, Bool.or_eq_true, Bool.and_eq_false_iff, Bool.or_eq_false_iff, Int.not_le, Int.not_lt] at c0'
    have hk : k < m.bxs.length := by omega
    obtain ⟨B, hB⟩ : ∃ B, m.bxs[k] = B := ⟨_, rfl⟩
    have hBm : B ∈ m.bxs := hB ▸ List.getElem_mem hk
    have hBT := hM.ti B hBm
    have hBs := (hsm.ti B hBm).n
    have hBt := (hsm.ti B hBm).t
    have hmk := hml k
    refine RunC.skip ?_
    refine RunE.next ?_
    refine RunC.seq ?_
    refine RunC.block ?_
    refine RunC.seq ?_
    refine RunC.seq ?_
    refine RunC.region ?_
    refine RunL.val (Val.pure rfl) rfl rfl rfl ?_
    refine RunL.nil ?_
    refine RunE.next ?_
    refine RunC.block ?_
    refine RunC.loopK (B.bx.titles.length) (fun j q => (5, .int .i64 (j : Int)) :: q) (fun _ => _) (fun _ => []) (fun j => (B.bx.titles.take j).any badTitle = false) (by simp) rfl (Sub.consE (t := 5) rfl rfl (Sub.cons (t := 1) rfl (Sub.cons (t := 3) rfl (Sub.cons (t := 4) rfl (Sub.nil _))))) (.cons .here rfl .nil) ?_
    intro j jN jI
    refine RunC.seq ?_
    refine RunC.seq ?_
    refine RunC.region ?_
    refine RunL.val (Val.pure rfl) rfl rfl rfl ?_
    refine RunL.val (Val.fieldAddr rfl fld_25_0) rfl rfl rfl ?_
    refine RunL.val (Val.load_one rfl (.head _) ty_22 rfl) rfl rfl rfl ?_
    refine RunL.val (Val.pure rfl) rfl rfl rfl ?_
    refine RunL.val (Val.indexAddr_slp rfl rfl sl_22 (by omega) (by omega) (hM.bx.ptrM hk)) rfl rfl rfl ?_
    refine RunL.val (Val.fieldAddr rfl fld_46_1) rfl rfl rfl ?_
    refine RunL.val (Val.load_gen rfl (fun w hm => hM.bx.cellX hm (by simp) ty_44 hk hB (j := 1) (by decide) rfl)) rfl rfl rfl ?_
    refine RunL.val (Val.len_sl rfl sl_44) rfl rfl rfl ?_
    refine RunL.val (Val.pure rfl) rfl rfl rfl ?_
    refine RunL.nil ?_
    refine RunE.next ?_
    refine RunC.cond rfl ?_ ?_
    · intro c1
      have c1' := c1; clear c1
      try simp only [decide_eq_true_eq, decide_eq_false_iff_not, Bool.not_eq_true', Bool.not_eq_false', Bool.and_eq_true, Bool.or_eq_true, Bool.and_eq_false_iff, Bool.or_eq_false_iff, Int.not_le, Int.not_lt] at c1'
      have hj : j < B.bx.titles.length := by omega
      obtain ⟨S, hS⟩ : ∃ S, B.bx.titles[j] = S := ⟨_, rfl⟩
      have hSt := hBt S (hS ▸ List.getElem_mem hj)
      refine RunC.skip ?_
      refine RunE.next ?_
      refine RunC.seq ?_
      refine RunC.block ?_
      refine RunC.seq ?_
      refine RunC.region ?_
      refine RunL.val (Val.fieldAddr rfl fld_25_0) rfl rfl rfl ?_
      refine RunL.val (Val.load_one rfl (.head _) ty_22 rfl) rfl rfl rfl ?_
      refine RunL.val (Val.pure rfl) rfl rfl rfl ?_
      refine RunL.val (Val.indexAddr_slp rfl rfl sl_22 (by omega) (by omega) (hM.bx.ptrM hk)) rfl rfl rfl ?_
      refine RunL.val (Val.fieldAddr rfl fld_46_1) rfl rfl rfl ?_
      refine RunL.val (Val.load_gen rfl (fun w hm => hM.bx.cellX hm (by simp) ty_44 hk hB (j := 1) (by decide) rfl)) rfl rfl rfl ?_
      refine RunL.val (Val.pure rfl) rfl rfl rfl ?_
      refine RunL.val (Val.indexAddr_slp rfl rfl sl_44 (by omega) (by omega) (hBT.ptrM hj)) rfl rfl rfl ?_
      refine RunL.val (Val.load_gen rfl (fun w hm => Sl.loadM1 hBT (by decide) hm (by simp) ty_9 hj (v := .string (bs S)) (by simp [hS]))) rfl rfl rfl ?_
      refine RunL.callP (isCall_func rfl ent_60) rfl rfl rfl (fun w hm => rTitle_calls S hSt w) ?_
      refine RunL.val (Val.pure rfl) rfl rfl rfl ?_
      refine RunL.nil ?_
      refine RunE.next ?_
      refine RunC.cond rfl ?_ ?_
      · intro c2
        have c2' := c2; clear c2
        try simp only [decide_eq_true_eq, decide_eq_false_iff_not, Bool.not_eq_true', Bool.not_eq_false', Bool.and_eq_true, Bool.or_eq_true, Bool.and_eq_false_iff, Bool.or_eq_false_iff, Int.not_le, Int.not_lt] at c2'
        refine RunC.seq ?_
        refine RunC.region ?_
        refine RunL.val (Val.pure rfl) rfl rfl rfl ?_
        refine RunL.nil ?_
        refine RunE.next ?_
        refine RunC.ret ?_
        refine RunE.block_ret ?_
        refine RunE.pass_ret ?_
        refine RunE.pass_ret ?_
        refine RunE.block_ret ?_
        refine RunE.pass_ret ?_
        refine RunE.block_ret ?_
        refine RunE.pass_ret ?_
        refine RunE.pass_ret ?_
        refine RunE.block_ret ?_
        refine RunE.pass_ret ?_
        exact RunE.retP (.r1 rfl (.tmp rfl)) (by rw [mixed_box hk (by (rw [hB]; exact box_title hj (by (rw [hS]; simpa using c2'))))])
      · intro c2
        have c2' := c2; clear c2
        try simp only [decide_eq_true_eq, decide_eq_false_iff_not, Bool.not_eq_true', Bool.not_eq_false', Bool.and_eq_true, Bool.or_eq_true, Bool.and_eq_false_iff, Bool.or_eq_false_iff, Int.not_le, Int.not_lt] at c2'
        refine RunC.skip ?_
        refine RunE.block_normal ?_
        refine RunE.next ?_
        refine RunC.region ?_
        refine RunL.val (Val.pure rfl) rfl rfl rfl ?_
        refine RunL.val (Val.add rfl rfl (IntWalk.i64_in _ ⟨by omega, by omega⟩)) rfl rfl rfl ?_
        refine RunL.val (Val.pure rfl) rfl rfl rfl ?_
        refine RunL.nil ?_
        exact RunE.round (by omega) (any_snoc hj jI (by (rw [hS]; simpa using c2'))) rfl (Sub.consE (t := 5) rfl rfl (Sub.cons (t := 1) rfl (Sub.cons (t := 3) rfl (Sub.cons (t := 4) rfl (Sub.nil _))))) (.cons .here rfl .nil)
    · intro c1
      have c1' := c1; clear c1
      try simp only [decide_eq_true_eq, decide_eq_false_iff_not, Bool.not_eq_true', Bool.not_eq_false', Bool.and_eq_true, Bool.or_eq_true, Bool.and_eq_false_iff, Bool.or_eq_false_iff, Int.not_le, Int.not_lt] at c1'
      obtain rfl : j = B.bx.titles.length := by omega
      rw [List.take_length] at jI
      refine RunC.exit ?_
      refine RunE.pass_exit ?_
      refine RunE.pass_exit ?_
      refine RunE.block_here ?_
      refine RunE.next ?_
      refine RunC.seq ?_
      refine RunC.seq ?_
      refine RunC.region ?_
      refine RunL.val (Val.fieldAddr rfl fld_25_0) rfl rfl rfl ?_
      refine RunL.val (Val.load_one rfl (.head _) ty_22 rfl) rfl rfl rfl ?_
      refine RunL.val (Val.pure rfl) rfl rfl rfl ?_
      refine RunL.val (Val.indexAddr_slp rfl rfl sl_22 (by omega) (by omega) (hM.bx.ptrM hk)) rfl rfl rfl ?_
      refine RunL.val (Val.fieldAddr rfl fld_46_0) rfl rfl rfl ?_
      refine RunL.val (Val.load_gen rfl (fun w hm => hM.bx.cellX hm (by simp) ty_3 hk hB (j := 0) (by decide) rfl)) rfl rfl rfl ?_
      refine RunL.callP (isCall_func rfl ent_42) rfl rfl rfl (fun w hm => rin_calls B.bx.colour 1 9 w) ?_
      refine RunL.val (Val.pure rfl) rfl rfl rfl ?_
      refine RunL.nil ?_
      refine RunE.next ?_
      refine RunC.cond rfl ?_ ?_
      · intro c3
        have c3' := c3; clear c3
        try simp only [decide_eq_true_eq, decide_eq_false_iff_not, Bool.not_eq_true', Bool.not_eq_false', Bool.and_eq_true, Bool.or_eq_true, Bool.and_eq_false_iff, Bool.or_eq_false_iff, Int.not_le, Int.not_lt] at c3'
        refine RunC.seq ?_
        refine RunC.region ?_
        refine RunL.val (Val.pure rfl) rfl rfl rfl ?_
        refine RunL.nil ?_
        refine RunE.next ?_
        refine RunC.ret ?_
        refine RunE.pass_ret ?_
        refine RunE.block_ret ?_
        refine RunE.pass_ret ?_
        refine RunE.pass_ret ?_
        refine RunE.block_ret ?_
        refine RunE.pass_ret ?_
        exact RunE.retP (.r1 rfl (.tmp rfl)) (by rw [mixed_box hk (by (rw [hB]; unfold badBox; rw [show within B.bx.colour 1 9 = false by simpa using c3']; rfl))])
      · intro c3
        have c3' := c3; clear c3
        try simp only [decide_eq_true_eq, decide_eq_false_iff_not, Bool.not_eq_true', Bool.not_eq_false', Bool.and_eq_true, Bool.or_eq_true, Bool.and_eq_false_iff, Bool.or_eq_false_iff, Int.not_le, Int.not_lt] at c3'
        have hcol : within B.bx.colour 1 9 = true := by simpa using c3'
        refine RunC.skip ?_
        refine RunE.next ?_
        refine RunC.region ?_
        refine RunL.val (Val.pure rfl) rfl rfl rfl ?_
        refine RunL.val (Val.fieldAddr rfl fld_25_0) rfl rfl rfl ?_
        refine RunL.val (Val.load_one rfl (.head _) ty_22 rfl) rfl rfl rfl ?_
        refine RunL.val (Val.pure rfl) rfl rfl rfl ?_
        refine RunL.val (Val.indexAddr_slp rfl rfl sl_22 (by omega) (by omega) (hM.bx.ptrM hk)) rfl rfl rfl ?_
        refine RunL.val (Val.fieldAddr rfl fld_46_1) rfl rfl rfl ?_
        refine RunL.val (Val.load_gen rfl (fun w hm => hM.bx.cellX hm (by simp) ty_44 hk hB (j := 1) (by decide) rfl)) rfl rfl rfl ?_
        refine RunL.val (Val.len_sl rfl sl_44) rfl rfl rfl ?_
        refine RunL.val (Val.addN (a := manyX ((m.bxs.take k).map (·.bx))) (b := B.bx.titles.length) (manyX ((m.bxs.take k).map (·.bx)) + B.bx.titles.length) rfl rfl rfl (i64_inN (by omega))) rfl rfl rfl ?_
        refine RunL.val (Val.pure rfl) rfl rfl rfl ?_
        refine RunL.nil ?_
        refine RunE.block_normal ?_
        refine RunE.next ?_
        refine RunC.region ?_
        refine RunL.val (Val.pure rfl) rfl rfl rfl ?_
        refine RunL.val (Val.add rfl rfl (IntWalk.i64_in _ ⟨by omega, by omega⟩)) rfl rfl rfl ?_
        refine RunL.val (Val.pure rfl) rfl rfl rfl ?_
        refine RunL.nil ?_
        exact RunE.round (by omega) (any_snoc hk kI (by (rw [hB]; unfold badBox; rw [jI]; simp [hcol]))) rfl (Sub.consE (t := 4) rfl rfl (Sub.consE (t := 3) rfl (by rw [many_snoc hk, hB]) (Sub.cons (t := 1) rfl (Sub.nil _)))) (.cons .here rfl .nil)
  · intro c0
    have c0' := c0; clear c0
    try simp only [decide_eq_true_eq, decide_eq_false_iff_not, Bool.not_eq_true', Bool.not_eq_false', Bool.and_eq_true, Bool.or_eq_true, Bool.and_eq_false_iff, Bool.or_eq_false_iff, Int.not_le, Int.not_lt] at c0'
    obtain rfl : k = m.bxs.length := by omega
    simp only [List.take_length] at kI ⊢
    have hmk := hml m.bxs.length
    rw [List.take_length] at hmk
    refine RunC.exit ?_
    refine RunE.pass_exit ?_
    refine RunE.pass_exit ?_
    refine RunE.block_here ?_
    refine RunE.next ?_
    refine RunC.seq ?_
    refine RunC.seq ?_
    refine RunC.region ?_
    refine RunL.val (Val.pure rfl) rfl rfl rfl ?_
    refine RunL.nil ?_
    refine RunE.next ?_
    refine RunC.block ?_
    refine RunC.loopK (m.cards.length) (fun l q => (6, .int .i64 (l : Int)) :: q) (fun _ => _) (fun _ => []) (fun l => (m.cards.take l).any badCard = false) (by simp) rfl (Sub.consE (t := 6) rfl rfl (Sub.cons (t := 1) rfl (Sub.cons (t := 3) rfl (Sub.nil _)))) (.cons .here rfl .nil) ?_
    intro l lN lI
    refine RunC.seq ?_
    refine RunC.seq ?_
    refine RunC.region ?_
    refine RunL.val (Val.pure rfl) rfl rfl rfl ?_
    refine RunL.val (Val.fieldAddr rfl fld_25_1) rfl rfl rfl ?_
    refine RunL.val (Val.load_one rfl (.head _) ty_23 rfl) rfl rfl rfl ?_
    refine RunL.val (Val.len_sl rfl sl_23) rfl rfl rfl ?_
    refine RunL.val (Val.pure rfl) rfl rfl rfl ?_
    refine RunL.nil ?_
    refine RunE.next ?_
    refine RunC.cond rfl ?_ ?_
    · intro c4
      have c4' := c4; clear c4
      try simp only [decide_eq_true_eq, decide_eq_false_iff_not, Bool.not_eq_true', Bool.not_eq_false', Bool.and_eq_true, Bool.or_eq_true, Bool.and_eq_false_iff, Bool.or_eq_false_iff, Int.not_le, Int.not_lt] at c4'
      have hl : l < m.cards.length := by omega
      obtain ⟨C, hC⟩ : ∃ C, m.cards[l] = C := ⟨_, rfl⟩
      have hCt := hsm.tx C (hC ▸ List.getElem_mem hl)
      refine RunC.skip ?_
      refine RunE.next ?_
      refine RunC.seq ?_
      refine RunC.block ?_
      refine RunC.seq ?_
      refine RunC.region ?_
      refine RunL.val (Val.fieldAddr rfl fld_25_1) rfl rfl rfl ?_
      refine RunL.val (Val.load_one rfl (.head _) ty_23 rfl) rfl rfl rfl ?_
      refine RunL.val (Val.pure rfl) rfl rfl rfl ?_
      refine RunL.val (Val.indexAddr_slp rfl rfl sl_23 (by omega) (by omega) (hM.cd.ptrM hl)) rfl rfl rfl ?_
      refine RunL.val (Val.load_gen rfl (fun w hm => hM.cd.loadX (by decide) hm (by simp) ty_50 hl hC)) rfl rfl rfl ?_
      refine RunL.new (New.alloc zero_50) rfl rfl rfl (fun b7 => ?_)
      refine RunL.sto (Sto.store rfl rfl .here ty_50 rfl rfl) rfl rfl ?_
      refine RunL.nil ?_
      refine RunE.next ?_
      refine RunC.seq ?_
      refine RunC.region ?_
      refine RunL.val (Val.fieldAddr rfl fld_50_0) rfl rfl rfl ?_
      refine RunL.val (Val.load_one rfl (.head _) ty_3 rfl) rfl rfl rfl ?_
      refine RunL.callP (isCall_func rfl ent_42) rfl rfl rfl (fun w hm => rin_calls C.colour 0 9 w) ?_
      refine RunL.val (Val.pure rfl) rfl rfl rfl ?_
      refine RunL.val (Val.pure rfl) rfl rfl rfl ?_
      refine RunL.orPart (dj := 70) (dp := 75) 5 rfl (fun g70 => by
        have g70' := g70
        try simp only [decide_eq_true_eq, decide_eq_false_iff_not, Bool.not_eq_true', Bool.not_eq_false', Bool.and_eq_true, Bool.or_eq_true, Bool.and_eq_false_iff, Bool.or_eq_false_iff, Int.not_le, Int.not_lt] at g70'
        refine RunL.val (Val.fieldAddr rfl fld_50_1) rfl rfl rfl ?_
        refine RunL.val (Val.load_one rfl (.head _) ty_9 rfl) rfl rfl rfl ?_
        refine RunL.callP (isCall_func rfl ent_61) rfl rfl rfl (fun w hm => rPiece_calls C.number hCt.1 w) ?_
        refine RunL.val (Val.pure rfl) rfl rfl rfl ?_
        refine RunL.val (Val.pure rfl) rfl rfl rfl ?_
        exact RunL.segEnd (Sub.cons rfl (Sub.skip rfl (Sub.skip rfl (Sub.skip rfl (Sub.skip rfl (Sub.skip rfl (Sub.same rfl (by rw [g70]) (Sub.refl _)))))))) (List.Sublist.refl _)
      ) (fun g70 => by
        have g70' := g70
        try simp only [decide_eq_true_eq, decide_eq_false_iff_not, Bool.not_eq_true', Bool.not_eq_false', Bool.and_eq_true, Bool.or_eq_true, Bool.and_eq_false_iff, Bool.or_eq_false_iff, Int.not_le, Int.not_lt] at g70'
        iterate 4 refine RunL.no rfl rfl rfl ?_
        refine RunL.val (Val.pure rfl) rfl rfl rfl ?_
        exact RunL.segEnd (Sub.cons rfl (Sub.skip rfl (Sub.skip rfl (Sub.skip rfl (Sub.skip rfl (Sub.skip rfl (Sub.same rfl (by rw [g70]) (Sub.refl _)))))))) (List.Sublist.refl _)
      ) ?_
      refine RunL.val (Val.pure rfl) rfl rfl rfl ?_
      refine RunL.orPart (dj := 76) (dp := 81) 5 rfl (fun g76 => by
        have g76' := g76
        try simp only [decide_eq_true_eq, decide_eq_false_iff_not, Bool.not_eq_true', Bool.not_eq_false', Bool.and_eq_true, Bool.or_eq_true, Bool.and_eq_false_iff, Bool.or_eq_false_iff, Int.not_le, Int.not_lt] at g76'
        refine RunL.val (Val.fieldAddr rfl fld_50_2) rfl rfl rfl ?_
        refine RunL.val (Val.load_one rfl (.head _) ty_9 rfl) rfl rfl rfl ?_
        refine RunL.callP (isCall_func rfl ent_61) rfl rfl rfl (fun w hm => rPiece_calls C.text hCt.2 w) ?_
        refine RunL.val (Val.pure rfl) rfl rfl rfl ?_
        refine RunL.val (Val.pure rfl) rfl rfl rfl ?_
        exact RunL.segEnd (Sub.cons rfl (Sub.skip rfl (Sub.skip rfl (Sub.skip rfl (Sub.skip rfl (Sub.skip rfl (Sub.same rfl (by rw [g76]) (Sub.refl _)))))))) (List.Sublist.refl _)
      ) (fun g76 => by
        have g76' := g76
        try simp only [decide_eq_true_eq, decide_eq_false_iff_not, Bool.not_eq_true', Bool.not_eq_false', Bool.and_eq_true, Bool.or_eq_true, Bool.and_eq_false_iff, Bool.or_eq_false_iff, Int.not_le, Int.not_lt] at g76'
        iterate 4 refine RunL.no rfl rfl rfl ?_
        refine RunL.val (Val.pure rfl) rfl rfl rfl ?_
        exact RunL.segEnd (Sub.cons rfl (Sub.skip rfl (Sub.skip rfl (Sub.skip rfl (Sub.skip rfl (Sub.skip rfl (Sub.same rfl (by rw [g76]) (Sub.refl _)))))))) (List.Sublist.refl _)
      ) ?_
      refine RunL.nil ?_
      refine RunE.next ?_
      refine RunC.cond rfl ?_ ?_
      · intro c5
        have c5' := c5; clear c5
        try simp only [decide_eq_true_eq, decide_eq_false_iff_not, Bool.not_eq_true', Bool.not_eq_false', Bool.and_eq_true, Bool.or_eq_true, Bool.and_eq_false_iff, Bool.or_eq_false_iff, Int.not_le, Int.not_lt] at c5'
        refine RunC.seq ?_
        refine RunC.region ?_
        refine RunL.val (Val.pure rfl) rfl rfl rfl ?_
        refine RunL.nil ?_
        refine RunE.next ?_
        refine RunC.ret ?_
        refine RunE.block_ret ?_
        refine RunE.pass_ret ?_
        refine RunE.pass_ret ?_
        refine RunE.block_ret ?_
        refine RunE.pass_ret ?_
        exact RunE.retP (.r1 rfl (.tmp rfl)) (by rw [mixed_card hl (by (rw [hC]; unfold badCard; simpa using c5'))])
      · intro c5
        have c5' := c5; clear c5
        try simp only [decide_eq_true_eq, decide_eq_false_iff_not, Bool.not_eq_true', Bool.not_eq_false', Bool.and_eq_true, Bool.or_eq_true, Bool.and_eq_false_iff, Bool.or_eq_false_iff, Int.not_le, Int.not_lt] at c5'
        refine RunC.skip ?_
        refine RunE.block_normal ?_
        refine RunE.next ?_
        refine RunC.region ?_
        refine RunL.val (Val.pure rfl) rfl rfl rfl ?_
        refine RunL.val (Val.add rfl rfl (IntWalk.i64_in _ ⟨by omega, by omega⟩)) rfl rfl rfl ?_
        refine RunL.val (Val.pure rfl) rfl rfl rfl ?_
        refine RunL.nil ?_
        exact RunE.round (by omega) (any_snoc hl lI (by (rw [hC]; unfold badCard; simpa using c5'))) rfl (Sub.consE (t := 6) rfl rfl (Sub.cons (t := 1) rfl (Sub.cons (t := 3) rfl (Sub.nil _)))) (.cons (.there .here) rfl .nil)
    · intro c4
      have c4' := c4; clear c4
      try simp only [decide_eq_true_eq, decide_eq_false_iff_not, Bool.not_eq_true', Bool.not_eq_false', Bool.and_eq_true, Bool.or_eq_true, Bool.and_eq_false_iff, Bool.or_eq_false_iff, Int.not_le, Int.not_lt] at c4'
      obtain rfl : l = m.cards.length := by omega
      rw [List.take_length] at lI
      refine RunC.exit ?_
      refine RunE.pass_exit ?_
      refine RunE.pass_exit ?_
      refine RunE.block_here ?_
      refine RunE.next ?_
      refine RunC.seq ?_
      refine RunC.region ?_
      refine RunL.val (Val.fieldAddr rfl fld_25_0) rfl rfl rfl ?_
      refine RunL.val (Val.load_one rfl (.head _) ty_22 rfl) rfl rfl rfl ?_
      refine RunL.val (Val.len_sl rfl sl_22) rfl rfl rfl ?_
      refine RunL.val (Val.pure rfl) rfl rfl rfl ?_
      refine RunL.val (Val.pure rfl) rfl rfl rfl ?_
      refine RunL.andPart (dj := 86) (dp := 89) 3 rfl (fun g86 => by
        have g86' := g86
        try simp only [decide_eq_true_eq, decide_eq_false_iff_not, Bool.not_eq_true', Bool.not_eq_false', Bool.and_eq_true, Bool.or_eq_true, Bool.and_eq_false_iff, Bool.or_eq_false_iff, Int.not_le, Int.not_lt] at g86'
        iterate 3 refine RunL.val (Val.pure rfl) rfl rfl rfl ?_
        exact RunL.segEnd (Sub.cons rfl (Sub.skip rfl (Sub.skip rfl (Sub.skip rfl (Sub.same rfl (by rw [g86]) (Sub.refl _)))))) (List.Sublist.refl _)
      ) (fun g86 => by
        have g86' := g86
        try simp only [decide_eq_true_eq, decide_eq_false_iff_not, Bool.not_eq_true', Bool.not_eq_false', Bool.and_eq_true, Bool.or_eq_true, Bool.and_eq_false_iff, Bool.or_eq_false_iff, Int.not_le, Int.not_lt] at g86'
        refine RunL.no rfl rfl rfl ?_
        refine RunL.no rfl rfl rfl ?_
        refine RunL.val (Val.pure rfl) rfl rfl rfl ?_
        exact RunL.segEnd (Sub.cons rfl (Sub.skip rfl (Sub.skip rfl (Sub.skip rfl (Sub.same rfl (by rw [g86]) (Sub.refl _)))))) (List.Sublist.refl _)
      ) ?_
      refine RunL.val (Val.pure rfl) rfl rfl rfl ?_
      refine RunL.andPart (dj := 90) (dp := 95) 5 rfl (fun g90 => by
        have g90' := g90
        try simp only [decide_eq_true_eq, decide_eq_false_iff_not, Bool.not_eq_true', Bool.not_eq_false', Bool.and_eq_true, Bool.or_eq_true, Bool.and_eq_false_iff, Bool.or_eq_false_iff, Int.not_le, Int.not_lt] at g90'
        refine RunL.val (Val.fieldAddr rfl fld_25_1) rfl rfl rfl ?_
        refine RunL.val (Val.load_one rfl (.head _) ty_23 rfl) rfl rfl rfl ?_
        refine RunL.val (Val.len_sl rfl sl_23) rfl rfl rfl ?_
        refine RunL.val (Val.pure rfl) rfl rfl rfl ?_
        refine RunL.val (Val.pure rfl) rfl rfl rfl ?_
        exact RunL.segEnd (Sub.cons rfl (Sub.skip rfl (Sub.skip rfl (Sub.skip rfl (Sub.skip rfl (Sub.skip rfl (Sub.same rfl (by rw [g90]) (Sub.refl _)))))))) (List.Sublist.refl _)
      ) (fun g90 => by
        have g90' := g90
        try simp only [decide_eq_true_eq, decide_eq_false_iff_not, Bool.not_eq_true', Bool.not_eq_false', Bool.and_eq_true, Bool.or_eq_true, Bool.and_eq_false_iff, Bool.or_eq_false_iff, Int.not_le, Int.not_lt] at g90'
        iterate 4 refine RunL.no rfl rfl rfl ?_
        refine RunL.val (Val.pure rfl) rfl rfl rfl ?_
        exact RunL.segEnd (Sub.cons rfl (Sub.skip rfl (Sub.skip rfl (Sub.skip rfl (Sub.skip rfl (Sub.skip rfl (Sub.same rfl (by rw [g90]) (Sub.refl _)))))))) (List.Sublist.refl _)
      ) ?_
      refine RunL.val (Val.pure rfl) rfl rfl rfl ?_
      refine RunL.nil ?_
      refine RunE.next ?_
      refine RunC.ret ?_
      exact RunE.retP (.r1 rfl (.tmp rfl)) (by rw [mixed_eq, kI, lI]; refine congrArg Value.bool (Bool.eq_iff_iff.2 ?_); simp; omega)
theorem short_calls (m : MxA) (hsm : MSm m) (hX : mixedX m.pl = true) (s : Nat) (hs : s < 2 ^ m.cards.length) (bm : Nat) (W : World) (hM : MOk W m) (hB : W.heap[bm]? = some (mB m)) : Calls Tryd.prog 35 #[.int .i64 (s : Int), .pointer (some ⟨bm, 0, none⟩)] W (Pure (.bool (shortX (fsX m.pl) s)) W) := by
  obtain ⟨h4, h8, h12⟩ := mixed_ok hX
  have hfl := fs_len m
  have hall := fs12 hX
  have hs8 : s < 2 ^ 8 := Nat.lt_of_lt_of_le hs (Nat.pow_le_pow_right (by decide) h8)
  have hua := union_lt (s := s) hall 0
  refine calls_start Tryd.func35 rfl rfl ?_
  refine RunC.seq ?_
  refine RunC.region ?_
  refine RunL.val (Val.pure rfl) rfl rfl rfl ?_
  refine RunL.nil ?_
  refine RunE.next ?_
  refine RunC.seq ?_
  refine RunC.region ?_
  refine RunL.val (Val.pure rfl) rfl rfl rfl ?_
  refine RunL.nil ?_
  refine RunE.next ?_
  refine RunC.seq ?_
  refine RunC.seq ?_
  refine RunC.region ?_
  refine RunL.val (Val.fieldAddr rfl fld_25_1) rfl rfl rfl ?_
  refine RunL.val (Val.oload_one rfl hB (by simp) ty_23 rfl) rfl rfl rfl ?_
  refine RunL.val (Val.len_sl rfl sl_23) rfl rfl rfl ?_
  refine RunL.val (Val.pure rfl) rfl rfl rfl ?_
  refine RunL.nil ?_
  refine RunE.next ?_
  refine RunC.block ?_
  refine RunC.loopK ((fsX m.pl).length) (fun k q => (11, .int .i64 (k : Int)) :: (4, .int .i64 ((unionL s 0 ((fsX m.pl).take k) : Nat) : Int)) :: q) (fun _ => _) (fun _ => []) (fun _ => True) trivial rfl (Sub.consE (t := 11) rfl rfl (Sub.consE (t := 4) rfl rfl (Sub.cons (t := 0) rfl (Sub.cons (t := 1) rfl (Sub.cons (t := 10) rfl (Sub.nil _)))))) .nil ?_
  intro k kN kI
  clear kI
  refine RunC.seq ?_
  refine RunC.region ?_
  refine RunL.val (Val.pure rfl) rfl rfl rfl ?_
  refine RunL.nil ?_
  refine RunE.next ?_
  refine RunC.seq ?_
  refine RunC.cond rfl ?_ ?_
  · intro c0
    have c0' := c0; clear c0
    try simp only [decide_eq_true_eq, decide_eq_false_iff_not, Bool.not_eq_true', Bool.not_eq_false', Bool.and_eq_true, Bool.or_eq_true, Bool.and_eq_false_iff, Bool.or_eq_false_iff, Int.not_le, Int.not_lt] at c0'
    have hk : k < (fsX m.pl).length := by omega
    obtain ⟨f, hf⟩ : ∃ f, (fsX m.pl)[k] = f := ⟨_, rfl⟩
    have hf12 := hall f (hf ▸ List.getElem_mem hk)
    have hu := union_lt (s := s) (fun x hx => hall x (List.mem_of_mem_take hx)) 0 (l := (fsX m.pl).take k)
    have hsk := Nat.shiftRight_le s k
    have hand := Nat.and_le_right (n := s >>> k) (m := 1)
    refine RunC.skip ?_
    refine RunE.next ?_
    refine RunC.seq ?_
    refine RunC.block ?_
    refine RunC.seq ?_
    refine RunC.region ?_
    refine RunL.val (Val.pure rfl) rfl rfl rfl ?_
    refine RunL.val (Val.pure rfl) rfl rfl rfl ?_
    refine RunL.nil ?_
    refine RunE.next ?_
    refine RunC.seq ?_
    refine RunC.region ?_
    refine RunL.val (Val.pure rfl) rfl rfl rfl ?_
    refine RunL.val (Val.pure rfl) rfl rfl rfl ?_
    refine RunL.val (Val.shrN (a := s) (b := k) rfl rfl (by show k ≤ 64; omega)) rfl rfl rfl ?_
    refine RunL.val (Val.and (a := s >>> k) (b := 1) rfl rfl (by show _ < 18446744073709551616; omega) (by decide) (i64_inN (by omega))) rfl rfl rfl ?_
    refine RunL.val (Val.pure rfl) rfl rfl rfl ?_
    refine RunL.nil ?_
    refine RunE.next ?_
    refine RunC.cond rfl ?_ ?_
    · intro c1
      have c1' := c1; clear c1
      try simp only [decide_eq_true_eq, decide_eq_false_iff_not, Bool.not_eq_true', Bool.not_eq_false', Bool.and_eq_true, Bool.or_eq_true, Bool.and_eq_false_iff, Bool.or_eq_false_iff, Int.not_le, Int.not_lt] at c1'
      have hbit := bit_yes c1'
      have hor := Nat.or_lt_two_pow hu hf12
      refine RunC.seq ?_
      refine RunC.region ?_
      refine RunL.val (Val.oload_agg rfl hB (by simp) ty_25 rfl) rfl rfl rfl ?_
      refine RunL.val (Val.pure rfl) rfl rfl rfl ?_
      refine RunL.callP (isCall_func rfl ent_14) rfl rfl rfl (fun w hm => (by have h9 := fits_calls m hsm (k : Int) w (hM.mono0 hm); rw [fits_at hX hk hf] at h9; exact h9)) ?_
      iterate 5 refine RunL.val (Val.pure rfl) rfl rfl rfl ?_
      refine RunL.nil ?_
      refine RunE.next ?_
      refine RunC.region ?_
      refine RunL.val (Val.pure rfl) rfl rfl rfl ?_
      refine RunL.val (Val.pure rfl) rfl rfl rfl ?_
      refine RunL.val (Val.or (a := unionL s 0 ((fsX m.pl).take k)) (b := f) rfl rfl (by show _ < 18446744073709551616; omega) (by show _ < 18446744073709551616; omega) (i64_inN (by omega))) rfl rfl rfl ?_
      refine RunL.val (Val.pure rfl) rfl rfl rfl ?_
      refine RunL.nil ?_
      refine RunE.block_normal ?_
      refine RunE.next ?_
      refine RunC.region ?_
      refine RunL.val (Val.add rfl rfl (IntWalk.i64_in _ ⟨by omega, by omega⟩)) rfl rfl rfl ?_
      refine RunL.val (Val.pure rfl) rfl rfl rfl ?_
      refine RunL.nil ?_
      exact RunE.round (by omega) trivial rfl (Sub.consE (t := 11) rfl rfl (Sub.consE (t := 4) rfl (by first | rw [union_yes hk hf hbit] | rw [union_no hk hf hbit]) (Sub.cons (t := 0) rfl (Sub.cons (t := 1) rfl (Sub.cons (t := 10) rfl (Sub.nil _)))))) .nil
    · intro c1
      have c1' := c1; clear c1
      try simp only [decide_eq_true_eq, decide_eq_false_iff_not, Bool.not_eq_true', Bool.not_eq_false', Bool.and_eq_true, Bool.or_eq_true, Bool.and_eq_false_iff, Bool.or_eq_false_iff, Int.not_le, Int.not_lt] at c1'
      have hbit := bit_no c1'
      refine RunC.skip ?_
      refine RunE.block_normal ?_
      refine RunE.next ?_
      refine RunC.region ?_
      refine RunL.val (Val.add rfl rfl (IntWalk.i64_in _ ⟨by omega, by omega⟩)) rfl rfl rfl ?_
      refine RunL.val (Val.pure rfl) rfl rfl rfl ?_
      refine RunL.nil ?_
      exact RunE.round (by omega) trivial rfl (Sub.consE (t := 11) rfl rfl (Sub.consE (t := 4) rfl (by first | rw [union_yes hk hf hbit] | rw [union_no hk hf hbit]) (Sub.cons (t := 0) rfl (Sub.cons (t := 1) rfl (Sub.cons (t := 10) rfl (Sub.nil _)))))) .nil
  · intro c0
    have c0' := c0; clear c0
    try simp only [decide_eq_true_eq, decide_eq_false_iff_not, Bool.not_eq_true', Bool.not_eq_false', Bool.and_eq_true, Bool.or_eq_true, Bool.and_eq_false_iff, Bool.or_eq_false_iff, Int.not_le, Int.not_lt] at c0'
    have hkn : k = (fsX m.pl).length := by omega
    simp only [hkn, List.take_length]
    refine RunC.exit ?_
    refine RunE.pass_exit ?_
    refine RunE.pass_exit ?_
    refine RunE.block_here ?_
    refine RunE.next ?_
    refine RunC.seq ?_
    refine RunC.region ?_
    refine RunL.val (Val.pure rfl) rfl rfl rfl ?_
    refine RunL.val (Val.max rfl rfl) rfl rfl rfl ?_
    refine RunL.callP (isCall_func rfl ent_36) rfl rfl rfl (fun w hm => (by have h9 := rSize_calls (unionL s 0 (fsX m.pl)) (by omega) w; rw [show (max (0 : Int) ((unionL s 0 (fsX m.pl) : Nat) : Int)) = ((unionL s 0 (fsX m.pl) : Nat) : Int) by omega]; exact h9)) ?_
    refine RunL.val (Val.pure rfl) rfl rfl rfl ?_
    refine RunL.callP (isCall_func rfl ent_36) rfl rfl rfl (fun w hm => rSize_calls s (by omega) w) ?_
    refine RunL.val (Val.pure rfl) rfl rfl rfl ?_
    refine RunL.val (Val.pure rfl) rfl rfl rfl ?_
    refine RunL.nil ?_
    refine RunE.next ?_
    refine RunC.ret ?_
    exact RunE.retP (.r1 rfl (.tmp rfl)) (by unfold shortX; refine congrArg Value.bool (decide_eq_decide.2 ?_); omega)
theorem hwhy_far (m : MxA) (o : Nat) (W : World) (hM : MOk W m) (hf : farX m.pl = true) : Calls Tryd.prog 9 #[m.v, .int .u8 (o : Int)] W (Pure (.bool true) W) := by
  refine calls_start Tryd.func9 rfl rfl ?_
  refine RunC.seq ?_
  refine RunC.region ?_
  refine RunL.new (New.box rfl) rfl rfl rfl (fun b2 => ?_)
  refine RunL.val (Val.pure rfl) rfl rfl rfl ?_
  refine RunL.nil ?_
  refine RunE.next ?_
  refine RunC.seq ?_
  refine RunC.seq ?_
  refine RunC.region ?_
  refine RunL.val (Val.load_agg rfl (.head _) ty_25 rfl) rfl rfl rfl ?_
  refine RunL.callP (isCall_func rfl ent_12) rfl rfl rfl (fun w hm => far_calls m w (hM.mono0 hm)) ?_
  refine RunL.nil ?_
  refine RunE.next ?_
  refine RunC.cond rfl ?_ (fun h => absurd h (by simp [hf]))
  intro c0
  clear c0
  refine RunC.seq ?_
  refine RunC.region ?_
  refine RunL.callP (isCall_func rfl ent_13) rfl rfl rfl (fun w hm => hawake_calls w) ?_
  refine RunL.val (Val.pure rfl) rfl rfl rfl ?_
  refine RunL.nil ?_
  refine RunE.next ?_
  refine RunC.ret ?_
  refine RunE.pass_ret ?_
  exact RunE.retP (.r1 rfl (.tmp rfl)) (by first | rfl | simp)
theorem hwhy_bad (m : MxA) (o : Nat) (W : World) (hM : MOk W m) (hf : farX m.pl = false) (hX : mixedX m.pl = false) : Calls Tryd.prog 9 #[m.v, .int .u8 (o : Int)] W (Pure (.bool true) W) := by
  have hsm := far_sm hf
  have e : WhyX m.pl = (0, 1) := by unfold WhyX; rw [hX]; rfl
  refine calls_start Tryd.func9 rfl rfl ?_
  refine RunC.seq ?_
  refine RunC.region ?_
  refine RunL.new (New.box rfl) rfl rfl rfl (fun b2 => ?_)
  refine RunL.val (Val.pure rfl) rfl rfl rfl ?_
  refine RunL.nil ?_
  refine RunE.next ?_
  refine RunC.seq ?_
  refine RunC.seq ?_
  refine RunC.region ?_
  refine RunL.val (Val.load_agg rfl (.head _) ty_25 rfl) rfl rfl rfl ?_
  refine RunL.callP (isCall_func rfl ent_12) rfl rfl rfl (fun w hm => far_calls m w (hM.mono0 hm)) ?_
  refine RunL.nil ?_
  refine RunE.next ?_
  refine RunC.cond rfl (fun h => absurd h (by simp [hf])) ?_
  intro c0
  clear c0
  refine RunC.skip ?_
  refine RunE.next ?_
  refine RunC.seq ?_
  refine RunC.region ?_
  refine RunL.val (Val.load_agg rfl (.head _) ty_25 rfl) rfl rfl rfl ?_
  refine RunL.callP (isCall_func rfl ent_16) rfl rfl rfl (fun w hm => (by have h9 := why_calls m hsm w (hM.mono0 hm); rw [e] at h9; exact h9)) ?_
  iterate 5 refine RunL.val (Val.pure rfl) rfl rfl rfl ?_
  refine RunL.nil ?_
  refine RunE.next ?_
  refine RunC.seq ?_
  refine RunC.seq ?_
  refine RunC.region ?_
  iterate 3 refine RunL.val (Val.pure rfl) rfl rfl rfl ?_
  refine RunL.sure (dj := 22) true rfl (by simp [hX]) ?_
  iterate 3 refine RunL.no rfl rfl rfl ?_
  refine RunL.val (Val.pure rfl) rfl rfl rfl ?_
  refine RunL.nil ?_
  refine RunE.next ?_
  refine RunC.cond rfl ?_ (fun h => absurd h (by simp))
  intro c1
  clear c1
  refine RunC.seq ?_
  refine RunC.region ?_
  iterate 3 refine RunL.val (Val.pure rfl) rfl rfl rfl ?_
  refine RunL.sure (dj := 29) true rfl (by simp [hX]) ?_
  iterate 4 refine RunL.val (Val.pure rfl) rfl rfl rfl ?_
  refine RunL.sure (dj := 33) true rfl (by simp [hX]) ?_
  refine RunL.val (Val.load_agg rfl (.head _) ty_25 rfl) rfl rfl rfl ?_
  refine RunL.callP (isCall_func rfl ent_33) rfl rfl rfl (fun w hm => rMixed_calls m hsm w (hM.mono0 hm)) ?_
  iterate 3 refine RunL.val (Val.pure rfl) rfl rfl rfl ?_
  refine RunL.sure (dj := 38) true rfl (by simp [hX]) ?_
  refine RunL.callP (isCall_func rfl ent_13) rfl rfl rfl (fun w hm => hawake_calls w) ?_
  refine RunL.val (Val.pure rfl) rfl rfl rfl ?_
  refine RunL.val (Val.pure rfl) rfl rfl rfl ?_
  refine RunL.nil ?_
  refine RunE.next ?_
  refine RunC.ret ?_
  refine RunE.pass_ret ?_
  exact RunE.retP (.r1 rfl (.tmp rfl)) (by first | rfl | simp)
theorem hwhy_calls (m : MxA) (o : Nat) (ho : o < 256) (W : World) (hM : MOk W m) : Calls Tryd.prog 9 #[m.v, .int .u8 (o : Int)] W (Pure (.bool true) W) := by
  cases hf : farX m.pl with
  | true => exact hwhy_far m o W hM hf
  | false =>
  cases hX : mixedX m.pl with
  | false => exact hwhy_bad m o W hM hf hX
  | true =>
    have hsm := far_sm hf
    obtain ⟨h4, h8, h12⟩ := mixed_ok hX
    obtain ⟨s, e, hI, hW⟩ := why_is hX
    have hfl := fs_len m
    have hs := hI.lt
    rw [hfl] at hs
    have hp8 : 2 ^ m.cards.length ≤ 2 ^ 8 := Nat.pow_le_pow_right (by decide) h8
    have hse := hI.se
    have hsi : (s : Int) < ((2 ^ m.cards.length : Nat) : Int) := by exact_mod_cast hs
    have hpp := Nat.two_pow_pos m.cards.length
    have hand := Nat.and_le_right (n := o) (m := 2 ^ m.cards.length - 1)
    obtain ⟨t, ht⟩ : ∃ t, o &&& (2 ^ m.cards.length - 1) = t := ⟨_, rfl⟩
    have htl : t < 2 ^ m.cards.length := by omega
    obtain ⟨N, hN⟩ : ∃ N, 2 ^ m.cards.length = N := ⟨_, rfl⟩
    have hsN : s < N := hN ▸ hs
    have hN0 : 0 < N := hN ▸ hpp
    have hmin := hI.min t (by rw [hfl]; exact htl)
    refine calls_start Tryd.func9 rfl rfl ?_
    refine RunC.seq ?_
    refine RunC.region ?_
    refine RunL.new (New.box rfl) rfl rfl rfl (fun b2 => ?_)
    refine RunL.val (Val.pure rfl) rfl rfl rfl ?_
    refine RunL.nil ?_
    refine RunE.next ?_
    refine RunC.seq ?_
    refine RunC.seq ?_
    refine RunC.region ?_
    refine RunL.val (Val.load_agg rfl (.head _) ty_25 rfl) rfl rfl rfl ?_
    refine RunL.callP (isCall_func rfl ent_12) rfl rfl rfl (fun w hm => far_calls m w (hM.mono0 hm)) ?_
    refine RunL.nil ?_
    refine RunE.next ?_
    refine RunC.cond rfl (fun h => absurd h (by simp [hf])) ?_
    intro c0
    clear c0
    refine RunC.skip ?_
    refine RunE.next ?_
    refine RunC.seq ?_
    refine RunC.region ?_
    refine RunL.val (Val.load_agg rfl (.head _) ty_25 rfl) rfl rfl rfl ?_
    refine RunL.callP (isCall_func rfl ent_16) rfl rfl rfl (fun w hm => (by have h9 := why_calls m hsm w (hM.mono0 hm); rw [hW] at h9; exact h9)) ?_
    iterate 5 refine RunL.val (Val.pure rfl) rfl rfl rfl ?_
    refine RunL.nil ?_
    refine RunE.next ?_
    refine RunC.seq ?_
    refine RunC.seq ?_
    refine RunC.region ?_
    iterate 3 refine RunL.val (Val.pure rfl) rfl rfl rfl ?_
    refine RunL.orPart (dj := 22) (dp := 26) 4 rfl (fun g22 => by
      have g22' := g22
      try simp only [decide_eq_true_eq, decide_eq_false_iff_not, Bool.not_eq_true', Bool.not_eq_false', Bool.and_eq_true, Bool.or_eq_true, Bool.and_eq_false_iff, Bool.or_eq_false_iff, Int.not_le, Int.not_lt] at g22'
      refine RunL.val (Val.load_agg rfl (.head _) ty_25 rfl) rfl rfl rfl ?_
      refine RunL.callP (isCall_func rfl ent_33) rfl rfl rfl (fun w hm => rMixed_calls m hsm w (hM.mono0 hm)) ?_
      refine RunL.val (Val.pure rfl) rfl rfl rfl ?_
      refine RunL.val (Val.pure rfl) rfl rfl rfl ?_
      exact RunL.segEnd (Sub.cons rfl (Sub.skip rfl (Sub.skip rfl (Sub.skip rfl (Sub.skip rfl (Sub.same rfl (by rw [g22]) (Sub.refl _))))))) (List.Sublist.refl _)
    ) (fun g22 => by
      have g22' := g22
      try simp only [decide_eq_true_eq, decide_eq_false_iff_not, Bool.not_eq_true', Bool.not_eq_false', Bool.and_eq_true, Bool.or_eq_true, Bool.and_eq_false_iff, Bool.or_eq_false_iff, Int.not_le, Int.not_lt] at g22'
      iterate 3 refine RunL.no rfl rfl rfl ?_
      refine RunL.val (Val.pure rfl) rfl rfl rfl ?_
      exact RunL.segEnd (Sub.cons rfl (Sub.skip rfl (Sub.skip rfl (Sub.skip rfl (Sub.skip rfl (Sub.same rfl (by rw [g22]) (Sub.refl _))))))) (List.Sublist.refl _)
    ) ?_
    refine RunL.nil ?_
    refine RunE.next ?_
    refine RunC.cond rfl (fun h => absurd h (by rcases hse with ⟨_, rfl⟩ | ⟨_, rfl, _⟩ <;> simp [hX])) ?_
    intro c1
    clear c1
    refine RunC.skip ?_
    refine RunE.next ?_
    refine RunC.seq ?_
    refine RunC.seq ?_
    refine RunC.region ?_
    iterate 3 refine RunL.val (Val.pure rfl) rfl rfl rfl ?_
    refine RunL.andPart (dj := 43) (dp := 46) 3 rfl (fun g43 => by
      have g43' := g43
      try simp only [decide_eq_true_eq, decide_eq_false_iff_not, Bool.not_eq_true', Bool.not_eq_false', Bool.and_eq_true, Bool.or_eq_true, Bool.and_eq_false_iff, Bool.or_eq_false_iff, Int.not_le, Int.not_lt] at g43'
      iterate 3 refine RunL.val (Val.pure rfl) rfl rfl rfl ?_
      exact RunL.segEnd (Sub.cons rfl (Sub.skip rfl (Sub.skip rfl (Sub.skip rfl (Sub.same rfl (by rw [g43]) (Sub.refl _)))))) (List.Sublist.refl _)
    ) (fun g43 => by
      have g43' := g43
      try simp only [decide_eq_true_eq, decide_eq_false_iff_not, Bool.not_eq_true', Bool.not_eq_false', Bool.and_eq_true, Bool.or_eq_true, Bool.and_eq_false_iff, Bool.or_eq_false_iff, Int.not_le, Int.not_lt] at g43'
      refine RunL.no rfl rfl rfl ?_
      refine RunL.no rfl rfl rfl ?_
      refine RunL.val (Val.pure rfl) rfl rfl rfl ?_
      exact RunL.segEnd (Sub.cons rfl (Sub.skip rfl (Sub.skip rfl (Sub.skip rfl (Sub.same rfl (by rw [g43]) (Sub.refl _)))))) (List.Sublist.refl _)
    ) ?_
    refine RunL.val (Val.pure rfl) rfl rfl rfl ?_
    refine RunL.orPart (dj := 47) (dp := 53) 6 rfl (fun g47 => by
      have g47' := g47
      try simp only [decide_eq_true_eq, decide_eq_false_iff_not, Bool.not_eq_true', Bool.not_eq_false', Bool.and_eq_true, Bool.or_eq_true, Bool.and_eq_false_iff, Bool.or_eq_false_iff, Int.not_le, Int.not_lt] at g47'
      iterate 4 refine RunL.val (Val.pure rfl) rfl rfl rfl ?_
      refine RunL.val (Val.neq_bool rfl rfl boolB_4) rfl rfl rfl ?_
      refine RunL.val (Val.pure rfl) rfl rfl rfl ?_
      exact RunL.segEnd (Sub.cons rfl (Sub.skip rfl (Sub.skip rfl (Sub.skip rfl (Sub.skip rfl (Sub.skip rfl (Sub.skip rfl (Sub.same rfl (by rw [g47]) (Sub.refl _))))))))) (List.Sublist.refl _)
    ) (fun g47 => by
      have g47' := g47
      try simp only [decide_eq_true_eq, decide_eq_false_iff_not, Bool.not_eq_true', Bool.not_eq_false', Bool.and_eq_true, Bool.or_eq_true, Bool.and_eq_false_iff, Bool.or_eq_false_iff, Int.not_le, Int.not_lt] at g47'
      iterate 5 refine RunL.no rfl rfl rfl ?_
      refine RunL.val (Val.pure rfl) rfl rfl rfl ?_
      exact RunL.segEnd (Sub.cons rfl (Sub.skip rfl (Sub.skip rfl (Sub.skip rfl (Sub.skip rfl (Sub.skip rfl (Sub.skip rfl (Sub.same rfl (by rw [g47]) (Sub.refl _))))))))) (List.Sublist.refl _)
    ) ?_
    refine RunL.val (Val.pure rfl) rfl rfl rfl ?_
    refine RunL.orPart (dj := 54) (dp := 57) 3 rfl (fun g54 => by
      have g54' := g54
      try simp only [decide_eq_true_eq, decide_eq_false_iff_not, Bool.not_eq_true', Bool.not_eq_false', Bool.and_eq_true, Bool.or_eq_true, Bool.and_eq_false_iff, Bool.or_eq_false_iff, Int.not_le, Int.not_lt] at g54'
      iterate 3 refine RunL.val (Val.pure rfl) rfl rfl rfl ?_
      exact RunL.segEnd (Sub.cons rfl (Sub.skip rfl (Sub.skip rfl (Sub.skip rfl (Sub.same rfl (by rw [g54]) (Sub.refl _)))))) (List.Sublist.refl _)
    ) (fun g54 => by
      have g54' := g54
      try simp only [decide_eq_true_eq, decide_eq_false_iff_not, Bool.not_eq_true', Bool.not_eq_false', Bool.and_eq_true, Bool.or_eq_true, Bool.and_eq_false_iff, Bool.or_eq_false_iff, Int.not_le, Int.not_lt] at g54'
      refine RunL.no rfl rfl rfl ?_
      refine RunL.no rfl rfl rfl ?_
      refine RunL.val (Val.pure rfl) rfl rfl rfl ?_
      exact RunL.segEnd (Sub.cons rfl (Sub.skip rfl (Sub.skip rfl (Sub.skip rfl (Sub.same rfl (by rw [g54]) (Sub.refl _)))))) (List.Sublist.refl _)
    ) ?_
    refine RunL.val (Val.pure rfl) rfl rfl rfl ?_
    refine RunL.orPart (dj := 58) (dp := 65) 7 rfl (fun g58 => by
      have g58' := g58
      try simp only [decide_eq_true_eq, decide_eq_false_iff_not, Bool.not_eq_true', Bool.not_eq_false', Bool.and_eq_true, Bool.or_eq_true, Bool.and_eq_false_iff, Bool.or_eq_false_iff, Int.not_le, Int.not_lt] at g58'
      refine RunL.val (Val.pure rfl) rfl rfl rfl ?_
      refine RunL.val (Val.fieldAddr rfl fld_25_1) rfl rfl rfl ?_
      refine RunL.val (Val.load_one rfl (.head _) ty_23 rfl) rfl rfl rfl ?_
      refine RunL.val (Val.len_sl rfl sl_23) rfl rfl rfl ?_
      refine RunL.val (Val.shl1 (b := m.cards.length) rfl rfl (by show _ ≤ 64; omega) (i64_inN (by omega))) rfl rfl rfl ?_
      refine RunL.val (Val.pure rfl) rfl rfl rfl ?_
      refine RunL.val (Val.pure rfl) rfl rfl rfl ?_
      exact RunL.segEnd (Sub.cons rfl (Sub.skip rfl (Sub.skip rfl (Sub.skip rfl (Sub.skip rfl (Sub.skip rfl (Sub.skip rfl (Sub.skip rfl (Sub.same rfl (by rw [g58]) (Sub.refl _)))))))))) (List.Sublist.refl _)
    ) (fun g58 => by
      have g58' := g58
      try simp only [decide_eq_true_eq, decide_eq_false_iff_not, Bool.not_eq_true', Bool.not_eq_false', Bool.and_eq_true, Bool.or_eq_true, Bool.and_eq_false_iff, Bool.or_eq_false_iff, Int.not_le, Int.not_lt] at g58'
      iterate 6 refine RunL.no rfl rfl rfl ?_
      refine RunL.val (Val.pure rfl) rfl rfl rfl ?_
      exact RunL.segEnd (Sub.cons rfl (Sub.skip rfl (Sub.skip rfl (Sub.skip rfl (Sub.skip rfl (Sub.skip rfl (Sub.skip rfl (Sub.skip rfl (Sub.same rfl (by rw [g58]) (Sub.refl _)))))))))) (List.Sublist.refl _)
    ) ?_
    refine RunL.nil ?_
    refine RunE.next ?_
    refine RunC.cond rfl (fun h => absurd h (by rw [hN]; rcases hse with ⟨rfl, rfl⟩ | ⟨h1, rfl, _⟩ <;> simp <;> omega)) ?_
    intro c2
    clear c2
    refine RunC.skip ?_
    refine RunE.next ?_
    refine RunC.seq ?_
    refine RunC.region ?_
    refine RunL.val (Val.pure rfl) rfl rfl rfl ?_
    refine RunL.val (Val.pure rfl) rfl rfl rfl ?_
    refine RunL.nil ?_
    refine RunE.next ?_
    refine RunC.seq ?_
    refine RunC.seq ?_
    refine RunC.region ?_
    iterate 3 refine RunL.val (Val.pure rfl) rfl rfl rfl ?_
    refine RunL.andPart (dj := 69) (dp := 74) 5 rfl (fun g69 => by
      have g69' := g69
      try simp only [decide_eq_true_eq, decide_eq_false_iff_not, Bool.not_eq_true', Bool.not_eq_false', Bool.and_eq_true, Bool.or_eq_true, Bool.and_eq_false_iff, Bool.or_eq_false_iff, Int.not_le, Int.not_lt] at g69'
      refine RunL.val (Val.pure rfl) rfl rfl rfl ?_
      refine RunL.val (Val.pure rfl) rfl rfl rfl ?_
      refine RunL.callP (isCall_value rfl rfl ent_35) rfl rfl rfl (fun w hm => short_calls m hsm hX s hs b2 w (hM.mono0 hm) (hm.at (.head _))) ?_
      refine RunL.val (Val.pure rfl) rfl rfl rfl ?_
      refine RunL.val (Val.pure rfl) rfl rfl rfl ?_
      exact RunL.segEnd (Sub.cons rfl (Sub.skip rfl (Sub.skip rfl (Sub.skip rfl (Sub.skip rfl (Sub.skip rfl (Sub.same rfl (by rw [g69]) (Sub.refl _)))))))) (List.Sublist.refl _)
    ) (fun g69 => by
      have g69' := g69
      try simp only [decide_eq_true_eq, decide_eq_false_iff_not, Bool.not_eq_true', Bool.not_eq_false', Bool.and_eq_true, Bool.or_eq_true, Bool.and_eq_false_iff, Bool.or_eq_false_iff, Int.not_le, Int.not_lt] at g69'
      iterate 4 refine RunL.no rfl rfl rfl ?_
      refine RunL.val (Val.pure rfl) rfl rfl rfl ?_
      exact RunL.segEnd (Sub.cons rfl (Sub.skip rfl (Sub.skip rfl (Sub.skip rfl (Sub.skip rfl (Sub.skip rfl (Sub.same rfl (by rw [g69]) (Sub.refl _)))))))) (List.Sublist.refl _)
    ) ?_
    refine RunL.nil ?_
    refine RunE.next ?_
    refine RunC.cond rfl (fun h => absurd h (by rcases hse with ⟨rfl, _⟩ | ⟨_, _, h1⟩ <;> simp_all)) ?_
    intro c3
    clear c3
    refine RunC.skip ?_
    refine RunE.next ?_
    refine RunC.seq ?_
    refine RunC.seq ?_
    refine RunC.region ?_
    refine RunL.val (Val.fieldAddr rfl fld_25_1) rfl rfl rfl ?_
    refine RunL.val (Val.load_one rfl (.head _) ty_23 rfl) rfl rfl rfl ?_
    refine RunL.val (Val.len_sl rfl sl_23) rfl rfl rfl ?_
    refine RunL.val (Val.pure rfl) rfl rfl rfl ?_
    refine RunL.nil ?_
    refine RunE.next ?_
    refine RunC.block ?_
    refine RunC.loopK (m.cards.length) (fun k q => (78, .int .i64 (k : Int)) :: q) (fun _ => _) (fun _ => []) (fun _ => True) trivial rfl (Sub.consE (t := 78) rfl rfl (Sub.cons (t := 1) rfl (Sub.cons (t := 2) rfl (Sub.cons (t := 5) rfl (Sub.cons (t := 7) rfl (Sub.cons (t := 77) rfl (Sub.nil _))))))) (.cons .here rfl .nil) ?_
    intro k kN kI
    clear kI
    refine RunC.seq ?_
    refine RunC.region ?_
    refine RunL.val (Val.pure rfl) rfl rfl rfl ?_
    refine RunL.nil ?_
    refine RunE.next ?_
    refine RunC.seq ?_
    refine RunC.cond rfl ?_ ?_
    · intro c4
      have c4' := c4; clear c4
      try simp only [decide_eq_true_eq, decide_eq_false_iff_not, Bool.not_eq_true', Bool.not_eq_false', Bool.and_eq_true, Bool.or_eq_true, Bool.and_eq_false_iff, Bool.or_eq_false_iff, Int.not_le, Int.not_lt] at c4'
      have hk : k < m.cards.length := by omega
      have hsk := Nat.shiftRight_le s k
      have hand1 := Nat.and_le_right (n := s >>> k) (m := 1)
      have h2k : 2 ^ k ≤ 2 ^ 8 := Nat.pow_le_pow_right (by decide) (by omega)
      have hal := andN_le s (2 ^ k)
      refine RunC.skip ?_
      refine RunE.next ?_
      refine RunC.seq ?_
      refine RunC.block ?_
      refine RunC.seq ?_
      refine RunC.region ?_
      refine RunL.val (Val.pure rfl) rfl rfl rfl ?_
      refine RunL.val (Val.pure rfl) rfl rfl rfl ?_
      refine RunL.nil ?_
      refine RunE.next ?_
      refine RunC.seq ?_
      refine RunC.region ?_
      refine RunL.val (Val.pure rfl) rfl rfl rfl ?_
      refine RunL.val (Val.pure rfl) rfl rfl rfl ?_
      refine RunL.val (Val.shrN (a := s) (b := k) rfl rfl (by show k ≤ 64; omega)) rfl rfl rfl ?_
      refine RunL.val (Val.and (a := s >>> k) (b := 1) rfl rfl (by show _ < 18446744073709551616; omega) (by decide) (i64_inN (by omega))) rfl rfl rfl ?_
      refine RunL.val (Val.pure rfl) rfl rfl rfl ?_
      refine RunL.val (Val.pure rfl) rfl rfl rfl ?_
      refine RunL.andPart (dj := 86) (dp := 93) 7 rfl (fun g86 => by
        have g86' := g86
        try simp only [decide_eq_true_eq, decide_eq_false_iff_not, Bool.not_eq_true', Bool.not_eq_false', Bool.and_eq_true, Bool.or_eq_true, Bool.and_eq_false_iff, Bool.or_eq_false_iff, Int.not_le, Int.not_lt] at g86'
        iterate 3 refine RunL.val (Val.pure rfl) rfl rfl rfl ?_
        refine RunL.val (Val.shl1 (b := k) rfl rfl (by show k ≤ 64; omega) (i64_inN (by omega))) rfl rfl rfl ?_
        refine RunL.val (Val.andNot (a := s) (b := 2 ^ k) rfl rfl (by show _ < 18446744073709551616; omega) (by show _ < 18446744073709551616; omega) (i64_inN (by omega))) rfl rfl rfl ?_
        refine RunL.callP (isCall_value rfl rfl ent_35) rfl rfl rfl (fun w hm => short_calls m hsm hX (andN s (2 ^ k)) (Nat.lt_of_le_of_lt (andN_le _ _) hs) b2 w (hM.mono0 hm) (hm.at (.head _))) ?_
        refine RunL.val (Val.pure rfl) rfl rfl rfl ?_
        exact RunL.segEnd (Sub.cons rfl (Sub.skip rfl (Sub.skip rfl (Sub.skip rfl (Sub.skip rfl (Sub.skip rfl (Sub.skip rfl (Sub.skip rfl (Sub.same rfl (by rw [g86]) (Sub.refl _)))))))))) (List.Sublist.refl _)
      ) (fun g86 => by
        have g86' := g86
        try simp only [decide_eq_true_eq, decide_eq_false_iff_not, Bool.not_eq_true', Bool.not_eq_false', Bool.and_eq_true, Bool.or_eq_true, Bool.and_eq_false_iff, Bool.or_eq_false_iff, Int.not_le, Int.not_lt] at g86'
        iterate 6 refine RunL.no rfl rfl rfl ?_
        refine RunL.val (Val.pure rfl) rfl rfl rfl ?_
        exact RunL.segEnd (Sub.cons rfl (Sub.skip rfl (Sub.skip rfl (Sub.skip rfl (Sub.skip rfl (Sub.skip rfl (Sub.skip rfl (Sub.skip rfl (Sub.same rfl (by rw [g86]) (Sub.refl _)))))))))) (List.Sublist.refl _)
      ) ?_
      refine RunL.nil ?_
      refine RunE.next ?_
      refine RunC.cond rfl (fun h => absurd h (by cases hb : s.testBit k with | false => (rw [bit_iff] at hb; simp_all) | true => (have h1 := hI.del k hb; simp_all))) ?_
      intro c5
      clear c5
      refine RunC.skip ?_
      refine RunE.block_normal ?_
      refine RunE.next ?_
      refine RunC.region ?_
      refine RunL.val (Val.add rfl rfl (IntWalk.i64_in _ ⟨by omega, by omega⟩)) rfl rfl rfl ?_
      refine RunL.val (Val.pure rfl) rfl rfl rfl ?_
      refine RunL.nil ?_
      exact RunE.round (by omega) trivial rfl (Sub.consE (t := 78) rfl rfl (Sub.cons (t := 1) rfl (Sub.cons (t := 2) rfl (Sub.cons (t := 5) rfl (Sub.cons (t := 7) rfl (Sub.cons (t := 77) rfl (Sub.nil _))))))) (.cons .here rfl .nil)
    · intro c4
      have c4' := c4; clear c4
      try simp only [decide_eq_true_eq, decide_eq_false_iff_not, Bool.not_eq_true', Bool.not_eq_false', Bool.and_eq_true, Bool.or_eq_true, Bool.and_eq_false_iff, Bool.or_eq_false_iff, Int.not_le, Int.not_lt] at c4'
      obtain rfl : k = m.cards.length := by omega
      refine RunC.exit ?_
      refine RunE.pass_exit ?_
      refine RunE.pass_exit ?_
      refine RunE.block_here ?_
      refine RunE.next ?_
      refine RunC.seq ?_
      refine RunC.region ?_
      refine RunL.val (Val.pure rfl) rfl rfl rfl ?_
      refine RunL.val (Val.convInt rfl und_5 und_3 (IntWalk.i64_in _ ⟨by omega, by omega⟩)) rfl rfl rfl ?_
      refine RunL.val (Val.fieldAddr rfl fld_25_1) rfl rfl rfl ?_
      refine RunL.val (Val.load_one rfl (.head _) ty_23 rfl) rfl rfl rfl ?_
      refine RunL.val (Val.len_sl rfl sl_23) rfl rfl rfl ?_
      refine RunL.val (Val.shl1 (b := m.cards.length) rfl rfl (by show _ ≤ 64; omega) (i64_inN (by omega))) rfl rfl rfl ?_
      refine RunL.val (Val.subN (a := 2 ^ m.cards.length) (b := 1) (2 ^ m.cards.length - 1) rfl rfl (by omega) (i64_inN (by omega))) rfl rfl rfl ?_
      refine RunL.val (Val.and (a := o) (b := 2 ^ m.cards.length - 1) rfl rfl (by show _ < 18446744073709551616; omega) (by show _ < 18446744073709551616; omega) (i64_inN (by omega))) rfl rfl rfl ?_
      refine RunL.val (Val.pure rfl) rfl rfl rfl ?_
      refine RunL.nil ?_
      refine RunE.next ?_
      refine RunC.seq ?_
      refine RunC.region ?_
      refine RunL.val (Val.pure rfl) rfl rfl rfl ?_
      refine RunL.callP (isCall_func rfl ent_36) rfl rfl rfl (fun w hm => (by have h9 := rSize_calls (o &&& (2 ^ m.cards.length - 1)) (by omega) w; exact h9)) ?_
      refine RunL.val (Val.pure rfl) rfl rfl rfl ?_
      refine RunL.callP (isCall_func rfl ent_36) rfl rfl rfl (fun w hm => rSize_calls s (by omega) w) ?_
      refine RunL.val (Val.pure rfl) rfl rfl rfl ?_
      refine RunL.val (Val.pure rfl) rfl rfl rfl ?_
      refine RunL.nil ?_
      refine RunE.next ?_
      refine RunC.seq ?_
      refine RunC.region ?_
      refine RunL.val (Val.pure rfl) rfl rfl rfl ?_
      refine RunL.val (Val.pure rfl) rfl rfl rfl ?_
      refine RunL.callP (isCall_value rfl rfl ent_35) rfl rfl rfl (fun w hm => short_calls m hsm hX (o &&& (2 ^ m.cards.length - 1)) (by omega) b2 w (hM.mono0 hm) (hm.at (.head _))) ?_
      refine RunL.val (Val.pure rfl) rfl rfl rfl ?_
      refine RunL.val (Val.pure rfl) rfl rfl rfl ?_
      refine RunL.orPart (dj := 111) (dp := 129) 18 rfl (fun g111 => by
        have g111' := g111
        try simp only [decide_eq_true_eq, decide_eq_false_iff_not, Bool.not_eq_true', Bool.not_eq_false', Bool.and_eq_true, Bool.or_eq_true, Bool.and_eq_false_iff, Bool.or_eq_false_iff, Int.not_le, Int.not_lt] at g111'
        iterate 3 refine RunL.val (Val.pure rfl) rfl rfl rfl ?_
        refine RunL.andPart (dj := 114) (dp := 128) 14 rfl (fun g114 => by
          have g114' := g114
          try simp only [decide_eq_true_eq, decide_eq_false_iff_not, Bool.not_eq_true', Bool.not_eq_false', Bool.and_eq_true, Bool.or_eq_true, Bool.and_eq_false_iff, Bool.or_eq_false_iff, Int.not_le, Int.not_lt] at g114'
          iterate 4 refine RunL.val (Val.pure rfl) rfl rfl rfl ?_
          refine RunL.orPart (dj := 118) (dp := 127) 9 rfl (fun g118 => by
            have g118' := g118
            try simp only [decide_eq_true_eq, decide_eq_false_iff_not, Bool.not_eq_true', Bool.not_eq_false', Bool.and_eq_true, Bool.or_eq_true, Bool.and_eq_false_iff, Bool.or_eq_false_iff, Int.not_le, Int.not_lt] at g118'
            iterate 4 refine RunL.val (Val.pure rfl) rfl rfl rfl ?_
            refine RunL.andPart (dj := 122) (dp := 126) 4 rfl (fun g122 => by
              have g122' := g122
              try simp only [decide_eq_true_eq, decide_eq_false_iff_not, Bool.not_eq_true', Bool.not_eq_false', Bool.and_eq_true, Bool.or_eq_true, Bool.and_eq_false_iff, Bool.or_eq_false_iff, Int.not_le, Int.not_lt] at g122'
              iterate 4 refine RunL.val (Val.pure rfl) rfl rfl rfl ?_
              exact RunL.segEnd (Sub.cons rfl (Sub.skip rfl (Sub.skip rfl (Sub.skip rfl (Sub.skip rfl (Sub.same rfl (by rw [g122]) (Sub.refl _))))))) (List.Sublist.refl _)
            ) (fun g122 => by
              have g122' := g122
              try simp only [decide_eq_true_eq, decide_eq_false_iff_not, Bool.not_eq_true', Bool.not_eq_false', Bool.and_eq_true, Bool.or_eq_true, Bool.and_eq_false_iff, Bool.or_eq_false_iff, Int.not_le, Int.not_lt] at g122'
              iterate 3 refine RunL.no rfl rfl rfl ?_
              refine RunL.val (Val.pure rfl) rfl rfl rfl ?_
              exact RunL.segEnd (Sub.cons rfl (Sub.skip rfl (Sub.skip rfl (Sub.skip rfl (Sub.skip rfl (Sub.same rfl (by rw [g122]) (Sub.refl _))))))) (List.Sublist.refl _)
            ) ?_
            refine RunL.val (Val.pure rfl) rfl rfl rfl ?_
            exact RunL.segEnd (Sub.cons rfl (Sub.skip rfl (Sub.skip rfl (Sub.skip rfl (Sub.skip rfl (Sub.skip rfl (Sub.skip rfl (Sub.same rfl (by rw [g118]) (Sub.refl _))))))))) (List.Sublist.refl _)
          ) (fun g118 => by
            have g118' := g118
            try simp only [decide_eq_true_eq, decide_eq_false_iff_not, Bool.not_eq_true', Bool.not_eq_false', Bool.and_eq_true, Bool.or_eq_true, Bool.and_eq_false_iff, Bool.or_eq_false_iff, Int.not_le, Int.not_lt] at g118'
            iterate 8 refine RunL.no rfl rfl rfl ?_
            refine RunL.val (Val.pure rfl) rfl rfl rfl ?_
            exact RunL.segEnd (Sub.cons rfl (Sub.skip rfl (Sub.skip rfl (Sub.skip rfl (Sub.skip rfl (Sub.skip rfl (Sub.skip rfl (Sub.skip rfl (Sub.skip rfl (Sub.skip rfl (Sub.same rfl (by rw [g118]) (Sub.refl _)))))))))))) (List.Sublist.refl _)
          ) ?_
          refine RunL.val (Val.pure rfl) rfl rfl rfl ?_
          exact RunL.segEnd (Sub.cons rfl (Sub.skip rfl (Sub.skip rfl (Sub.skip rfl (Sub.skip rfl (Sub.skip rfl (Sub.skip rfl (Sub.same rfl (by rw [g114]) (Sub.refl _))))))))) (List.Sublist.refl _)
        ) (fun g114 => by
          have g114' := g114
          try simp only [decide_eq_true_eq, decide_eq_false_iff_not, Bool.not_eq_true', Bool.not_eq_false', Bool.and_eq_true, Bool.or_eq_true, Bool.and_eq_false_iff, Bool.or_eq_false_iff, Int.not_le, Int.not_lt] at g114'
          iterate 13 refine RunL.no rfl rfl rfl ?_
          refine RunL.val (Val.pure rfl) rfl rfl rfl ?_
          exact RunL.segEnd (Sub.cons rfl (Sub.skip rfl (Sub.skip rfl (Sub.skip rfl (Sub.skip rfl (Sub.skip rfl (Sub.skip rfl (Sub.skip rfl (Sub.skip rfl (Sub.skip rfl (Sub.skip rfl (Sub.skip rfl (Sub.skip rfl (Sub.skip rfl (Sub.skip rfl (Sub.same rfl (by rw [g114]) (Sub.refl _))))))))))))))))) (List.Sublist.refl _)
        ) ?_
        refine RunL.val (Val.pure rfl) rfl rfl rfl ?_
        exact RunL.segEnd (Sub.cons rfl (Sub.skip rfl (Sub.skip rfl (Sub.skip rfl (Sub.skip rfl (Sub.skip rfl (Sub.same rfl (by rw [g111]) (Sub.refl _)))))))) (List.Sublist.refl _)
      ) (fun g111 => by
        have g111' := g111
        try simp only [decide_eq_true_eq, decide_eq_false_iff_not, Bool.not_eq_true', Bool.not_eq_false', Bool.and_eq_true, Bool.or_eq_true, Bool.and_eq_false_iff, Bool.or_eq_false_iff, Int.not_le, Int.not_lt] at g111'
        iterate 17 refine RunL.no rfl rfl rfl ?_
        refine RunL.val (Val.pure rfl) rfl rfl rfl ?_
        exact RunL.segEnd (Sub.cons rfl (Sub.skip rfl (Sub.skip rfl (Sub.skip rfl (Sub.skip rfl (Sub.skip rfl (Sub.skip rfl (Sub.skip rfl (Sub.skip rfl (Sub.skip rfl (Sub.skip rfl (Sub.skip rfl (Sub.skip rfl (Sub.skip rfl (Sub.skip rfl (Sub.skip rfl (Sub.skip rfl (Sub.skip rfl (Sub.skip rfl (Sub.same rfl (by rw [g111]) (Sub.refl _))))))))))))))))))))) (List.Sublist.refl _)
      ) ?_
      refine RunL.val (Val.pure rfl) rfl rfl rfl ?_
      refine RunL.sure (dj := 130) true rfl (by rw [ht] at *; cases hsh : shortX (fsX m.pl) t with | false => simp | true => (obtain ⟨z1, z2⟩ := hmin hsh; simp; omega)) ?_
      refine RunL.callP (isCall_func rfl ent_13) rfl rfl rfl (fun w hm => hawake_calls w) ?_
      refine RunL.val (Val.pure rfl) rfl rfl rfl ?_
      refine RunL.val (Val.pure rfl) rfl rfl rfl ?_
      refine RunL.nil ?_
      refine RunE.next ?_
      refine RunC.ret ?_
      exact RunE.retP (.r1 rfl (.tmp rfl)) (by first | rfl | simp)
end Go.Proofs.YtlhdalcipflblaaDoor
/- Layer 10, plain: ways that go on, and whether there is one. -/
set_option linter.unusedSimpArgs false
set_option linter.unusedVariables false
namespace Go.Hp
open Go Go.Eng Go.Pw1 Go.Proofs.YtlhdalcipflblaaDoor
/-- Entries of the first cards, no two the same. -/
structure PW (ne : Nat) (fs own : List Nat) (other : Nat) : Prop where
  le : own.length ≤ fs.length
  fit : ∀ k (h : k < own.length), own[k] < ne ∧ (fs.getD k 0).testBit own[k] = true
  nd : own.Nodup
  ot : ∀ x, other.testBit x = decide (x ∈ own)
  lt : other < 2 ^ 12
theorem PW.nil (ne : Nat) (fs : List Nat) : PW ne fs [] 0 := ⟨Nat.zero_le _, fun k h => absurd h (by simp), List.nodup_nil, fun x => by simp, by decide⟩
theorem getD_at {fs : List Nat} {k f : Nat} (hk : k < fs.length) (hf : fs[k] = f) : fs.getD k 0 = f := by
  rw [← hf]; simp [List.getD_eq_getElem?_getD, hk]
theorem PW.snoc {ne : Nat} {fs own : List Nat} {other j f : Nat} (h : PW ne fs own other) (hk : own.length < fs.length) (hf : fs[own.length] = f) (hj : j < ne) (hn : ne ≤ 12) (hb : f.testBit j = true) (ho : other.testBit j = false) : PW ne fs (own ++ [j]) (other ||| 2 ^ j) := by
  refine ⟨by simp; omega, fun k hk2 => ?_, ?_, fun x => ?_, Nat.or_lt_two_pow h.lt (Nat.pow_lt_pow_right (by decide) (by omega))⟩
  · rw [List.getElem_append]
    split
    · rename_i h1
      exact h.fit k h1
    · rename_i h1
      have : k = own.length := by simp at hk2; omega
      subst this
      simp only [Nat.sub_self, List.getElem_cons_zero]
      exact ⟨hj, by rw [getD_at hk hf]; exact hb⟩
  · rw [List.nodup_append]
    refine ⟨h.nd, by simp, fun a ha b hb2 e => ?_⟩
    rw [List.mem_singleton] at hb2
    subst hb2
    subst e
    rw [h.ot, decide_eq_false_iff_not] at ho
    exact ho ha
  · rw [bit_add, h.ot]
    by_cases e : j = x
    · subst e; simp
    · have e2 : ¬ x = j := fun h => e h.symm
      simp [e, e2]
theorem PW.way {ne : Nat} {fs own : List Nat} {other : Nat} (h : PW ne fs own other) (hl : own.length = fs.length) : Way ne fs 0 own := ⟨hl, h.fit, fun x _ => by simp, h.nd⟩
theorem way_pos {ne : Nat} {fs l : List Nat} (h : Way ne fs 0 l) : 0 < cntL ne fs 0 := by
  rw [cnt_ways]
  exact List.length_pos_of_mem (ways_mem.2 h)
theorem pos_way {ne : Nat} {fs : List Nat} (h : 0 < cntL ne fs 0) : ∃ l, Way ne fs 0 l := ⟨_, first_way h⟩
/-! ## There is a way just if no set is short -/
theorem union_bit (s : Nat) : ∀ (l : List Nat) (i x : Nat), (unionL s i l).testBit x = (List.range l.length).any fun c => s.testBit (i + c) && (l.getD c 0).testBit x
  | [], i, x => by simp [unionL]
  | f :: l, i, x => by
    unfold unionL
    rw [Nat.testBit_or, union_bit s l (i + 1) x, List.length_cons, List.range_succ_eq_map, List.any_cons, List.any_map]
    congr 1
    · cases h : s.testBit i <;> simp [h]
    · refine congrArg (fun p => (List.range l.length).any p) ?_
      funext c
      simp only [Function.comp, List.getD_cons_succ]
      rw [show i + 1 + c = i + (c + 1) by omega]
theorem pc_count (s : Nat) : ∀ k, pc s k = (List.range k).countP s.testBit
  | 0 => rfl
  | k + 1 => by
    show pc s k + s / 2 ^ k % 2 = _
    rw [List.range_succ, List.countP_append, pc_count s k, bit_one]
    simp [List.countP_cons]
theorem pc_top12 {s n : Nat} (hn : n ≤ 12) (h : s < 2 ^ n) : pc s 12 = (List.range n).countP s.testBit := by rw [pc12 hn h, pc_count]
theorem unionL_lt {ne : Nat} (s : Nat) : ∀ (l : List Nat) (i : Nat), (∀ f ∈ l, f < 2 ^ ne) → unionL s i l < 2 ^ ne
  | [], i, _ => Nat.two_pow_pos _
  | f :: l, i, h => by
    unfold unionL
    refine Nat.or_lt_two_pow ?_ (unionL_lt s l (i + 1) fun g hg => h g (List.mem_cons_of_mem _ hg))
    split
    · exact h f (List.mem_cons_self ..)
    · exact Nat.two_pow_pos _
/-- The cards of a set. -/
def cardsOf (n s : Nat) : List Nat := (List.range n).filter s.testBit
theorem nb_union {ne : Nat} (hn : ne ≤ 12) {fs : List Nat} (hf : ∀ f ∈ fs, f < 2 ^ ne) (s : Nat) : nb ne (fitN fs) (cardsOf fs.length s) = pc (unionL s 0 fs) 12 := by
  rw [pc_top12 hn (unionL_lt s fs 0 hf)]
  unfold nb
  refine List.countP_congr fun e _ => ?_
  rw [union_bit]
  unfold cardsOf
  rw [List.any_filter]
  simp [fitN, List.any_eq_true]
theorem cards_len {n s : Nat} (hn : n ≤ 12) (h : s < 2 ^ n) : (cardsOf n s).length = pc s 12 := by
  rw [pc_top12 hn h, List.countP_eq_length_filter]; rfl
theorem way_short {ne : Nat} (hn : ne ≤ 12) {fs l : List Nat} (hf : ∀ f ∈ fs, f < 2 ^ ne) (hfl : fs.length ≤ 8) (h : Way ne fs 0 l) {s : Nat} (hs : s < 2 ^ fs.length) : shortX fs s = false := by
  have h1 := way_no h (S := cardsOf fs.length s) (List.nodup_range.filter _) (fun c hc => List.mem_range.1 (List.mem_filter.1 hc).1)
  rw [nb_union hn hf, cards_len (by omega) hs] at h1
  unfold shortX
  exact decide_eq_false (by omega)
/-- The set of a list of numbers. -/
def setL (S : List Nat) : Nat := S.foldr (fun c s => 2 ^ c ||| s) 0
theorem setL_bit (x : Nat) : ∀ S : List Nat, (setL S).testBit x = decide (x ∈ S)
  | [] => by simp [setL]
  | c :: S => by
    have ih := setL_bit x S
    show (2 ^ c ||| setL S).testBit x = _
    rw [Nat.testBit_or, Nat.testBit_two_pow, ih]
    by_cases e : c = x
    · subst e; simp
    · have e2 : ¬ x = c := fun h => e h.symm
      simp [e, e2]
theorem setL_lt {n : Nat} : ∀ {S : List Nat}, (∀ c ∈ S, c < n) → setL S < 2 ^ n
  | [], _ => Nat.two_pow_pos _
  | c :: S, h => Nat.or_lt_two_pow (Nat.pow_lt_pow_right (by decide) (h c (List.mem_cons_self ..))) (setL_lt fun d hd => h d (List.mem_cons_of_mem _ hd))
theorem cards_setL {n : Nat} {S : List Nat} (h : ∀ c ∈ S, c < n) (x : Nat) : x ∈ cardsOf n (setL S) ↔ x ∈ S := by
  unfold cardsOf
  rw [List.mem_filter, setL_bit, List.mem_range, decide_eq_true_eq]
  exact ⟨fun h => h.2, fun hx => ⟨h x hx, hx⟩⟩
theorem no_short {ne : Nat} (hn : ne ≤ 12) {fs : List Nat} (hf : ∀ f ∈ fs, f < 2 ^ ne) (hfl : fs.length ≤ 8) (h : ∀ s, s < 2 ^ fs.length → shortX fs s = false) : ∃ l, Way ne fs 0 l := by
  refine way_of fun S hS hb => ?_
  have h1 := h (setL S) (setL_lt hb)
  unfold shortX at h1
  rw [decide_eq_false_iff_not, ← nb_union hn hf, ← cards_len (by omega) (setL_lt hb)] at h1
  have e1 : (cardsOf fs.length (setL S)).length = S.length := nd_len (List.nodup_range.filter _) hS (cards_setL hb)
  have e2 : nb ne (fitN fs) (cardsOf fs.length (setL S)) = nb ne (fitN fs) S := by
    unfold nb
    refine List.countP_congr fun e _ => ?_
    simp only [List.any_eq_true]
    exact ⟨fun ⟨c, h2, h3⟩ => ⟨c, (cards_setL hb c).1 h2, h3⟩, fun ⟨c, h2, h3⟩ => ⟨c, (cards_setL hb c).2 h2, h3⟩⟩
  omega
/-- Why there is none, just if there is none. -/
theorem why_cnt {m : MxA} (hX : mixedX m.pl = true) {s e : Nat} (hI : WhyIs (fsX m.pl) s e) : e = 0 ↔ 0 < cntX m.pl := by
  obtain ⟨h4, h8, h12⟩ := mixed_ok hX
  have hfl := fs_len m
  have hlt := fs_lt m
  constructor
  · intro he
    have h0 : ∀ t, t < 2 ^ (fsX m.pl).length → shortX (fsX m.pl) t = false := fun t ht => by
      cases hsh : shortX (fsX m.pl) t with
      | false => rfl
      | true =>
        obtain ⟨h1, _⟩ := hI.min t ht hsh
        rcases hI.se with ⟨h2, _⟩ | ⟨_, h2, _⟩ <;> omega
    obtain ⟨l, hl⟩ := no_short h12 hlt (by omega) h0
    exact way_pos hl
  · intro hc
    obtain ⟨l, hl⟩ := pos_way (ne := (esX m).length) (fs := fsX m.pl) hc
    rcases hI.se with ⟨_, h2⟩ | ⟨_, _, h2⟩
    · exact h2
    · rw [way_short h12 hlt (by omega) hl hI.lt] at h2
      cases h2
theorem lex_at : ∀ {l m : List Nat}, lexL l m → ∀ i (h1 : i < l.length) (h2 : i < m.length), l.take i = m.take i → l[i] ≠ m[i] → l[i] < m[i]
  | a :: l, b :: m, h, 0, _, _, _, hne => by
    rcases h with h | ⟨h, _⟩
    · exact h
    · exact absurd h hne
  | a :: l, b :: m, h, i + 1, h1, h2, ht, hne => by
    simp only [List.take_succ_cons, List.cons.injEq] at ht
    rcases h with h | ⟨_, h⟩
    · omega
    · exact lex_at h i (by simpa using h1) (by simpa using h2) ht.2 hne
  | [], _, h, _, _, _, _, _ => h.elim
  | _ :: _, [], h, _, _, _, _, _ => h.elim
/-- The set of the first ones. -/
structure UsedIs (l : List Nat) (u : Nat) : Prop where
  bit : ∀ x, u.testBit x = decide (x ∈ l)
  lt : u < 2 ^ 12
theorem UsedIs.nil : UsedIs [] 0 := ⟨fun x => by simp, by decide⟩
theorem UsedIs.snoc {l : List Nat} {u j : Nat} (h : UsedIs l u) (hj : j < 12) : UsedIs (l ++ [j]) (u ||| 2 ^ j) :=
  ⟨fun x => by
    rw [bit_add, h.bit]
    by_cases e : j = x
    · subst e; simp
    · have e2 : ¬ x = j := fun h => e h.symm
      simp [e, e2], Nat.or_lt_two_pow h.lt (Nat.pow_lt_pow_right (by decide) hj)⟩
theorem used_new {l : List Nat} {u k : Nat} (hnd : l.Nodup) (hk : k < l.length) (h : UsedIs (l.take k) u) : u.testBit l[k] = false := by
  rw [h.bit, decide_eq_false_iff_not]
  intro hm
  obtain ⟨i, hi, he⟩ := List.getElem_of_mem hm
  simp only [List.length_take] at hi
  rw [List.getElem_take] at he
  exact absurd (nd_inj hnd (by omega) hk he) (by omega)
end Go.Hp
/- The facts on the tables of types and on the entries of functions that the walks use. Written by program. -/
set_option linter.unusedSimpArgs false
set_option linter.unusedVariables false
namespace Go.Proofs.YtlhdalcipflblaaDoor
open Go Go.Eng
theorem ap_53 : apB Tryd.prog 53 = some (56, 3, 40) := by kernel_rfl
theorem ent_34 : Enters Tryd.prog 34 := enters_of Tryd.func34 (by kernel_rfl) rfl
theorem places_56 : placesB Tryd.prog 56 = some [(0, 1), (1, 1), (2, 1)] := by kernel_rfl
theorem sl_53 : slB Tryd.prog 53 = some (56, 3) := by kernel_rfl
theorem zero_56 : zeroB Tryd.prog 56 = some [.int .i64 0, .string ⟨#[]⟩, .string ⟨#[]⟩] := by kernel_rfl
end Go.Proofs.YtlhdalcipflblaaDoor
/- Walks of the laws of layer 10: entries; HeapFirst. -/
set_option linter.unusedSimpArgs false
set_option linter.unusedVariables false
namespace Go.Hp
open Go Go.Eng Go.Pw1
theorem shr_one {s k : Nat} (h : s.testBit k = true) : ((s >>> k &&& 1 : Nat) : Int) = 1 := by rw [bit_iff] at h; exact of_decide_eq_true h
theorem shr_zero {s k : Nat} (h : s.testBit k = false) : ((s >>> k &&& 1 : Nat) : Int) = 0 := by
  rw [bit_iff] at h
  have h1 := of_decide_eq_false h
  have h2 := Nat.and_le_right (n := s >>> k) (m := 1)
  omega
theorem bit_no0 {s k : Nat} (h : ((s >>> k &&& 1 : Nat) : Int) = 0) : s.testBit k = false := bit_no (by omega)
theorem mod_at {k n : Nat} (h : 0 < n) : ∃ i, k % n = i ∧ i < n := ⟨_, rfl, Nat.mod_lt _ h⟩
theorem ints_sl {l : List Int} {x : Eng.Own} {w : World} (h : OwnOk 1 x l.length (intsW l).flatten) (hm : ∀ b o, (b, o) ∈ ownB 3 x (intsW l).flatten → w.heap[b]? = some o) : Sl w (ownQ x) (ownK x) 0 1 (intsW l) := own_sl (f := fun (x : Int) => [Value.int .i64 x]) (fun _ => rfl) (by decide) h hm
theorem ints_row (l : List Int) : ∀ x ∈ intsW l, x.length = 1 := fun x hx => by obtain ⟨a, _, rfl⟩ := List.mem_map.1 hx; rfl
theorem natI_len (l : List Nat) : (natI l).length = l.length := by simp [natI]
theorem natI_at {l : List Nat} {k c : Nat} (hk : k < l.length) (hc : l[k] = c) : ((natI l)[k]'(by rw [natI_len]; exact hk)) = (c : Int) := by simp [natI, hc]
theorem take_snocN {a b : List Nat} {k : Nat} (ha : k < a.length) (hb : k < b.length) (h : a.take k = b.take k) (h2 : a[k] = b[k]) : a.take (k + 1) = b.take (k + 1) := by
  rw [List.take_succ_eq_append_getElem ha, List.take_succ_eq_append_getElem hb, h, h2]
end Go.Hp
namespace Go.Proofs.YtlhdalcipflblaaDoor
open Go Go.Eng Go.Hp Go.Pw1

theorem rEntries_calls (m : MxA) (hsm : MSm m) (hX : mixedX m.pl = true) (W : World) (hM : MOk W m) : Calls Tryd.prog 34 #[m.v] W
    (News (fun z : EO m => .slice (ownQ z.1) (esX m).length (ownC z.1)) (fun z => ownB 56 z.1 ((esX m).map En.cells).flatten ++ []) W) := by
  obtain ⟨hb4, hc8, he12⟩ := mixed_ok hX
  have hman : manyX (m.bxs.map (·.bx)) = (esX m).length := (entries_len _).symm
  refine calls_start Tryd.func34 rfl rfl ?_
  refine RunC.seq ?_
  refine RunC.region ?_
  refine RunL.new (New.box rfl) rfl rfl rfl (fun b1 => ?_)
  refine RunL.val (Val.pure rfl) rfl rfl rfl ?_
  refine RunL.nil ?_
  refine RunE.next ?_
  refine RunC.seq ?_
  refine RunC.region ?_
  refine RunL.val (Val.pure rfl) rfl rfl rfl ?_
  refine RunL.nil ?_
  refine RunE.next ?_
  refine RunC.seq ?_
  refine RunC.seq ?_
  refine RunC.region ?_
  refine RunL.val (Val.pure rfl) rfl rfl rfl ?_
  refine RunL.nil ?_
  refine RunE.next ?_
  refine RunC.block ?_
  refine RunC.loopX (X := Eng.Own) (n0 := [(b1, _)]) (m.bxs.length) (fun k x q => (4, .int .i64 (k : Int)) :: (3, ownV x (enK m k).length) :: q) (fun _ _ => _) (fun k x => []) (fun k x => ownB 56 x ((enK m k).map En.cells).flatten ++ []) (fun k x => OwnOk 3 x (enK m k).length ((enK m k).map En.cells).flatten) none OwnOk.start rfl (Sub.consE (t := 4) rfl rfl (Sub.consE (t := 3) rfl rfl (Sub.cons (t := 1) rfl (Sub.nil _)))) (.cons .here rfl (Pick.same rfl)) ?_
  intro k x kN kI
  have hx1 := kI
  refine RunC.seq ?_
  refine RunC.seq ?_
  refine RunC.region ?_
  refine RunL.val (Val.pure rfl) rfl rfl rfl ?_
  refine RunL.val (Val.fieldAddr rfl fld_25_0) rfl rfl rfl ?_
  refine RunL.val (Val.load_one rfl (.head _) ty_22 rfl) rfl rfl rfl ?_
  refine RunL.val (Val.len_sl rfl sl_22) rfl rfl rfl ?_
  refine RunL.val (Val.pure rfl) rfl rfl rfl ?_
  refine RunL.nil ?_
  refine RunE.next ?_
  refine RunC.cond rfl ?_ ?_
  · intro c0
    have c0' := c0; clear c0
    try simp only [decide_eq_true_eq, decide_eq_false_iff_not, Bool.not_eq_true', Bool.not_eq_false', Bool.and_eq_true, Bool.or_eq_true, Bool.and_eq_false_iff, Bool.or_eq_false_iff, Int.not_le, Int.not_lt] at c0'
    have hk : k < m.bxs.length := by omega
    obtain ⟨B, hB⟩ : ∃ B, m.bxs[k] = B := ⟨_, rfl⟩
    have hBm : B ∈ m.bxs := hB ▸ List.getElem_mem hk
    have hBl := many_mem hBm
    have hBT := hM.ti B hBm
    refine RunC.skip ?_
    refine RunE.next ?_
    refine RunC.seq ?_
    refine RunC.block ?_
    refine RunC.seq ?_
    refine RunC.region ?_
    refine RunL.val (Val.pure rfl) rfl rfl rfl ?_
    refine RunL.nil ?_
    refine RunE.next ?_
    refine RunC.block ?_
    refine RunC.loopX (X := Eng.Own) (n0 := [(b1, _)]) (B.bx.titles.length) (fun j y q => (5, .int .i64 (j : Int)) :: (3, ownV y (enK m k ++ boxEn B.bx.colour 0 (B.bx.titles.take j)).length) :: q) (fun _ _ => _) (fun j y => []) (fun j y => ownB 56 y ((enK m k ++ boxEn B.bx.colour 0 (B.bx.titles.take j)).map En.cells).flatten ++ []) (fun j y => OwnOk 3 y (enK m k ++ boxEn B.bx.colour 0 (B.bx.titles.take j)).length ((enK m k ++ boxEn B.bx.colour 0 (B.bx.titles.take j)).map En.cells).flatten) x (by simpa [boxEn] using hx1) rfl (Sub.consE (t := 5) rfl rfl (Sub.consE (t := 3) rfl (by simp [boxEn]) (Sub.cons (t := 1) rfl (Sub.cons (t := 4) rfl (Sub.nil _))))) (.cons .here rfl (Pick.same (by simp [boxEn]))) ?_
    intro j y jN jI
    have hy1 := jI
    refine RunC.seq ?_
    refine RunC.seq ?_
    refine RunC.region ?_
    refine RunL.val (Val.pure rfl) rfl rfl rfl ?_
    refine RunL.val (Val.fieldAddr rfl fld_25_0) rfl rfl rfl ?_
    refine RunL.val (Val.load_one rfl (.head _) ty_22 rfl) rfl rfl rfl ?_
    refine RunL.val (Val.pure rfl) rfl rfl rfl ?_
    refine RunL.val (Val.indexAddr_slp rfl rfl sl_22 (by omega) (by omega) (hM.bx.ptrM hk)) rfl rfl rfl ?_
    refine RunL.val (Val.fieldAddr rfl fld_46_1) rfl rfl rfl ?_
    refine RunL.val (Val.load_gen rfl (fun w hm => hM.bx.cellX hm (by simp) ty_44 hk hB (j := 1) (by decide) rfl)) rfl rfl rfl ?_
    refine RunL.val (Val.len_sl rfl sl_44) rfl rfl rfl ?_
    refine RunL.val (Val.pure rfl) rfl rfl rfl ?_
    refine RunL.nil ?_
    refine RunE.next ?_
    refine RunC.cond rfl ?_ ?_
    · intro c1
      have c1' := c1; clear c1
      try simp only [decide_eq_true_eq, decide_eq_false_iff_not, Bool.not_eq_true', Bool.not_eq_false', Bool.and_eq_true, Bool.or_eq_true, Bool.and_eq_false_iff, Bool.or_eq_false_iff, Int.not_le, Int.not_lt] at c1'
      have hj : j < B.bx.titles.length := by omega
      obtain ⟨S, hS⟩ : ∃ S, B.bx.titles[j] = S := ⟨_, rfl⟩
      have hlen : (enK m k ++ boxEn B.bx.colour 0 (B.bx.titles.take j)).length ≤ 100000 := by (rw [List.length_append, boxEn_len]; have h9 := enK_len hsm k; rw [List.length_take]; omega)
      have hS2 : enK m k ++ boxEn B.bx.colour 0 (B.bx.titles.take (j + 1)) = (enK m k ++ boxEn B.bx.colour 0 (B.bx.titles.take j)) ++ [⟨B.bx.colour, itoa (j + 1), S⟩] := by rw [List.take_succ_eq_append_getElem hj, hS, boxEn_snoc, List.append_assoc]; simp [Nat.min_eq_left (Nat.le_of_lt hj)]
      have hlen2 : (enK m k ++ boxEn B.bx.colour 0 (B.bx.titles.take j) ++ [(⟨B.bx.colour, itoa (j + 1), S⟩ : En)]).length = (enK m k ++ boxEn B.bx.colour 0 (B.bx.titles.take j)).length + 1 := by rw [List.length_append (bs := [_])]; rfl
      refine RunC.skip ?_
      refine RunE.next ?_
      refine RunC.seq ?_
      refine RunC.block ?_
      refine RunC.drawX (X := Eng.Own) 21 (n0 := [(b1, _)]) (fun z q => (3, ownV z (enK m k ++ boxEn B.bx.colour 0 (B.bx.titles.take j) ++ [(⟨B.bx.colour, itoa (j + 1), S⟩ : En)]).length) :: q) (fun z => []) (fun z => []) (fun z => ownB 56 z ((enK m k ++ boxEn B.bx.colour 0 (B.bx.titles.take j) ++ [(⟨B.bx.colour, itoa (j + 1), S⟩ : En)]).map En.cells).flatten ++ []) (fun z => OwnOk 3 z (enK m k ++ boxEn B.bx.colour 0 (B.bx.titles.take j) ++ [(⟨B.bx.colour, itoa (j + 1), S⟩ : En)]).length ((enK m k ++ boxEn B.bx.colour 0 (B.bx.titles.take j) ++ [(⟨B.bx.colour, itoa (j + 1), S⟩ : En)]).map En.cells).flatten) fol_ (.cons .here rfl .nil) (Sub.cons (t := 1) rfl (Sub.cons (t := 4) rfl (Sub.cons (t := 5) rfl (Sub.nil _)))) (.cons .here rfl .nil) ?_ ?_
      · refine RunA.val (i := 0) rfl (by kernel_rfl) (by kernel_rfl) (Val.pure rfl) rfl rfl rfl (fun _ _ _ h => h) (.cons .here rfl .nil) rfl ?_
        refine RunA.val (i := 1) rfl (by kernel_rfl) (by kernel_rfl) (Val.fieldAddr rfl fld_25_0) rfl rfl rfl (fun _ _ _ h => h) (.cons .here rfl .nil) rfl ?_
        refine RunA.val (i := 2) rfl (by kernel_rfl) (by kernel_rfl) (Val.load_one rfl (.head _) ty_22 rfl) rfl rfl rfl (fun _ _ _ h => h) (.cons .here rfl .nil) rfl ?_
        refine RunA.val (i := 3) rfl (by kernel_rfl) (by kernel_rfl) (Val.pure rfl) rfl rfl rfl (fun _ _ _ h => h) (.cons .here rfl .nil) rfl ?_
        refine RunA.val (i := 4) rfl (by kernel_rfl) (by kernel_rfl) (Val.indexAddr_slp rfl rfl sl_22 (by omega) (by omega) (hM.bx.ptrM hk)) rfl rfl rfl (fun _ _ _ h => h) (.cons .here rfl .nil) rfl ?_
        refine RunA.val (i := 5) rfl (by kernel_rfl) (by kernel_rfl) (Val.fieldAddr rfl fld_46_0) rfl rfl rfl (fun _ _ _ h => h) (.cons .here rfl .nil) rfl ?_
        refine RunA.val (i := 6) rfl (by kernel_rfl) (by kernel_rfl) (Val.load_gen rfl (fun w hm => hM.bx.cellX hm (by simp) ty_3 hk hB (j := 0) (by decide) rfl)) rfl rfl rfl (fun _ _ _ h => h) (.cons .here rfl .nil) rfl ?_
        refine RunA.val (i := 7) rfl (by kernel_rfl) (by kernel_rfl) (Val.pure rfl) rfl rfl rfl (fun _ _ _ h => h) (.cons .here rfl .nil) rfl ?_
        refine RunA.val (i := 8) rfl (by kernel_rfl) (by kernel_rfl) (Val.add rfl rfl (IntWalk.i64_in _ ⟨by omega, by omega⟩)) rfl rfl rfl (fun _ _ _ h => h) (.cons .here rfl .nil) rfl ?_
        refine RunA.val (i := 10) rfl (by kernel_rfl) (by kernel_rfl) (Val.fieldAddr rfl fld_25_0) rfl rfl rfl (fun _ _ _ h => h) (.cons .here rfl .nil) rfl ?_
        refine RunA.val (i := 11) rfl (by kernel_rfl) (by kernel_rfl) (Val.load_one rfl (.head _) ty_22 rfl) rfl rfl rfl (fun _ _ _ h => h) (.cons .here rfl .nil) rfl ?_
        refine RunA.val (i := 12) rfl (by kernel_rfl) (by kernel_rfl) (Val.pure rfl) rfl rfl rfl (fun _ _ _ h => h) (.cons .here rfl .nil) rfl ?_
        refine RunA.val (i := 13) rfl (by kernel_rfl) (by kernel_rfl) (Val.indexAddr_slp rfl rfl sl_22 (by omega) (by omega) (hM.bx.ptrM hk)) rfl rfl rfl (fun _ _ _ h => h) (.cons .here rfl .nil) rfl ?_
        refine RunA.val (i := 14) rfl (by kernel_rfl) (by kernel_rfl) (Val.fieldAddr rfl fld_46_1) rfl rfl rfl (fun _ _ _ h => h) (.cons .here rfl .nil) rfl ?_
        refine RunA.val (i := 15) rfl (by kernel_rfl) (by kernel_rfl) (Val.load_gen rfl (fun w hm => hM.bx.cellX hm (by simp) ty_44 hk hB (j := 1) (by decide) rfl)) rfl rfl rfl (fun _ _ _ h => h) (.cons .here rfl .nil) rfl ?_
        refine RunA.val (i := 16) rfl (by kernel_rfl) (by kernel_rfl) (Val.pure rfl) rfl rfl rfl (fun _ _ _ h => h) (.cons .here rfl .nil) rfl ?_
        refine RunA.val (i := 17) rfl (by kernel_rfl) (by kernel_rfl) (Val.indexAddr_slp rfl rfl sl_44 (by omega) (by omega) (hBT.ptrM hj)) rfl rfl rfl (fun _ _ _ h => h) (.cons .here rfl .nil) rfl ?_
        refine RunA.val (i := 18) rfl (by kernel_rfl) (by kernel_rfl) (Val.load_gen rfl (fun w hm => Sl.loadM1 hBT (by decide) hm (by simp) ty_9 hj (v := .string (bs S)) (by simp [hS]))) rfl rfl rfl (fun _ _ _ h => h) (.cons .here rfl .nil) rfl ?_
        refine RunA.one (i := 9) (by kernel_rfl) (by kernel_rfl) ?_
        refine RunI.callP rfl (isCall_func rfl ent_31) rfl rfl rfl (fun w hm => rText_calls (j + 1) (by omega) w) (RunK.toA (.cons .here rfl .nil) (.cons .here rfl .nil) rfl ?_)
        refine RunA.val (i := 19) rfl (by kernel_rfl) (by kernel_rfl) (Val.build (parts := [(0, .tmp 30), (1, .tmp 33), (2, .tmp 42)]) rfl zero_56 places_56 rfl) rfl rfl rfl (fun _ _ _ h => h) (.cons .here rfl .nil) rfl ?_
        refine RunA.one (i := 20) (by kernel_rfl) (by kernel_rfl) ?_
        refine RunI.new rfl (New.buildSlice (parts := [(0, .tmp 43)]) rfl sl_53 zero_56 rfl rfl rfl rfl) rfl rfl rfl (fun b44 => (RunK.toA (.cons .here rfl (.cons .here rfl .nil)) (.cons (.there .here) rfl .nil) rfl ?_))
        refine RunA.toB (by kernel_rfl) ?_
        refine RunB.one (i := 21) (by kernel_rfl) ?_
        refine RunI.append (A := [(b44, _), (b1, _)]) (B := _) (x := y) (ys := (En.cells ⟨B.bx.colour, itoa (j + 1), S⟩)) rfl ap_53 rfl rfl rfl hy1 rfl (fun h => by cases h) (fun w hm => src_blk (hm.at (.head _))) (one_of (en_one _)) (by simp only [maxLen]; omega) (by omega) rfl (fun z45 hz45 => (RunK.toB ?_))
        refine RunB.one (i := 22) (by kernel_rfl) ?_
        refine RunI.val rfl (Val.pure rfl) rfl rfl rfl (RunK.toB ?_)
        refine RunB.done (by kernel_rfl) ?_
        exact RunE.joinX z45 (by rw [← flat_snoc, hlen2]; exact hz45) rfl (Sub.consE (t := 3) rfl (by rw [hlen2]) (Sub.cons (t := 1) rfl (Sub.cons (t := 4) rfl (Sub.cons (t := 5) rfl (Sub.nil _))))) (.cons (.there .here) rfl (Pick.skip (Pick.same (by rw [← flat_snoc]))))
      · intro z zI
        have hx1 := zI
        refine RunE.block_normal ?_
        refine RunE.next ?_
        refine RunC.region ?_
        refine RunL.val (Val.pure rfl) rfl rfl rfl ?_
        refine RunL.val (Val.add rfl rfl (IntWalk.i64_in _ ⟨by omega, by omega⟩)) rfl rfl rfl ?_
        refine RunL.val (Val.pure rfl) rfl rfl rfl ?_
        refine RunL.nil ?_
        exact RunE.roundX z (by omega) (by rw [hS2]; exact hx1) rfl (Sub.consE (t := 5) rfl rfl (Sub.consE (t := 3) rfl (by rw [hS2]) (Sub.cons (t := 1) rfl (Sub.cons (t := 4) rfl (Sub.nil _))))) (.cons .here rfl (Pick.same (by rw [hS2])))
    · intro c1
      have c1' := c1; clear c1
      try simp only [decide_eq_true_eq, decide_eq_false_iff_not, Bool.not_eq_true', Bool.not_eq_false', Bool.and_eq_true, Bool.or_eq_true, Bool.and_eq_false_iff, Bool.or_eq_false_iff, Int.not_le, Int.not_lt] at c1'
      obtain rfl : j = B.bx.titles.length := by omega
      rw [List.take_length] at hy1
      simp only [List.take_length]
      refine RunC.exit ?_
      refine RunE.pass_exit ?_
      refine RunE.pass_exit ?_
      refine RunE.block_here ?_
      refine RunE.block_normal ?_
      refine RunE.next ?_
      refine RunC.region ?_
      refine RunL.val (Val.pure rfl) rfl rfl rfl ?_
      refine RunL.val (Val.add rfl rfl (IntWalk.i64_in _ ⟨by omega, by omega⟩)) rfl rfl rfl ?_
      refine RunL.val (Val.pure rfl) rfl rfl rfl ?_
      refine RunL.nil ?_
      exact RunE.roundX y (by omega) (by rw [enK_snoc hk hB]; exact hy1) rfl (Sub.consE (t := 4) rfl rfl (Sub.consE (t := 3) rfl (by rw [enK_snoc hk hB]) (Sub.cons (t := 1) rfl (Sub.nil _)))) (.cons .here rfl (Pick.same (by rw [enK_snoc hk hB])))
  · intro c0
    have c0' := c0; clear c0
    try simp only [decide_eq_true_eq, decide_eq_false_iff_not, Bool.not_eq_true', Bool.not_eq_false', Bool.and_eq_true, Bool.or_eq_true, Bool.and_eq_false_iff, Bool.or_eq_false_iff, Int.not_le, Int.not_lt] at c0'
    obtain rfl : k = m.bxs.length := by omega
    rw [enK_all] at hx1
    have y1 : ownV x (esX m).length = .slice (ownQ x) (esX m).length (ownC x) := ownV_slice hx1
    simp only [enK_all, y1]
    refine RunC.exit ?_
    refine RunE.pass_exit ?_
    refine RunE.pass_exit ?_
    refine RunE.block_here ?_
    refine RunE.next ?_
    refine RunC.seq ?_
    refine RunC.region ?_
    refine RunL.val (Val.pure rfl) rfl rfl rfl ?_
    refine RunL.val (Val.pure rfl) rfl rfl rfl ?_
    refine RunL.nil ?_
    refine RunE.next ?_
    refine RunC.ret ?_
    exact RunE.ret (chg := []) (.r1 rfl (.tmp rfl)) (fun _ hm => ⟨⟨x, hx1⟩, rfl, hm.pick (Pick.skip (Pick.refl _))⟩)
theorem first_ok (m : MxA) (hsm : MSm m) (W : World) (hM : MOk W m) (hw : waysE m.pl = 0) : Calls Tryd.prog 23 #[m.v] W
    (News (fun z : IO (natI (firstL (esX m).length (fsX m.pl) 0)) => .tuple #[.slice (ownQ z.1) m.cards.length (ownC z.1), .int .i64 0]) (fun z => ownB 3 z.1 (intsW (natI (firstL (esX m).length (fsX m.pl) 0))).flatten ++ []) W) := by
  have h1 := first_calls m hsm W hM hw
  have e : (FirstX m.pl).1 = natI (firstL (esX m).length (fsX m.pl) 0) := by unfold FirstX; rw [if_pos hw]; rfl
  obtain ⟨hX, h0⟩ := ways_ok hw
  have hl : (natI (firstL (esX m).length (fsX m.pl) 0)).length = m.cards.length := by
    rw [natI_len, (first_way (ne := (esX m).length) (fs := fsX m.pl) (u := 0) (Nat.pos_of_ne_zero h0)).len, fs_len]
  rw [e] at h1
  refine calls_mono h1 ?_
  rintro ed w' ⟨z, rfl, hm⟩
  exact ⟨z, by show Ending.returned (.tuple #[ownV z.1 (natI (firstL (esX m).length (fsX m.pl) 0)).length, .int .i64 0]) = _; rw [ownV_slice z.2]; exact congrArg (fun n => Ending.returned (Value.tuple #[.slice (ownQ z.1) n (ownC z.1), .int .i64 0])) hl, hm⟩
theorem hfirst_far (m : MxA) (ys : Str) (q : Option Addr) (b o cap : Nat) (W : World) (hM : MOk W m) (hf : farX m.pl = true ∨ ys.length = 0) : Calls Tryd.prog 8 #[m.v, .slice q ys.length cap] W (Pure (.bool true) W) := by
  refine calls_start Tryd.func8 rfl rfl ?_
  refine RunC.seq ?_
  refine RunC.region ?_
  refine RunL.new (New.box rfl) rfl rfl rfl (fun b2 => ?_)
  refine RunL.val (Val.pure rfl) rfl rfl rfl ?_
  refine RunL.nil ?_
  refine RunE.next ?_
  refine RunC.seq ?_
  refine RunC.seq ?_
  refine RunC.region ?_
  refine RunL.val (Val.load_agg rfl (.head _) ty_25 rfl) rfl rfl rfl ?_
  refine RunL.callP (isCall_func rfl ent_12) rfl rfl rfl (fun w hm => far_calls m w (hM.mono0 hm)) ?_
  refine RunL.val (Val.pure rfl) rfl rfl rfl ?_
  refine RunL.orPart (dj := 24) (dp := 28) 4 rfl (fun g24 => by
    have g24' := g24
    try simp only [decide_eq_true_eq, decide_eq_false_iff_not, Bool.not_eq_true', Bool.not_eq_false', Bool.and_eq_true, Bool.or_eq_true, Bool.and_eq_false_iff, Bool.or_eq_false_iff, Int.not_le, Int.not_lt] at g24'
    refine RunL.val (Val.pure rfl) rfl rfl rfl ?_
    refine RunL.val (Val.len_sl rfl sl_47) rfl rfl rfl ?_
    refine RunL.val (Val.pure rfl) rfl rfl rfl ?_
    refine RunL.val (Val.pure rfl) rfl rfl rfl ?_
    exact RunL.segEnd (Sub.cons rfl (Sub.skip rfl (Sub.skip rfl (Sub.skip rfl (Sub.skip rfl (Sub.same rfl (by rw [g24]) (Sub.refl _))))))) (List.Sublist.refl _)
  ) (fun g24 => by
    have g24' := g24
    try simp only [decide_eq_true_eq, decide_eq_false_iff_not, Bool.not_eq_true', Bool.not_eq_false', Bool.and_eq_true, Bool.or_eq_true, Bool.and_eq_false_iff, Bool.or_eq_false_iff, Int.not_le, Int.not_lt] at g24'
    iterate 3 refine RunL.no rfl rfl rfl ?_
    refine RunL.val (Val.pure rfl) rfl rfl rfl ?_
    exact RunL.segEnd (Sub.cons rfl (Sub.skip rfl (Sub.skip rfl (Sub.skip rfl (Sub.skip rfl (Sub.same rfl (by rw [g24]) (Sub.refl _))))))) (List.Sublist.refl _)
  ) ?_
  refine RunL.nil ?_
  refine RunE.next ?_
  refine RunC.cond rfl ?_ (fun h => absurd h (by rcases hf with h | h <;> simp [h]))
  intro c0
  clear c0
  refine RunC.seq ?_
  refine RunC.region ?_
  refine RunL.callP (isCall_func rfl ent_13) rfl rfl rfl (fun w hm => hawake_calls w) ?_
  refine RunL.val (Val.pure rfl) rfl rfl rfl ?_
  refine RunL.nil ?_
  refine RunE.next ?_
  refine RunC.ret ?_
  refine RunE.pass_ret ?_
  exact RunE.retP (.r1 rfl (.tmp rfl)) (by first | rfl | simp)
theorem hfirst_bad (m : MxA) (ys : Str) (q : Option Addr) (b o cap : Nat) (W : World) (hM : MOk W m) (hf : farX m.pl = false) (hy : 0 < ys.length) (hyl : ys.length ≤ 9223372036854775807) (hX : mixedX m.pl = false) : Calls Tryd.prog 8 #[m.v, .slice q ys.length cap] W (Pure (.bool true) W) := by
  have hsm := far_sm hf
  have hw : waysE m.pl = 1 := by unfold waysE; rw [hX]; rfl
  have e1 : CountX m.pl = (0, 1) := by unfold CountX; rw [hX]; rfl
  have e2 : WhyX m.pl = (0, 1) := by unfold WhyX; rw [hX]; rfl
  refine calls_start Tryd.func8 rfl rfl ?_
  refine RunC.seq ?_
  refine RunC.region ?_
  refine RunL.new (New.box rfl) rfl rfl rfl (fun b2 => ?_)
  refine RunL.val (Val.pure rfl) rfl rfl rfl ?_
  refine RunL.nil ?_
  refine RunE.next ?_
  refine RunC.seq ?_
  refine RunC.seq ?_
  refine RunC.region ?_
  refine RunL.val (Val.load_agg rfl (.head _) ty_25 rfl) rfl rfl rfl ?_
  refine RunL.callP (isCall_func rfl ent_12) rfl rfl rfl (fun w hm => far_calls m w (hM.mono0 hm)) ?_
  refine RunL.val (Val.pure rfl) rfl rfl rfl ?_
  refine RunL.sure (dj := 24) false rfl (by simp [hf]) ?_
  refine RunL.val (Val.pure rfl) rfl rfl rfl ?_
  refine RunL.val (Val.len_sl rfl sl_47) rfl rfl rfl ?_
  refine RunL.val (Val.pure rfl) rfl rfl rfl ?_
  refine RunL.val (Val.pure rfl) rfl rfl rfl ?_
  refine RunL.nil ?_
  refine RunE.next ?_
  refine RunC.cond rfl (fun h => absurd h (by simp [hf, List.length_pos_iff.1 hy])) ?_
  intro c0
  clear c0
  refine RunC.skip ?_
  refine RunE.next ?_
  refine RunC.seq ?_
  refine RunC.region ?_
  refine RunL.val (Val.load_agg rfl (.head _) ty_25 rfl) rfl rfl rfl ?_
  refine RunL.callP (isCall_func rfl ent_23) rfl rfl rfl (fun w hm => (by have h9 := first_err m hsm w (hM.mono0 hm) (by rw [hw]; decide); rw [hw] at h9; exact h9)) ?_
  iterate 5 refine RunL.val (Val.pure rfl) rfl rfl rfl ?_
  refine RunL.nil ?_
  refine RunE.next ?_
  refine RunC.seq ?_
  refine RunC.region ?_
  refine RunL.val (Val.load_agg rfl (.head _) ty_25 rfl) rfl rfl rfl ?_
  refine RunL.callP (isCall_func rfl ent_19) rfl rfl rfl (fun w hm => (by have h9 := counth_calls m hsm w (hM.mono0 hm); rw [e1] at h9; exact h9)) ?_
  iterate 5 refine RunL.val (Val.pure rfl) rfl rfl rfl ?_
  refine RunL.nil ?_
  refine RunE.next ?_
  refine RunC.seq ?_
  refine RunC.region ?_
  refine RunL.val (Val.load_agg rfl (.head _) ty_25 rfl) rfl rfl rfl ?_
  refine RunL.callP (isCall_func rfl ent_16) rfl rfl rfl (fun w hm => (by have h9 := why_calls m hsm w (hM.mono0 hm); rw [e2] at h9; exact h9)) ?_
  iterate 5 refine RunL.val (Val.pure rfl) rfl rfl rfl ?_
  refine RunL.nil ?_
  refine RunE.next ?_
  refine RunC.seq ?_
  refine RunC.seq ?_
  refine RunC.region ?_
  iterate 3 refine RunL.val (Val.pure rfl) rfl rfl rfl ?_
  refine RunL.sure (dj := 47) true rfl (by simp [hX]) ?_
  iterate 3 refine RunL.no rfl rfl rfl ?_
  refine RunL.val (Val.pure rfl) rfl rfl rfl ?_
  refine RunL.nil ?_
  refine RunE.next ?_
  refine RunC.cond rfl ?_ (fun h => absurd h (by simp))
  intro c1
  clear c1
  refine RunC.seq ?_
  refine RunC.region ?_
  refine RunL.val (Val.pure rfl) rfl rfl rfl ?_
  refine RunL.val (Val.len_sl rfl sl_34) rfl rfl rfl ?_
  refine RunL.val (Val.pure rfl) rfl rfl rfl ?_
  refine RunL.val (Val.pure rfl) rfl rfl rfl ?_
  refine RunL.sure (dj := 55) true rfl (by simp [hX]) ?_
  iterate 4 refine RunL.val (Val.pure rfl) rfl rfl rfl ?_
  refine RunL.sure (dj := 59) true rfl (by simp [hX]) ?_
  iterate 5 refine RunL.val (Val.pure rfl) rfl rfl rfl ?_
  refine RunL.sure (dj := 64) true rfl (by simp [hX]) ?_
  iterate 5 refine RunL.val (Val.pure rfl) rfl rfl rfl ?_
  refine RunL.sure (dj := 69) true rfl (by simp [hX]) ?_
  iterate 4 refine RunL.val (Val.pure rfl) rfl rfl rfl ?_
  refine RunL.sure (dj := 73) true rfl (by simp [hX]) ?_
  iterate 4 refine RunL.val (Val.pure rfl) rfl rfl rfl ?_
  refine RunL.sure (dj := 77) true rfl (by simp [hX]) ?_
  refine RunL.val (Val.load_agg rfl (.head _) ty_25 rfl) rfl rfl rfl ?_
  refine RunL.callP (isCall_func rfl ent_33) rfl rfl rfl (fun w hm => rMixed_calls m hsm w (hM.mono0 hm)) ?_
  iterate 3 refine RunL.val (Val.pure rfl) rfl rfl rfl ?_
  refine RunL.sure (dj := 82) true rfl (by simp [hX]) ?_
  refine RunL.callP (isCall_func rfl ent_13) rfl rfl rfl (fun w hm => hawake_calls w) ?_
  refine RunL.val (Val.pure rfl) rfl rfl rfl ?_
  refine RunL.val (Val.pure rfl) rfl rfl rfl ?_
  refine RunL.nil ?_
  refine RunE.next ?_
  refine RunC.ret ?_
  refine RunE.pass_ret ?_
  exact RunE.retP (.r1 rfl (.tmp rfl)) (by first | rfl | simp)
set_option maxHeartbeats 1000000 in
theorem hfirst_none (m : MxA) (ys : Str) (q : Option Addr) (b o cap : Nat) (W : World) (hM : MOk W m) (hS : Sl W q b o 1 (bytesV ys)) (hf : farX m.pl = false) (hy : 0 < ys.length) (hyl : ys.length ≤ 9223372036854775807) (hX : mixedX m.pl = true) (h0 : cntX m.pl = 0) : Calls Tryd.prog 8 #[m.v, .slice q ys.length cap] W (Pure (.bool true) W) := by
  have hsm := far_sm hf
  obtain ⟨h4, h8, h12⟩ := mixed_ok hX
  have hfl := fs_len m
  have hall := fs12 hX
  have hw : waysE m.pl = 4 := by unfold waysE; rw [if_pos hX, if_pos h0]
  have e1 : CountX m.pl = (0, 0) := by unfold CountX; rw [if_pos hX, h0]; rfl
  obtain ⟨s, e, hI, hW⟩ := why_is hX
  have he : e = 11 := by
    have h1 := why_cnt hX hI
    rcases hI.se with ⟨_, h2⟩ | ⟨_, h2, _⟩ <;> omega
  subst he
  have hno : ∀ (own : List Nat) (ot : Nat), PW (esX m).length (fsX m.pl) own ot → own.length < m.cards.length := fun own ot h => by
    have h1 := h.le
    rcases Nat.lt_or_ge own.length m.cards.length with h2 | h2
    · exact h2
    · have h3 := way_pos (h.way (by omega))
      have h5 : cntL (esX m).length (fsX m.pl) 0 = cntX m.pl := rfl
      omega
  refine calls_start Tryd.func8 rfl rfl ?_
  refine RunC.seq ?_
  refine RunC.region ?_
  refine RunL.new (New.box rfl) rfl rfl rfl (fun b2 => ?_)
  refine RunL.val (Val.pure rfl) rfl rfl rfl ?_
  refine RunL.nil ?_
  refine RunE.next ?_
  refine RunC.seq ?_
  refine RunC.seq ?_
  refine RunC.region ?_
  refine RunL.val (Val.load_agg rfl (.head _) ty_25 rfl) rfl rfl rfl ?_
  refine RunL.callP (isCall_func rfl ent_12) rfl rfl rfl (fun w hm => far_calls m w (hM.mono0 hm)) ?_
  refine RunL.val (Val.pure rfl) rfl rfl rfl ?_
  refine RunL.orPart (dj := 24) (dp := 28) 4 rfl (fun g24 => by
    have g24' := g24
    try simp only [decide_eq_true_eq, decide_eq_false_iff_not, Bool.not_eq_true', Bool.not_eq_false', Bool.and_eq_true, Bool.or_eq_true, Bool.and_eq_false_iff, Bool.or_eq_false_iff, Int.not_le, Int.not_lt] at g24'
    refine RunL.val (Val.pure rfl) rfl rfl rfl ?_
    refine RunL.val (Val.len_sl rfl sl_47) rfl rfl rfl ?_
    refine RunL.val (Val.pure rfl) rfl rfl rfl ?_
    refine RunL.val (Val.pure rfl) rfl rfl rfl ?_
    exact RunL.segEnd (Sub.cons rfl (Sub.skip rfl (Sub.skip rfl (Sub.skip rfl (Sub.skip rfl (Sub.same rfl (by rw [g24]) (Sub.refl _))))))) (List.Sublist.refl _)
  ) (fun g24 => by
    have g24' := g24
    try simp only [decide_eq_true_eq, decide_eq_false_iff_not, Bool.not_eq_true', Bool.not_eq_false', Bool.and_eq_true, Bool.or_eq_true, Bool.and_eq_false_iff, Bool.or_eq_false_iff, Int.not_le, Int.not_lt] at g24'
    iterate 3 refine RunL.no rfl rfl rfl ?_
    refine RunL.val (Val.pure rfl) rfl rfl rfl ?_
    exact RunL.segEnd (Sub.cons rfl (Sub.skip rfl (Sub.skip rfl (Sub.skip rfl (Sub.skip rfl (Sub.same rfl (by rw [g24]) (Sub.refl _))))))) (List.Sublist.refl _)
  ) ?_
  refine RunL.nil ?_
  refine RunE.next ?_
  refine RunC.cond rfl (fun h => absurd h (by simp [hf, List.length_pos_iff.1 hy])) ?_
  intro c0
  clear c0
  refine RunC.skip ?_
  refine RunE.next ?_
  refine RunC.seq ?_
  refine RunC.region ?_
  refine RunL.val (Val.load_agg rfl (.head _) ty_25 rfl) rfl rfl rfl ?_
  refine RunL.callP (isCall_func rfl ent_23) rfl rfl rfl (fun w hm => (by have h9 := first_err m hsm w (hM.mono0 hm) (by rw [hw]; decide); rw [hw] at h9; exact h9)) ?_
  iterate 5 refine RunL.val (Val.pure rfl) rfl rfl rfl ?_
  refine RunL.nil ?_
  refine RunE.next ?_
  refine RunC.seq ?_
  refine RunC.region ?_
  refine RunL.val (Val.load_agg rfl (.head _) ty_25 rfl) rfl rfl rfl ?_
  refine RunL.callP (isCall_func rfl ent_19) rfl rfl rfl (fun w hm => (by have h9 := counth_calls m hsm w (hM.mono0 hm); rw [e1] at h9; exact h9)) ?_
  iterate 5 refine RunL.val (Val.pure rfl) rfl rfl rfl ?_
  refine RunL.nil ?_
  refine RunE.next ?_
  refine RunC.seq ?_
  refine RunC.region ?_
  refine RunL.val (Val.load_agg rfl (.head _) ty_25 rfl) rfl rfl rfl ?_
  refine RunL.callP (isCall_func rfl ent_16) rfl rfl rfl (fun w hm => (by have h9 := why_calls m hsm w (hM.mono0 hm); rw [hW] at h9; exact h9)) ?_
  iterate 5 refine RunL.val (Val.pure rfl) rfl rfl rfl ?_
  refine RunL.nil ?_
  refine RunE.next ?_
  refine RunC.seq ?_
  refine RunC.seq ?_
  refine RunC.region ?_
  iterate 3 refine RunL.val (Val.pure rfl) rfl rfl rfl ?_
  refine RunL.orPart (dj := 47) (dp := 51) 4 rfl (fun g47 => by
    have g47' := g47
    try simp only [decide_eq_true_eq, decide_eq_false_iff_not, Bool.not_eq_true', Bool.not_eq_false', Bool.and_eq_true, Bool.or_eq_true, Bool.and_eq_false_iff, Bool.or_eq_false_iff, Int.not_le, Int.not_lt] at g47'
    refine RunL.val (Val.load_agg rfl (.head _) ty_25 rfl) rfl rfl rfl ?_
    refine RunL.callP (isCall_func rfl ent_33) rfl rfl rfl (fun w hm => rMixed_calls m hsm w (hM.mono0 hm)) ?_
    refine RunL.val (Val.pure rfl) rfl rfl rfl ?_
    refine RunL.val (Val.pure rfl) rfl rfl rfl ?_
    exact RunL.segEnd (Sub.cons rfl (Sub.skip rfl (Sub.skip rfl (Sub.skip rfl (Sub.skip rfl (Sub.same rfl (by rw [g47]) (Sub.refl _))))))) (List.Sublist.refl _)
  ) (fun g47 => by
    have g47' := g47
    try simp only [decide_eq_true_eq, decide_eq_false_iff_not, Bool.not_eq_true', Bool.not_eq_false', Bool.and_eq_true, Bool.or_eq_true, Bool.and_eq_false_iff, Bool.or_eq_false_iff, Int.not_le, Int.not_lt] at g47'
    iterate 3 refine RunL.no rfl rfl rfl ?_
    refine RunL.val (Val.pure rfl) rfl rfl rfl ?_
    exact RunL.segEnd (Sub.cons rfl (Sub.skip rfl (Sub.skip rfl (Sub.skip rfl (Sub.skip rfl (Sub.same rfl (by rw [g47]) (Sub.refl _))))))) (List.Sublist.refl _)
  ) ?_
  refine RunL.nil ?_
  refine RunE.next ?_
  refine RunC.cond rfl (fun h => absurd h (by simp [hX])) ?_
  intro c1
  clear c1
  refine RunC.skip ?_
  refine RunE.next ?_
  refine RunC.seq ?_
  refine RunC.seq ?_
  refine RunC.region ?_
  iterate 3 refine RunL.val (Val.pure rfl) rfl rfl rfl ?_
  refine RunL.orPart (dj := 87) (dp := 93) 6 rfl (fun g87 => by
    have g87' := g87
    try simp only [decide_eq_true_eq, decide_eq_false_iff_not, Bool.not_eq_true', Bool.not_eq_false', Bool.and_eq_true, Bool.or_eq_true, Bool.and_eq_false_iff, Bool.or_eq_false_iff, Int.not_le, Int.not_lt] at g87'
    iterate 4 refine RunL.val (Val.pure rfl) rfl rfl rfl ?_
    refine RunL.val (Val.neq_bool rfl rfl boolB_4) rfl rfl rfl ?_
    refine RunL.val (Val.pure rfl) rfl rfl rfl ?_
    exact RunL.segEnd (Sub.cons rfl (Sub.skip rfl (Sub.skip rfl (Sub.skip rfl (Sub.skip rfl (Sub.skip rfl (Sub.skip rfl (Sub.same rfl (by rw [g87]) (Sub.refl _))))))))) (List.Sublist.refl _)
  ) (fun g87 => by
    have g87' := g87
    try simp only [decide_eq_true_eq, decide_eq_false_iff_not, Bool.not_eq_true', Bool.not_eq_false', Bool.and_eq_true, Bool.or_eq_true, Bool.and_eq_false_iff, Bool.or_eq_false_iff, Int.not_le, Int.not_lt] at g87'
    iterate 5 refine RunL.no rfl rfl rfl ?_
    refine RunL.val (Val.pure rfl) rfl rfl rfl ?_
    exact RunL.segEnd (Sub.cons rfl (Sub.skip rfl (Sub.skip rfl (Sub.skip rfl (Sub.skip rfl (Sub.skip rfl (Sub.skip rfl (Sub.same rfl (by rw [g87]) (Sub.refl _))))))))) (List.Sublist.refl _)
  ) ?_
  refine RunL.val (Val.pure rfl) rfl rfl rfl ?_
  refine RunL.orPart (dj := 94) (dp := 100) 6 rfl (fun g94 => by
    have g94' := g94
    try simp only [decide_eq_true_eq, decide_eq_false_iff_not, Bool.not_eq_true', Bool.not_eq_false', Bool.and_eq_true, Bool.or_eq_true, Bool.and_eq_false_iff, Bool.or_eq_false_iff, Int.not_le, Int.not_lt] at g94'
    iterate 4 refine RunL.val (Val.pure rfl) rfl rfl rfl ?_
    refine RunL.val (Val.neq_bool rfl rfl boolB_4) rfl rfl rfl ?_
    refine RunL.val (Val.pure rfl) rfl rfl rfl ?_
    exact RunL.segEnd (Sub.cons rfl (Sub.skip rfl (Sub.skip rfl (Sub.skip rfl (Sub.skip rfl (Sub.skip rfl (Sub.skip rfl (Sub.same rfl (by rw [g94]) (Sub.refl _))))))))) (List.Sublist.refl _)
  ) (fun g94 => by
    have g94' := g94
    try simp only [decide_eq_true_eq, decide_eq_false_iff_not, Bool.not_eq_true', Bool.not_eq_false', Bool.and_eq_true, Bool.or_eq_true, Bool.and_eq_false_iff, Bool.or_eq_false_iff, Int.not_le, Int.not_lt] at g94'
    iterate 5 refine RunL.no rfl rfl rfl ?_
    refine RunL.val (Val.pure rfl) rfl rfl rfl ?_
    exact RunL.segEnd (Sub.cons rfl (Sub.skip rfl (Sub.skip rfl (Sub.skip rfl (Sub.skip rfl (Sub.skip rfl (Sub.skip rfl (Sub.same rfl (by rw [g94]) (Sub.refl _))))))))) (List.Sublist.refl _)
  ) ?_
  refine RunL.val (Val.pure rfl) rfl rfl rfl ?_
  refine RunL.orPart (dj := 101) (dp := 113) 12 rfl (fun g101 => by
    have g101' := g101
    try simp only [decide_eq_true_eq, decide_eq_false_iff_not, Bool.not_eq_true', Bool.not_eq_false', Bool.and_eq_true, Bool.or_eq_true, Bool.and_eq_false_iff, Bool.or_eq_false_iff, Int.not_le, Int.not_lt] at g101'
    iterate 3 refine RunL.val (Val.pure rfl) rfl rfl rfl ?_
    refine RunL.andPart (dj := 104) (dp := 112) 8 rfl (fun g104 => by
      have g104' := g104
      try simp only [decide_eq_true_eq, decide_eq_false_iff_not, Bool.not_eq_true', Bool.not_eq_false', Bool.and_eq_true, Bool.or_eq_true, Bool.and_eq_false_iff, Bool.or_eq_false_iff, Int.not_le, Int.not_lt] at g104'
      iterate 3 refine RunL.val (Val.pure rfl) rfl rfl rfl ?_
      refine RunL.orPart (dj := 107) (dp := 111) 4 rfl (fun g107 => by
        have g107' := g107
        try simp only [decide_eq_true_eq, decide_eq_false_iff_not, Bool.not_eq_true', Bool.not_eq_false', Bool.and_eq_true, Bool.or_eq_true, Bool.and_eq_false_iff, Bool.or_eq_false_iff, Int.not_le, Int.not_lt] at g107'
        refine RunL.val (Val.pure rfl) rfl rfl rfl ?_
        refine RunL.val (Val.len_sl rfl sl_34) rfl rfl rfl ?_
        refine RunL.val (Val.pure rfl) rfl rfl rfl ?_
        refine RunL.val (Val.pure rfl) rfl rfl rfl ?_
        exact RunL.segEnd (Sub.cons rfl (Sub.skip rfl (Sub.skip rfl (Sub.skip rfl (Sub.skip rfl (Sub.same rfl (by rw [g107]) (Sub.refl _))))))) (List.Sublist.refl _)
      ) (fun g107 => by
        have g107' := g107
        try simp only [decide_eq_true_eq, decide_eq_false_iff_not, Bool.not_eq_true', Bool.not_eq_false', Bool.and_eq_true, Bool.or_eq_true, Bool.and_eq_false_iff, Bool.or_eq_false_iff, Int.not_le, Int.not_lt] at g107'
        iterate 3 refine RunL.no rfl rfl rfl ?_
        refine RunL.val (Val.pure rfl) rfl rfl rfl ?_
        exact RunL.segEnd (Sub.cons rfl (Sub.skip rfl (Sub.skip rfl (Sub.skip rfl (Sub.skip rfl (Sub.same rfl (by rw [g107]) (Sub.refl _))))))) (List.Sublist.refl _)
      ) ?_
      refine RunL.val (Val.pure rfl) rfl rfl rfl ?_
      exact RunL.segEnd (Sub.cons rfl (Sub.skip rfl (Sub.skip rfl (Sub.skip rfl (Sub.skip rfl (Sub.skip rfl (Sub.same rfl (by rw [g104]) (Sub.refl _)))))))) (List.Sublist.refl _)
    ) (fun g104 => by
      have g104' := g104
      try simp only [decide_eq_true_eq, decide_eq_false_iff_not, Bool.not_eq_true', Bool.not_eq_false', Bool.and_eq_true, Bool.or_eq_true, Bool.and_eq_false_iff, Bool.or_eq_false_iff, Int.not_le, Int.not_lt] at g104'
      iterate 7 refine RunL.no rfl rfl rfl ?_
      refine RunL.val (Val.pure rfl) rfl rfl rfl ?_
      exact RunL.segEnd (Sub.cons rfl (Sub.skip rfl (Sub.skip rfl (Sub.skip rfl (Sub.skip rfl (Sub.skip rfl (Sub.skip rfl (Sub.skip rfl (Sub.skip rfl (Sub.same rfl (by rw [g104]) (Sub.refl _))))))))))) (List.Sublist.refl _)
    ) ?_
    refine RunL.val (Val.pure rfl) rfl rfl rfl ?_
    exact RunL.segEnd (Sub.cons rfl (Sub.skip rfl (Sub.skip rfl (Sub.skip rfl (Sub.skip rfl (Sub.skip rfl (Sub.same rfl (by rw [g101]) (Sub.refl _)))))))) (List.Sublist.refl _)
  ) (fun g101 => by
    have g101' := g101
    try simp only [decide_eq_true_eq, decide_eq_false_iff_not, Bool.not_eq_true', Bool.not_eq_false', Bool.and_eq_true, Bool.or_eq_true, Bool.and_eq_false_iff, Bool.or_eq_false_iff, Int.not_le, Int.not_lt] at g101'
    iterate 11 refine RunL.no rfl rfl rfl ?_
    refine RunL.val (Val.pure rfl) rfl rfl rfl ?_
    exact RunL.segEnd (Sub.cons rfl (Sub.skip rfl (Sub.skip rfl (Sub.skip rfl (Sub.skip rfl (Sub.skip rfl (Sub.skip rfl (Sub.skip rfl (Sub.skip rfl (Sub.skip rfl (Sub.skip rfl (Sub.skip rfl (Sub.skip rfl (Sub.same rfl (by rw [g101]) (Sub.refl _))))))))))))))) (List.Sublist.refl _)
  ) ?_
  refine RunL.val (Val.pure rfl) rfl rfl rfl ?_
  refine RunL.orPart (dj := 114) (dp := 125) 11 rfl (fun g114 => by
    have g114' := g114
    try simp only [decide_eq_true_eq, decide_eq_false_iff_not, Bool.not_eq_true', Bool.not_eq_false', Bool.and_eq_true, Bool.or_eq_true, Bool.and_eq_false_iff, Bool.or_eq_false_iff, Int.not_le, Int.not_lt] at g114'
    iterate 3 refine RunL.val (Val.pure rfl) rfl rfl rfl ?_
    refine RunL.andPart (dj := 117) (dp := 124) 7 rfl (fun g117 => by
      have g117' := g117
      try simp only [decide_eq_true_eq, decide_eq_false_iff_not, Bool.not_eq_true', Bool.not_eq_false', Bool.and_eq_true, Bool.or_eq_true, Bool.and_eq_false_iff, Bool.or_eq_false_iff, Int.not_le, Int.not_lt] at g117'
      refine RunL.val (Val.pure rfl) rfl rfl rfl ?_
      refine RunL.val (Val.len_sl rfl sl_34) rfl rfl rfl ?_
      refine RunL.val (Val.fieldAddr rfl fld_25_1) rfl rfl rfl ?_
      refine RunL.val (Val.load_one rfl (.head _) ty_23 rfl) rfl rfl rfl ?_
      refine RunL.val (Val.len_sl rfl sl_23) rfl rfl rfl ?_
      refine RunL.val (Val.pure rfl) rfl rfl rfl ?_
      refine RunL.val (Val.pure rfl) rfl rfl rfl ?_
      exact RunL.segEnd (Sub.cons rfl (Sub.skip rfl (Sub.skip rfl (Sub.skip rfl (Sub.skip rfl (Sub.skip rfl (Sub.skip rfl (Sub.skip rfl (Sub.same rfl (by rw [g117]) (Sub.refl _)))))))))) (List.Sublist.refl _)
    ) (fun g117 => by
      have g117' := g117
      try simp only [decide_eq_true_eq, decide_eq_false_iff_not, Bool.not_eq_true', Bool.not_eq_false', Bool.and_eq_true, Bool.or_eq_true, Bool.and_eq_false_iff, Bool.or_eq_false_iff, Int.not_le, Int.not_lt] at g117'
      iterate 6 refine RunL.no rfl rfl rfl ?_
      refine RunL.val (Val.pure rfl) rfl rfl rfl ?_
      exact RunL.segEnd (Sub.cons rfl (Sub.skip rfl (Sub.skip rfl (Sub.skip rfl (Sub.skip rfl (Sub.skip rfl (Sub.skip rfl (Sub.skip rfl (Sub.same rfl (by rw [g117]) (Sub.refl _)))))))))) (List.Sublist.refl _)
    ) ?_
    refine RunL.val (Val.pure rfl) rfl rfl rfl ?_
    exact RunL.segEnd (Sub.cons rfl (Sub.skip rfl (Sub.skip rfl (Sub.skip rfl (Sub.skip rfl (Sub.skip rfl (Sub.same rfl (by rw [g114]) (Sub.refl _)))))))) (List.Sublist.refl _)
  ) (fun g114 => by
    have g114' := g114
    try simp only [decide_eq_true_eq, decide_eq_false_iff_not, Bool.not_eq_true', Bool.not_eq_false', Bool.and_eq_true, Bool.or_eq_true, Bool.and_eq_false_iff, Bool.or_eq_false_iff, Int.not_le, Int.not_lt] at g114'
    iterate 10 refine RunL.no rfl rfl rfl ?_
    refine RunL.val (Val.pure rfl) rfl rfl rfl ?_
    exact RunL.segEnd (Sub.cons rfl (Sub.skip rfl (Sub.skip rfl (Sub.skip rfl (Sub.skip rfl (Sub.skip rfl (Sub.skip rfl (Sub.skip rfl (Sub.skip rfl (Sub.skip rfl (Sub.skip rfl (Sub.skip rfl (Sub.same rfl (by rw [g114]) (Sub.refl _)))))))))))))) (List.Sublist.refl _)
  ) ?_
  refine RunL.nil ?_
  refine RunE.next ?_
  refine RunC.cond rfl (fun h => absurd h (by simp)) ?_
  intro c2
  clear c2
  refine RunC.skip ?_
  refine RunE.next ?_
  refine RunC.seq ?_
  refine RunC.region ?_
  refine RunL.val (Val.load_agg rfl (.head _) ty_25 rfl) rfl rfl rfl ?_
  refine RunL.callNT (isCall_func rfl ent_34) rfl rfl rfl (fun w hm => rEntries_calls m hsm hX w (hM.mono0 hm)) (fun z127 => ?_)
  obtain ⟨x127, hx127⟩ := z127
  dsimp only
  refine RunL.val (Val.len_sl rfl sl_53) rfl rfl rfl ?_
  refine RunL.val (Val.pure rfl) rfl rfl rfl ?_
  refine RunL.nil ?_
  refine RunE.next ?_
  refine RunC.seq ?_
  refine RunC.region ?_
  refine RunL.new (New.buildSlice0 sl_34) rfl rfl rfl (fun b129 => ?_)
  iterate 3 refine RunL.val (Val.pure rfl) rfl rfl rfl ?_
  refine RunL.nil ?_
  refine RunE.next ?_
  refine RunC.seq ?_
  refine RunC.seq ?_
  refine RunC.region ?_
  refine RunL.val (Val.fieldAddr rfl fld_25_1) rfl rfl rfl ?_
  refine RunL.val (Val.load_one rfl (.tail _ (.head _)) ty_23 rfl) rfl rfl rfl ?_
  refine RunL.val (Val.len_sl rfl sl_23) rfl rfl rfl ?_
  refine RunL.val (Val.pure rfl) rfl rfl rfl ?_
  refine RunL.nil ?_
  refine RunE.next ?_
  refine RunC.block ?_
  refine RunC.loopX (X := Eng.Own × List Nat × Nat) (n0 := [(b2, _)]) (m.cards.length) (fun k x q => (133, .int .i64 (k : Int)) :: (13, .int .i64 ((x.2.2 : Nat) : Int)) :: (14, ownV x.1 x.2.1.length) :: q) (fun _ _ => _) (fun k x => []) (fun k x => ownB 3 x.1 (intsW (natI x.2.1)).flatten ++ (ownB 56 x127 ((esX m).map En.cells).flatten ++ [])) (fun k x => OwnOk 1 x.1 x.2.1.length (intsW (natI x.2.1)).flatten ∧ PW (esX m).length (fsX m.pl) x.2.1 x.2.2 ∧ x.2.1.length ≤ k) (some (b129, 0, []), [], 0) ⟨OwnOk.empty, PW.nil _ _, Nat.le_refl _⟩ rfl (Sub.consE (t := 133) rfl rfl (Sub.consE (t := 13) rfl rfl (Sub.consE (t := 14) rfl rfl (Sub.cons (t := 1) rfl (Sub.cons (t := 2) rfl (Sub.cons (t := 5) rfl (Sub.cons (t := 6) rfl (Sub.cons (t := 11) rfl (Sub.cons (t := 12) rfl (Sub.cons (t := 132) rfl (Sub.nil _))))))))))) (.cons (.there .here) rfl (Pick.same (by rfl))) ?_
  intro k x kN kI
  obtain ⟨X1, own, ot⟩ := x
  obtain ⟨hx1, hpw, hle⟩ := kI
  dsimp only at hx1 hpw hle ⊢
  refine RunC.seq ?_
  refine RunC.region ?_
  refine RunL.val (Val.pure rfl) rfl rfl rfl ?_
  refine RunL.nil ?_
  refine RunE.next ?_
  refine RunC.seq ?_
  refine RunC.cond rfl ?_ ?_
  · intro c3
    have c3' := c3; clear c3
    try simp only [decide_eq_true_eq, decide_eq_false_iff_not, Bool.not_eq_true', Bool.not_eq_false', Bool.and_eq_true, Bool.or_eq_true, Bool.and_eq_false_iff, Bool.or_eq_false_iff, Int.not_le, Int.not_lt] at c3'
    have hk : k < m.cards.length := by omega
    have hk2 : k < (fsX m.pl).length := by omega
    obtain ⟨f, hf2⟩ : ∃ f, (fsX m.pl)[k] = f := ⟨_, rfl⟩
    have hf12 := hall f (hf2 ▸ List.getElem_mem hk2)
    obtain ⟨i, hi, hil⟩ := mod_at (k := k) hy
    obtain ⟨B, hB⟩ : ∃ B, ys[i] = B := ⟨_, rfl⟩
    have hB8 : B.toNat < 256 := UInt8.toNat_lt B
    refine RunC.skip ?_
    refine RunE.next ?_
    refine RunC.seq ?_
    refine RunC.block ?_
    refine RunC.seq ?_
    refine RunC.region ?_
    refine RunL.val (Val.pure rfl) rfl rfl rfl ?_
    refine RunL.val (Val.pure rfl) rfl rfl rfl ?_
    refine RunL.nil ?_
    refine RunE.next ?_
    refine RunC.seq ?_
    refine RunC.region ?_
    refine RunL.val (Val.load_agg rfl (.head _) ty_25 rfl) rfl rfl rfl ?_
    refine RunL.val (Val.pure rfl) rfl rfl rfl ?_
    refine RunL.callP (isCall_func rfl ent_14) rfl rfl rfl (fun w hm => (by have h9 := fits_calls m hsm (k : Int) w (hM.mono0 hm); rw [fits_at hX hk2 hf2] at h9; exact h9)) ?_
    iterate 5 refine RunL.val (Val.pure rfl) rfl rfl rfl ?_
    refine RunL.nil ?_
    refine RunE.next ?_
    refine RunC.seq ?_
    refine RunC.seq ?_
    refine RunC.region ?_
    refine RunL.val (Val.pure rfl) rfl rfl rfl ?_
    refine RunL.val (Val.pure rfl) rfl rfl rfl ?_
    refine RunL.nil ?_
    refine RunE.next ?_
    refine RunC.cond rfl (fun h => absurd h (by simp)) ?_
    intro c4
    clear c4
    refine RunC.skip ?_
    refine RunE.next ?_
    refine RunC.seq ?_
    refine RunC.seq ?_
    refine RunC.region ?_
    refine RunL.val (Val.pure rfl) rfl rfl rfl ?_
    refine RunL.val (Val.pure rfl) rfl rfl rfl ?_
    refine RunL.nil ?_
    refine RunE.next ?_
    refine RunC.cond rfl (fun h => absurd h (by simp)) ?_
    intro c5
    clear c5
    refine RunC.skip ?_
    refine RunE.next ?_
    refine RunC.seq ?_
    refine RunC.region ?_
    refine RunL.val (Val.pure rfl) rfl rfl rfl ?_
    refine RunL.val (Val.pure rfl) rfl rfl rfl ?_
    refine RunL.nil ?_
    refine RunE.next ?_
    refine RunC.block ?_
    refine RunC.loopX (X := Eng.Own × List Nat × Nat) (n0 := [(b2, _)]) ((esX m).length) (fun j y q => (179, .int .i64 (j : Int)) :: (13, .int .i64 ((y.2.2 : Nat) : Int)) :: (14, ownV y.1 y.2.1.length) :: q) (fun _ _ => _) (fun j y => []) (fun j y => ownB 3 y.1 (intsW (natI y.2.1)).flatten ++ (ownB 56 x127 ((esX m).map En.cells).flatten ++ [])) (fun j y => OwnOk 1 y.1 y.2.1.length (intsW (natI y.2.1)).flatten ∧ PW (esX m).length (fsX m.pl) y.2.1 y.2.2 ∧ y.2.1.length ≤ k + 1) (X1, own, ot) ⟨hx1, hpw, Nat.le_succ_of_le hle⟩ rfl (Sub.consE (t := 179) rfl rfl (Sub.consE (t := 13) rfl rfl (Sub.consE (t := 14) rfl rfl (Sub.cons (t := 1) rfl (Sub.cons (t := 2) rfl (Sub.cons (t := 5) rfl (Sub.cons (t := 6) rfl (Sub.cons (t := 11) rfl (Sub.cons (t := 12) rfl (Sub.cons (t := 132) rfl (Sub.cons (t := 133) rfl (Sub.cons (t := 15) rfl (Sub.cons (t := 16) rfl (Sub.cons (t := 178) rfl (Sub.nil _))))))))))))))) (.cons .here rfl (Pick.same rfl)) ?_
    intro j y jN jI
    obtain ⟨Y1, own2, ot2⟩ := y
    obtain ⟨hy1, hpw2, hle2⟩ := jI
    dsimp only at hy1 hpw2 hle2 ⊢
    refine RunC.seq ?_
    refine RunC.region ?_
    refine RunL.val (Val.pure rfl) rfl rfl rfl ?_
    refine RunL.nil ?_
    refine RunE.next ?_
    refine RunC.seq ?_
    refine RunC.cond rfl ?_ ?_
    · intro c7
      have c7' := c7; clear c7
      try simp only [decide_eq_true_eq, decide_eq_false_iff_not, Bool.not_eq_true', Bool.not_eq_false', Bool.and_eq_true, Bool.or_eq_true, Bool.and_eq_false_iff, Bool.or_eq_false_iff, Int.not_le, Int.not_lt] at c7'
      have hj : j < (esX m).length := by omega
      obtain ⟨J, hJ, hJl⟩ := mod_at (k := B.toNat + j) (show 0 < (esX m).length by omega)
      have hsk := Nat.shiftRight_le f J
      have hand := Nat.and_le_right (n := f >>> J) (m := 1)
      have hsk2 := Nat.shiftRight_le ot2 J
      have hand2 := Nat.and_le_right (n := ot2 >>> J) (m := 1)
      have hot2 := hpw2.lt
      have h2J : 2 ^ J < 2 ^ 12 := Nat.pow_lt_pow_right (by decide) (by omega)
      have hor := Nat.or_lt_two_pow hot2 h2J
      refine RunC.skip ?_
      refine RunE.next ?_
      refine RunC.seq ?_
      refine RunC.block ?_
      refine RunC.seq ?_
      refine RunC.region ?_
      refine RunL.val (Val.pure rfl) rfl rfl rfl ?_
      refine RunL.val (Val.pure rfl) rfl rfl rfl ?_
      refine RunL.nil ?_
      refine RunE.next ?_
      refine RunC.seq ?_
      refine RunC.region ?_
      iterate 3 refine RunL.val (Val.pure rfl) rfl rfl rfl ?_
      refine RunL.val (Val.len_sl rfl sl_47) rfl rfl rfl ?_
      refine RunL.val (Val.remN (a := k) (b := ys.length) rfl rfl hy) rfl rfl rfl ?_
      rw [hi]
      refine RunL.val (Val.indexAddr_slp rfl rfl sl_47 (by omega) (by omega) (hS.ptrM hil)) rfl rfl rfl ?_
      refine RunL.val (Val.load_gen rfl (fun w hm => hS.loadM1 (by decide) hm (by simp) ty_5 hil (v := byteV B) (by simp [hB]))) rfl rfl rfl ?_
      refine RunL.val (Val.convInt rfl und_5 und_3 (IntWalk.i64_in _ ⟨by omega, by omega⟩)) rfl rfl rfl ?_
      refine RunL.val (Val.pure rfl) rfl rfl rfl ?_
      refine RunL.val (Val.addN (a := B.toNat) (b := j) (B.toNat + j) rfl rfl rfl (i64_inN (by omega))) rfl rfl rfl ?_
      refine RunL.val (Val.pure rfl) rfl rfl rfl ?_
      refine RunL.val (Val.remN (a := B.toNat + j) (b := (esX m).length) rfl rfl (by omega)) rfl rfl rfl ?_
      refine RunL.val (Val.pure rfl) rfl rfl rfl ?_
      refine RunL.nil ?_
      refine RunE.next ?_
      refine RunC.seq ?_
      refine RunC.region ?_
      rw [hJ]
      refine RunL.val (Val.pure rfl) rfl rfl rfl ?_
      refine RunL.val (Val.len_own rfl sl_34 hy1) rfl rfl rfl ?_
      iterate 3 refine RunL.val (Val.pure rfl) rfl rfl rfl ?_
      refine RunL.andPart (dj := 198) (dp := 204) 6 rfl (fun g198 => by
        have g198' := g198
        try simp only [decide_eq_true_eq, decide_eq_false_iff_not, Bool.not_eq_true', Bool.not_eq_false', Bool.and_eq_true, Bool.or_eq_true, Bool.and_eq_false_iff, Bool.or_eq_false_iff, Int.not_le, Int.not_lt] at g198'
        refine RunL.val (Val.pure rfl) rfl rfl rfl ?_
        refine RunL.val (Val.pure rfl) rfl rfl rfl ?_
        refine RunL.val (Val.shrN (a := f) (b := J) rfl rfl (by show J ≤ 64; omega)) rfl rfl rfl ?_
        refine RunL.val (Val.and (a := f >>> J) (b := 1) rfl rfl (by show _ < 18446744073709551616; omega) (by decide) (i64_inN (by omega))) rfl rfl rfl ?_
        refine RunL.val (Val.pure rfl) rfl rfl rfl ?_
        refine RunL.val (Val.pure rfl) rfl rfl rfl ?_
        exact RunL.segEnd (Sub.cons rfl (Sub.skip rfl (Sub.skip rfl (Sub.skip rfl (Sub.skip rfl (Sub.skip rfl (Sub.skip rfl (Sub.same rfl (by rw [g198]) (Sub.refl _))))))))) (List.Sublist.refl _)
      ) (fun g198 => by
        have g198' := g198
        try simp only [decide_eq_true_eq, decide_eq_false_iff_not, Bool.not_eq_true', Bool.not_eq_false', Bool.and_eq_true, Bool.or_eq_true, Bool.and_eq_false_iff, Bool.or_eq_false_iff, Int.not_le, Int.not_lt] at g198'
        iterate 5 refine RunL.no rfl rfl rfl ?_
        refine RunL.val (Val.pure rfl) rfl rfl rfl ?_
        exact RunL.segEnd (Sub.cons rfl (Sub.skip rfl (Sub.skip rfl (Sub.skip rfl (Sub.skip rfl (Sub.skip rfl (Sub.skip rfl (Sub.same rfl (by rw [g198]) (Sub.refl _))))))))) (List.Sublist.refl _)
      ) ?_
      refine RunL.val (Val.pure rfl) rfl rfl rfl ?_
      refine RunL.andPart (dj := 205) (dp := 211) 6 rfl (fun g205 => by
        have g205' := g205
        try simp only [decide_eq_true_eq, decide_eq_false_iff_not, Bool.not_eq_true', Bool.not_eq_false', Bool.and_eq_true, Bool.or_eq_true, Bool.and_eq_false_iff, Bool.or_eq_false_iff, Int.not_le, Int.not_lt] at g205'
        refine RunL.val (Val.pure rfl) rfl rfl rfl ?_
        refine RunL.val (Val.pure rfl) rfl rfl rfl ?_
        refine RunL.val (Val.shrN (a := ot2) (b := J) rfl rfl (by show J ≤ 64; omega)) rfl rfl rfl ?_
        refine RunL.val (Val.and (a := ot2 >>> J) (b := 1) rfl rfl (by show _ < 18446744073709551616; omega) (by decide) (i64_inN (by omega))) rfl rfl rfl ?_
        refine RunL.val (Val.pure rfl) rfl rfl rfl ?_
        refine RunL.val (Val.pure rfl) rfl rfl rfl ?_
        exact RunL.segEnd (Sub.cons rfl (Sub.skip rfl (Sub.skip rfl (Sub.skip rfl (Sub.skip rfl (Sub.skip rfl (Sub.skip rfl (Sub.same rfl (by rw [g205]) (Sub.refl _))))))))) (List.Sublist.refl _)
      ) (fun g205 => by
        have g205' := g205
        try simp only [decide_eq_true_eq, decide_eq_false_iff_not, Bool.not_eq_true', Bool.not_eq_false', Bool.and_eq_true, Bool.or_eq_true, Bool.and_eq_false_iff, Bool.or_eq_false_iff, Int.not_le, Int.not_lt] at g205'
        iterate 5 refine RunL.no rfl rfl rfl ?_
        refine RunL.val (Val.pure rfl) rfl rfl rfl ?_
        exact RunL.segEnd (Sub.cons rfl (Sub.skip rfl (Sub.skip rfl (Sub.skip rfl (Sub.skip rfl (Sub.skip rfl (Sub.skip rfl (Sub.same rfl (by rw [g205]) (Sub.refl _))))))))) (List.Sublist.refl _)
      ) ?_
      refine RunL.nil ?_
      refine RunE.next ?_
      refine RunC.cond rfl ?_ ?_
      · intro c8
        have c8' := c8; clear c8
        try simp only [decide_eq_true_eq, decide_eq_false_iff_not, Bool.not_eq_true', Bool.not_eq_false', Bool.and_eq_true, Bool.or_eq_true, Bool.and_eq_false_iff, Bool.or_eq_false_iff, Int.not_le, Int.not_lt] at c8'
        obtain ⟨⟨g1, g2⟩, g3⟩ := c8'
        have g1 : own2.length = k := by omega
        subst g1
        have hpw3 := hpw2.snoc hk2 hf2 hJl h12 (bit_yes g2) (bit_no0 g3)
        refine RunC.drawX (X := Eng.Own) 9 (n0 := [(b2, _)]) (fun z q => (14, ownV z (own2.length + 1)) :: (13, .int .i64 ((ot2 ||| 2 ^ J : Nat) : Int)) :: q) (fun z => []) (fun z => []) (fun z => ownB 3 z (intsW (natI (own2 ++ [J]))).flatten ++ (ownB 56 x127 ((esX m).map En.cells).flatten ++ [])) (fun z => OwnOk 1 z (own2.length + 1) (intsW (natI (own2 ++ [J]))).flatten) fol_ (.cons .here rfl .nil) (Sub.cons (t := 1) rfl (Sub.cons (t := 2) rfl (Sub.cons (t := 5) rfl (Sub.cons (t := 6) rfl (Sub.cons (t := 11) rfl (Sub.cons (t := 12) rfl (Sub.cons (t := 132) rfl (Sub.cons (t := 133) rfl (Sub.cons (t := 15) rfl (Sub.cons (t := 16) rfl (Sub.cons (t := 178) rfl (Sub.cons (t := 179) rfl (Sub.nil _))))))))))))) (.cons .here rfl .nil) ?_ ?_
        · refine RunA.val (i := 0) rfl (by kernel_rfl) (by kernel_rfl) (Val.pure rfl) rfl rfl rfl (fun _ _ _ h => h) (.cons .here rfl .nil) rfl ?_
          refine RunA.val (i := 1) rfl (by kernel_rfl) (by kernel_rfl) (Val.pure rfl) rfl rfl rfl (fun _ _ _ h => h) (.cons .here rfl .nil) rfl ?_
          refine RunA.val (i := 4) rfl (by kernel_rfl) (by kernel_rfl) (Val.pure rfl) rfl rfl rfl (fun _ _ _ h => h) (.cons .here rfl .nil) rfl ?_
          refine RunA.val (i := 5) rfl (by kernel_rfl) (by kernel_rfl) (Val.pure rfl) rfl rfl rfl (fun _ _ _ h => h) (.cons .here rfl .nil) rfl ?_
          refine RunA.val (i := 6) rfl (by kernel_rfl) (by kernel_rfl) (Val.shl1 (b := J) rfl rfl (by show J ≤ 64; omega) (i64_inN (by omega))) rfl rfl rfl (fun _ _ _ h => h) (.cons .here rfl .nil) rfl ?_
          refine RunA.val (i := 7) rfl (by kernel_rfl) (by kernel_rfl) (Val.or (a := ot2) (b := 2 ^ J) rfl rfl (by show _ < 18446744073709551616; omega) (by show _ < 18446744073709551616; omega) (i64_inN (by omega))) rfl rfl rfl (fun _ _ _ h => h) (.cons .here rfl .nil) rfl ?_
          refine RunA.one (i := 2) (by kernel_rfl) (by kernel_rfl) ?_
          refine RunI.new rfl (New.buildSlice (parts := [(0, .tmp 213)]) rfl sl_34 zero_3 rfl rfl rfl rfl) rfl rfl rfl (fun b214 => (RunK.toA (.cons .here rfl (.cons .here rfl .nil)) (.cons (.there .here) rfl .nil) rfl ?_))
          refine RunA.one (i := 3) (by kernel_rfl) (by kernel_rfl) ?_
          refine RunI.append (A := [(b214, _), (b2, _)]) (B := _) (x := Y1) (ys := [.int .i64 (J : Int)]) rfl ap_34 rfl rfl rfl hy1 rfl (fun h => by cases h) (fun w hm => src_blk (hm.at (.head _))) (one_of rfl) (by simp only [maxLen]; omega) (by omega) rfl (fun z215 hz215 => (RunK.toA (.cons .here rfl (.cons .here rfl .nil)) (.cons .here rfl (.cons .here rfl .nil)) rfl ?_))
          refine RunA.val (i := 8) rfl (by kernel_rfl) (by kernel_rfl) (Val.pure rfl) rfl rfl rfl (fun _ _ _ h => h) (.cons .here rfl (.cons .here rfl .nil)) rfl ?_
          refine RunA.toB (by kernel_rfl) ?_
          refine RunB.one (i := 9) (by kernel_rfl) ?_
          refine RunI.val rfl (Val.pure rfl) rfl rfl rfl (RunK.toB ?_)
          refine RunB.done (by kernel_rfl) ?_
          exact RunE.joinX z215 (by rw [nat_snoc]; exact hz215) rfl (Sub.consE (t := 14) rfl rfl (Sub.consE (t := 13) rfl rfl (Sub.cons (t := 1) rfl (Sub.cons (t := 2) rfl (Sub.cons (t := 5) rfl (Sub.cons (t := 6) rfl (Sub.cons (t := 11) rfl (Sub.cons (t := 12) rfl (Sub.cons (t := 132) rfl (Sub.cons (t := 133) rfl (Sub.cons (t := 15) rfl (Sub.cons (t := 16) rfl (Sub.cons (t := 178) rfl (Sub.cons (t := 179) rfl (Sub.nil _))))))))))))))) (.cons (.there .here) rfl (Pick.skip (Pick.same (by rw [nat_snoc]))))
        · intro z zI
          have hx1 := zI
          refine RunE.block_normal ?_
          refine RunE.next ?_
          refine RunC.region ?_
          refine RunL.val (Val.add rfl rfl (IntWalk.i64_in _ ⟨by omega, by omega⟩)) rfl rfl rfl ?_
          refine RunL.val (Val.pure rfl) rfl rfl rfl ?_
          refine RunL.nil ?_
          exact RunE.roundX (z, own2 ++ [J], ot2 ||| 2 ^ J) (by omega) ⟨(by rw [List.length_append]; exact hx1), hpw3, (by simp)⟩ rfl (Sub.consE (t := 179) rfl rfl (Sub.consE (t := 13) rfl rfl (Sub.consE (t := 14) rfl (by first | rfl | simp) (Sub.cons (t := 1) rfl (Sub.cons (t := 2) rfl (Sub.cons (t := 5) rfl (Sub.cons (t := 6) rfl (Sub.cons (t := 11) rfl (Sub.cons (t := 12) rfl (Sub.cons (t := 132) rfl (Sub.cons (t := 133) rfl (Sub.cons (t := 15) rfl (Sub.cons (t := 16) rfl (Sub.cons (t := 178) rfl (Sub.nil _))))))))))))))) (.cons .here rfl (Pick.refl _))
      · intro c8
        have c8' := c8; clear c8
        try simp only [decide_eq_true_eq, decide_eq_false_iff_not, Bool.not_eq_true', Bool.not_eq_false', Bool.and_eq_true, Bool.or_eq_true, Bool.and_eq_false_iff, Bool.or_eq_false_iff, Int.not_le, Int.not_lt] at c8'
        refine RunC.skip ?_
        refine RunE.block_normal ?_
        refine RunE.next ?_
        refine RunC.region ?_
        refine RunL.val (Val.add rfl rfl (IntWalk.i64_in _ ⟨by omega, by omega⟩)) rfl rfl rfl ?_
        refine RunL.val (Val.pure rfl) rfl rfl rfl ?_
        refine RunL.nil ?_
        exact RunE.roundX (Y1, own2, ot2) (by omega) ⟨hy1, hpw2, hle2⟩ rfl (Sub.consE (t := 179) rfl rfl (Sub.consE (t := 13) rfl rfl (Sub.consE (t := 14) rfl (by first | rfl | simp) (Sub.cons (t := 1) rfl (Sub.cons (t := 2) rfl (Sub.cons (t := 5) rfl (Sub.cons (t := 6) rfl (Sub.cons (t := 11) rfl (Sub.cons (t := 12) rfl (Sub.cons (t := 132) rfl (Sub.cons (t := 133) rfl (Sub.cons (t := 15) rfl (Sub.cons (t := 16) rfl (Sub.cons (t := 178) rfl (Sub.nil _))))))))))))))) (.cons .here rfl (Pick.refl _))
    · intro c7
      have c7' := c7; clear c7
      try simp only [decide_eq_true_eq, decide_eq_false_iff_not, Bool.not_eq_true', Bool.not_eq_false', Bool.and_eq_true, Bool.or_eq_true, Bool.and_eq_false_iff, Bool.or_eq_false_iff, Int.not_le, Int.not_lt] at c7'
      refine RunC.exit ?_
      refine RunE.pass_exit ?_
      refine RunE.pass_exit ?_
      refine RunE.block_here ?_
      refine RunE.block_normal ?_
      refine RunE.next ?_
      refine RunC.region ?_
      refine RunL.val (Val.add rfl rfl (IntWalk.i64_in _ ⟨by omega, by omega⟩)) rfl rfl rfl ?_
      refine RunL.val (Val.pure rfl) rfl rfl rfl ?_
      refine RunL.nil ?_
      exact RunE.roundX (Y1, own2, ot2) (by omega) ⟨hy1, hpw2, hle2⟩ rfl (Sub.consE (t := 133) rfl rfl (Sub.consE (t := 13) rfl rfl (Sub.consE (t := 14) rfl rfl (Sub.cons (t := 1) rfl (Sub.cons (t := 2) rfl (Sub.cons (t := 5) rfl (Sub.cons (t := 6) rfl (Sub.cons (t := 11) rfl (Sub.cons (t := 12) rfl (Sub.cons (t := 132) rfl (Sub.nil _))))))))))) (.cons .here rfl (Pick.refl _))
  · intro c3
    have c3' := c3; clear c3
    try simp only [decide_eq_true_eq, decide_eq_false_iff_not, Bool.not_eq_true', Bool.not_eq_false', Bool.and_eq_true, Bool.or_eq_true, Bool.and_eq_false_iff, Bool.or_eq_false_iff, Int.not_le, Int.not_lt] at c3'
    have hkn : k = m.cards.length := by omega
    refine RunC.exit ?_
    refine RunE.pass_exit ?_
    refine RunE.pass_exit ?_
    refine RunE.block_here ?_
    refine RunE.next ?_
    refine RunC.seq ?_
    refine RunC.seq ?_
    refine RunC.region ?_
    refine RunL.val (Val.pure rfl) rfl rfl rfl ?_
    refine RunL.val (Val.len_own rfl sl_34 hx1) rfl rfl rfl ?_
    refine RunL.val (Val.fieldAddr rfl fld_25_1) rfl rfl rfl ?_
    refine RunL.val (Val.load_one rfl (.head _) ty_23 rfl) rfl rfl rfl ?_
    refine RunL.val (Val.len_sl rfl sl_23) rfl rfl rfl ?_
    refine RunL.val (Val.pure rfl) rfl rfl rfl ?_
    refine RunL.nil ?_
    refine RunE.next ?_
    refine RunC.cond rfl ?_ (fun h => absurd h (by have h9 := hno _ _ hpw; simp; omega))
    intro c9
    clear c9
    refine RunC.seq ?_
    refine RunC.region ?_
    refine RunL.callP (isCall_func rfl ent_13) rfl rfl rfl (fun w hm => hawake_calls w) ?_
    refine RunL.val (Val.pure rfl) rfl rfl rfl ?_
    refine RunL.nil ?_
    refine RunE.next ?_
    refine RunC.ret ?_
    refine RunE.pass_ret ?_
    exact RunE.retP (.r1 rfl (.tmp rfl)) (by first | rfl | simp)
end Go.Proofs.YtlhdalcipflblaaDoor
/- The facts on the tables of types and on the entries of functions that the walks use. Written by program. -/
set_option linter.unusedSimpArgs false
set_option linter.unusedVariables false
namespace Go.Proofs.YtlhdalcipflblaaDoor
open Go Go.Eng

end Go.Proofs.YtlhdalcipflblaaDoor
/- The facts on the tables of types and on the entries of functions that the walks use. Written by program. -/
set_option linter.unusedSimpArgs false
set_option linter.unusedVariables false
namespace Go.Proofs.YtlhdalcipflblaaDoor
open Go Go.Eng

end Go.Proofs.YtlhdalcipflblaaDoor
/- The facts on the tables of types and on the entries of functions that the walks use. Written by program. -/
set_option linter.unusedSimpArgs false
set_option linter.unusedVariables false
namespace Go.Proofs.YtlhdalcipflblaaDoor
open Go Go.Eng

end Go.Proofs.YtlhdalcipflblaaDoor
/- The facts on the tables of types and on the entries of functions that the walks use. Written by program. -/
set_option linter.unusedSimpArgs false
set_option linter.unusedVariables false
namespace Go.Proofs.YtlhdalcipflblaaDoor
open Go Go.Eng

end Go.Proofs.YtlhdalcipflblaaDoor
/- The facts on the tables of types and on the entries of functions that the walks use. Written by program. -/
set_option linter.unusedSimpArgs false
set_option linter.unusedVariables false
namespace Go.Proofs.YtlhdalcipflblaaDoor
open Go Go.Eng
theorem ent_41 : Enters Tryd.prog 41 := enters_of Tryd.func41 (by kernel_rfl) rfl
theorem ent_43 : Enters Tryd.prog 43 := enters_of Tryd.func43 (by kernel_rfl) rfl
theorem ent_50 : Enters Tryd.prog 50 := enters_of Tryd.func50 (by kernel_rfl) rfl
theorem ent_67 : Enters Tryd.prog 67 := enters_of Tryd.func67 (by kernel_rfl) rfl
theorem fld_56_0 : fieldB Tryd.prog 56 0 = some 0 := by kernel_rfl
theorem fld_56_1 : fieldB Tryd.prog 56 1 = some 1 := by kernel_rfl
theorem fld_56_2 : fieldB Tryd.prog 56 2 = some 2 := by kernel_rfl
theorem ty_56 : tyB Tryd.prog 56 = some (true, 3) := by kernel_rfl
end Go.Proofs.YtlhdalcipflblaaDoor
/- The facts on the tables of types and on the entries of functions that the walks use. Written by program. -/
set_option linter.unusedSimpArgs false
set_option linter.unusedVariables false
namespace Go.Proofs.YtlhdalcipflblaaDoor
open Go Go.Eng
theorem ent_15 : Enters Tryd.prog 15 := enters_of Tryd.func15 (by kernel_rfl) rfl
theorem ent_17 : Enters Tryd.prog 17 := enters_of Tryd.func17 (by kernel_rfl) rfl
theorem ent_49 : Enters Tryd.prog 49 := enters_of Tryd.func49 (by kernel_rfl) rfl
end Go.Proofs.YtlhdalcipflblaaDoor
/- The facts on the tables of types and on the entries of functions that the walks use. Written by program. -/
set_option linter.unusedSimpArgs false
set_option linter.unusedVariables false
namespace Go.Proofs.YtlhdalcipflblaaDoor
open Go Go.Eng
theorem eqB_56 : aggB Tryd.prog 56 = true := by kernel_rfl
theorem kl_56 (a0 : Int) (a1 : ByteArray) (a2 : ByteArray) (c0 : Int) (c1 : ByteArray) (c2 : ByteArray) : eqF Tryd.prog 8 56 [.int .i64 a0, .string a1, .string a2] [.int .i64 c0, .string c1, .string c2] = some (decide (a0 = c0) && ((a1.toList == c1.toList) && ((a2.toList == c2.toList) && true))) := by kernel_rfl
end Go.Proofs.YtlhdalcipflblaaDoor
/- The facts on the tables of types and on the entries of functions that the walks use. Written by program. -/
set_option linter.unusedSimpArgs false
set_option linter.unusedVariables false
namespace Go.Proofs.YtlhdalcipflblaaDoor
open Go Go.Eng
theorem sl_41 : slB Tryd.prog 41 = some (92, 1) := by kernel_rfl
theorem ty_41 : tyB Tryd.prog 41 = some (false, 1) := by kernel_rfl
theorem ty_92 : tyB Tryd.prog 92 = some (false, 1) := by kernel_rfl
theorem und_92 : Tryd.prog.underlying 92 = some (.int .u16) := by kernel_rfl
end Go.Proofs.YtlhdalcipflblaaDoor
/- The facts on the tables of types and on the entries of functions that the walks use. Written by program. -/
set_option linter.unusedSimpArgs false
set_option linter.unusedVariables false
namespace Go.Proofs.YtlhdalcipflblaaDoor
open Go Go.Eng
theorem ent_59 : Enters Tryd.prog 59 := enters_of Tryd.func59 (by kernel_rfl) rfl
end Go.Proofs.YtlhdalcipflblaaDoor
/- The facts on the tables of types and on the entries of functions that the walks use. Written by program. -/
set_option linter.unusedSimpArgs false
set_option linter.unusedVariables false
namespace Go.Proofs.YtlhdalcipflblaaDoor
open Go Go.Eng
theorem ap_22 : apB Tryd.prog 22 = some (46, 2, 32) := by kernel_rfl
theorem ap_44 : apB Tryd.prog 44 = some (9, 1, 16) := by kernel_rfl
theorem ent_30 : Enters Tryd.prog 30 := enters_of Tryd.func30 (by kernel_rfl) rfl
theorem ent_32 : Enters Tryd.prog 32 := enters_of Tryd.func32 (by kernel_rfl) rfl
theorem zero_5 : zeroB Tryd.prog 5 = some [.int .u8 0] := by kernel_rfl
end Go.Proofs.YtlhdalcipflblaaDoor
/- The facts on the tables of types and on the entries of functions that the walks use. Written by program. -/
set_option linter.unusedSimpArgs false
set_option linter.unusedVariables false
namespace Go.Proofs.YtlhdalcipflblaaDoor
open Go Go.Eng

end Go.Proofs.YtlhdalcipflblaaDoor
/- Walks of the reference of layer 10: has; plain: its ways in order. -/
set_option linter.unusedSimpArgs false
set_option linter.unusedVariables false
namespace Go.Hp
open Go Go.Eng Go.Pw1
/-- The ways that begin so, in the reference's order. -/
def waysB (ne : Nat) (fs : List Nat) (begin : List Nat) (u : Nat) : List (List Nat) := (waysL ne (fs.drop begin.length) u).map (begin ++ ·)
theorem waysB_end {ne : Nat} {fs begin : List Nat} {u : Nat} (h : begin.length = fs.length) : waysB ne fs begin u = [begin] := by
  unfold waysB
  rw [h, List.drop_length]
  simp [waysL]
/-- The entries below one that are looked at. -/
def waysK (ne : Nat) (fs begin : List Nat) (u f i : Nat) : List (List Nat) := (List.range i).flatMap fun i => if free f u i then waysB ne fs (begin ++ [i]) (u ||| 2 ^ i) else []
theorem waysK_s (ne : Nat) (fs begin : List Nat) (u f i : Nat) : waysK ne fs begin u f (i + 1) = waysK ne fs begin u f i ++ (if free f u i then waysB ne fs (begin ++ [i]) (u ||| 2 ^ i) else []) := by
  unfold waysK
  rw [List.range_succ, List.flatMap_append]
  simp
theorem waysB_next {ne : Nat} {fs begin : List Nat} {u f : Nat} (h : begin.length < fs.length) (hf : fs.getD begin.length 0 = f) : waysB ne fs begin u = waysK ne fs begin u f ne := by
  have h1 : fs.drop begin.length = f :: fs.drop (begin.length + 1) := by
    rw [List.drop_eq_getElem_cons h]
    rw [List.getD_eq_getElem?_getD, List.getElem?_eq_getElem h] at hf
    rw [← hf]; rfl
  unfold waysB waysK
  rw [h1]
  simp only [waysL, List.map_flatMap]
  refine congrArg (fun g => (List.range ne).flatMap g) (funext fun i => ?_)
  split
  · unfold waysB
    rw [List.map_map, List.length_append]
    refine List.map_congr_left fun l _ => ?_
    simp
  · rfl
theorem waysK_mono {ne : Nat} {fs begin : List Nat} {u f i : Nat} : ∀ d, (waysK ne fs begin u f i).length ≤ (waysK ne fs begin u f (i + d)).length
  | 0 => Nat.le_refl _
  | d + 1 => by
    have := waysK_mono (ne := ne) (fs := fs) (begin := begin) (u := u) (f := f) (i := i) d
    rw [← Nat.add_assoc, waysK_s, List.length_append]
    omega
theorem waysK_le {ne : Nat} {fs begin : List Nat} {u f i : Nat} (h : i < ne) (hf : free f u i = true) : (waysK ne fs begin u f i).length + (waysB ne fs (begin ++ [i]) (u ||| 2 ^ i)).length ≤ (waysK ne fs begin u f ne).length := by
  have h1 := waysK_mono (ne := ne) (fs := fs) (begin := begin) (u := u) (f := f) (i := i + 1) (ne - (i + 1))
  rw [show i + 1 + (ne - (i + 1)) = ne by omega, waysK_s, if_pos hf, List.length_append] at h1
  exact h1
theorem bits_snoc {u p : Nat} {l : List Nat} (h : ∀ x, u.testBit x = decide (x ∈ l)) : ∀ x, (u ||| 2 ^ p).testBit x = decide (x ∈ l ++ [p]) := fun x => by
  rw [bit_add, h]
  by_cases e : p = x
  · subst e; simp
  · have e2 : ¬ x = p := fun h => e h.symm
    simp [e, e2]
theorem waysB_nil (ne : Nat) (fs : List Nat) : waysB ne fs [] 0 = waysL ne fs 0 := by
  unfold waysB
  simp
end Go.Hp
namespace Go.Proofs.YtlhdalcipflblaaDoor
open Go Go.Eng Go.Hp Go.Pw1

theorem rhas_calls (l : List Nat) (hl : l.length ≤ 1000) (x : Nat) (q : Option Addr) (b o cap : Nat) (W : World) (hS : Sl W q b o 1 (intsW (natI l))) : Calls Tryd.prog 58 #[.slice q l.length cap, .int .i64 (x : Int)] W (Pure (.bool (decide (x ∈ l))) W) := by
  refine calls_start Tryd.func58 rfl rfl ?_
  refine RunC.seq ?_
  refine RunC.region ?_
  refine RunL.val (Val.pure rfl) rfl rfl rfl ?_
  refine RunL.nil ?_
  refine RunE.next ?_
  refine RunC.seq ?_
  refine RunC.seq ?_
  refine RunC.region ?_
  refine RunL.val (Val.pure rfl) rfl rfl rfl ?_
  refine RunL.nil ?_
  refine RunE.next ?_
  refine RunC.block ?_
  refine RunC.loopK (l.length) (fun k q => (5, .int .i64 (k : Int)) :: q) (fun _ => _) (fun _ => []) (fun k => ∀ j (h : j < l.length), j < k → l[j] ≠ x) (fun j _ h => absurd h (by omega)) rfl (Sub.consE (t := 5) rfl rfl (Sub.cons (t := 0) rfl (Sub.cons (t := 1) rfl (Sub.nil _)))) .nil ?_
  intro k kN kI
  refine RunC.seq ?_
  refine RunC.seq ?_
  refine RunC.region ?_
  refine RunL.val (Val.pure rfl) rfl rfl rfl ?_
  refine RunL.val (Val.pure rfl) rfl rfl rfl ?_
  refine RunL.val (Val.len_sl rfl sl_34) rfl rfl rfl ?_
  refine RunL.val (Val.pure rfl) rfl rfl rfl ?_
  refine RunL.nil ?_
  refine RunE.next ?_
  refine RunC.cond rfl ?_ ?_
  · intro c0
    have c0' := c0; clear c0
    try simp only [decide_eq_true_eq, decide_eq_false_iff_not, Bool.not_eq_true', Bool.not_eq_false', Bool.and_eq_true, Bool.or_eq_true, Bool.and_eq_false_iff, Bool.or_eq_false_iff, Int.not_le, Int.not_lt] at c0'
    have hk : k < l.length := by omega
    obtain ⟨y, hy⟩ : ∃ y, l[k] = y := ⟨_, rfl⟩
    refine RunC.skip ?_
    refine RunE.next ?_
    refine RunC.seq ?_
    refine RunC.block ?_
    refine RunC.seq ?_
    refine RunC.region ?_
    refine RunL.val (Val.pure rfl) rfl rfl rfl ?_
    refine RunL.val (Val.pure rfl) rfl rfl rfl ?_
    refine RunL.val (Val.indexAddr_slp rfl rfl sl_34 (by omega) (by omega) (hS.ptrM (by rw [natI_len]; exact hk))) rfl rfl rfl ?_
    refine RunL.val (Val.load_gen rfl (fun w hm => hS.loadM1 (by decide) hm (by simp) ty_3 (by rw [natI_len]; exact hk) (v := .int .i64 (y : Int)) (by simp [natI, hy]))) rfl rfl rfl ?_
    refine RunL.val (Val.pure rfl) rfl rfl rfl ?_
    refine RunL.val (Val.pure rfl) rfl rfl rfl ?_
    refine RunL.nil ?_
    refine RunE.next ?_
    refine RunC.cond rfl ?_ ?_
    · intro c1
      have c1' := c1; clear c1
      try simp only [decide_eq_true_eq, decide_eq_false_iff_not, Bool.not_eq_true', Bool.not_eq_false', Bool.and_eq_true, Bool.or_eq_true, Bool.and_eq_false_iff, Bool.or_eq_false_iff, Int.not_le, Int.not_lt] at c1'
      have hyes : x ∈ l := by (have e : y = x := (by omega); subst e; subst hy; exact List.getElem_mem hk)
      refine RunC.seq ?_
      refine RunC.region ?_
      refine RunL.val (Val.pure rfl) rfl rfl rfl ?_
      refine RunL.nil ?_
      refine RunE.next ?_
      refine RunC.ret ?_
      refine RunE.block_ret ?_
      refine RunE.pass_ret ?_
      refine RunE.pass_ret ?_
      refine RunE.block_ret ?_
      refine RunE.pass_ret ?_
      exact RunE.retP (.r1 rfl (.tmp rfl)) (by rw [decide_eq_true hyes])
    · intro c1
      have c1' := c1; clear c1
      try simp only [decide_eq_true_eq, decide_eq_false_iff_not, Bool.not_eq_true', Bool.not_eq_false', Bool.and_eq_true, Bool.or_eq_true, Bool.and_eq_false_iff, Bool.or_eq_false_iff, Int.not_le, Int.not_lt] at c1'
      refine RunC.skip ?_
      refine RunE.block_normal ?_
      refine RunE.next ?_
      refine RunC.region ?_
      refine RunL.val (Val.pure rfl) rfl rfl rfl ?_
      refine RunL.val (Val.add rfl rfl (IntWalk.i64_in _ ⟨by omega, by omega⟩)) rfl rfl rfl ?_
      refine RunL.val (Val.pure rfl) rfl rfl rfl ?_
      refine RunL.nil ?_
      exact RunE.round (by omega) (fun j h h1 => by (rcases Nat.lt_or_ge j k with h4 | h4; exact kI j h h4; have e : j = k := (by omega); subst e; rw [hy]; omega)) rfl (Sub.consE (t := 5) rfl rfl (Sub.cons (t := 0) rfl (Sub.cons (t := 1) rfl (Sub.nil _)))) .nil
  · intro c0
    have c0' := c0; clear c0
    try simp only [decide_eq_true_eq, decide_eq_false_iff_not, Bool.not_eq_true', Bool.not_eq_false', Bool.and_eq_true, Bool.or_eq_true, Bool.and_eq_false_iff, Bool.or_eq_false_iff, Int.not_le, Int.not_lt] at c0'
    obtain rfl : k = l.length := by omega
    have hno : x ∉ l := by (intro h; obtain ⟨j, hj, e⟩ := List.mem_iff_getElem.1 h; exact kI j hj hj e)
    refine RunC.exit ?_
    refine RunE.pass_exit ?_
    refine RunE.pass_exit ?_
    refine RunE.block_here ?_
    refine RunE.next ?_
    refine RunC.seq ?_
    refine RunC.region ?_
    refine RunL.val (Val.pure rfl) rfl rfl rfl ?_
    refine RunL.nil ?_
    refine RunE.next ?_
    refine RunC.ret ?_
    exact RunE.retP (.r1 rfl (.tmp rfl)) (by rw [decide_eq_false hno])
end Go.Proofs.YtlhdalcipflblaaDoor
/- Engine: a call in a world that has blocks of the caller's; own slices that are handed down and come back grown. -/
set_option linter.unusedSimpArgs false
set_option linter.unusedVariables false
namespace Go.Eng
open Go Go.RowKit
/-- What comes back is measured by the caller's own beginning. -/
def Grow {β : Type} (W0 : World) (chg : Blks) (v : β → Value) (nw : β → Blks) (I : β → Prop) (e : Ending) (w : World) : Prop := ∃ b : β, I b ∧ e = .returned (v b) ∧ Mem W0 chg (nw b) w
open Classical in
/-- What is told of less often may be picked. -/
theorem Pick.cnt : ∀ {l l' : Blks} (_ : ∀ x, l.count x ≤ l'.count x), Pick l l'
  | [], _, _ => .nil
  | (b, o) :: l, l', h => by
    have h1 : (b, o) ∈ l' := by
      have := h (b, o)
      rw [List.count_cons_self] at this
      exact List.count_pos_iff.1 (by omega)
    have take : ∀ {l' : Blks}, (b, o) ∈ l' → ∃ l2, Take (b, o) l' l2 := by
      intro l'
      induction l' with
      | nil => intro h; cases h
      | cons y l' ih =>
        intro h
        rcases List.mem_cons.1 h with rfl | h
        · exact ⟨_, .here⟩
        · obtain ⟨l2, h2⟩ := ih h; exact ⟨_, .there h2⟩
    obtain ⟨l2, h2⟩ := take h1
    refine .cons h2 rfl (Pick.cnt fun x => ?_)
    have h3 := h x
    rw [h2.perm.count_eq, List.count_cons, List.count_cons] at h3
    omega
section
variable {P : Program} {ops : Array Oper} {Q : Exit → Act → World → Prop} {n : Nat} {r : Regs} {ds : List Deferred} {W : World} {chg news : Blks} {rest : List Oper} {d : Nat}
theorem calls_from {f : FuncId} {fn : Func} {c : Code} {vs : List Value} {R : Ending → World → Prop} {w : World} (hm : Mem W chg news w) (hf : P.funcs[f]? = some fn) (hb : fn.body = some c) (hn : Nat.ble vs.length fn.ntmps = true)
    (h : RunC P (bodyPost P fn R) fn.ntmps c (args0 0 vs) [] W chg news) : Calls P f vs.toArray w R := by
  have s := start_st (Nat.le_of_ble_eq_true hn) (Mem.refl w) (vs := vs)
  exact calls_of_wp hf hb (h _ _ ⟨s.size, s.agree, s.defers, hm⟩)
theorem RunL.callG {β : Type} {o : Oper} {f : FuncId} {args : Array Value} {v : β → Value} {nw : β → Blks} {I : β → Prop} (hi : IsCall P r o f args) (hg : guardB ops r o.guard = some true) (hd : o.dst = some d) (hn : Nat.ble (d + 1) n = true)
    (hc : ∀ w, Mem W chg news w → Calls P f args w (Grow W chg v nw I)) (h : ∀ b, I b → RunL P ops Q n rest ((d, v b) :: r) ds W chg (nw b)) : RunL P ops Q n (o :: rest) r ds W chg news :=
  RunL.call hg hd (fun a w s => hi.runs a w s.agree) hc (fun a w e w' s hR => by
    obtain ⟨b, hI, rfl, hm⟩ := hR
    have s2 := s.put (Nat.le_of_ble_eq_true hn) (v b)
    exact h b hI _ _ ⟨s2.size, s2.agree, s2.defers, hm⟩)
theorem RunI.callG {i : Nat} {K : Act → World → Prop} {β : Type} {o : Oper} {f : FuncId} {args : Array Value} {v : β → Value} {nw : β → Blks} {I : β → Prop} (ho : ops[i]? = some o) (hi : IsCall P r o f args) (hg : guardB ops r o.guard = some true) (hd : o.dst = some d) (hn : Nat.ble (d + 1) n = true)
    (hc : ∀ w, Mem W chg news w → Calls P f args w (Grow W chg v nw I)) (h : ∀ b, I b → RunK n K ((d, v b) :: r) ds W chg (nw b)) : RunI P ops Q n i K r ds W chg news :=
  RunI.call ho hi hg hc (fun a w e w' s hR => by
    obtain ⟨b, hI, rfl, hm⟩ := hR
    have s2 := s.put (Nat.le_of_ble_eq_true hn) (v b)
    simp only [hd]
    exact h b hI _ _ ⟨s2.size, s2.agree, s2.defers, hm⟩)
theorem RunE.retG {β : Type} {fn : Func} {v : β → Value} {nw : β → Blks} {I : β → Prop} (x : β) (hx : I x) {u : Value} (hv : ResVs P r (chg ++ news) fn u) (he : u = v x) (hp : Pick (nw x) news) : RunE (bodyPost P fn (Grow W chg v nw I)) n .ret r [] W chg news :=
  RunE.ret hv (fun _ hm => ⟨x, hx, by rw [he], hm.pick hp⟩)
end
end Go.Eng
