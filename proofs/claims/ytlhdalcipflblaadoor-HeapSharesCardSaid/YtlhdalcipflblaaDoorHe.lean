/- Walks of package heap: which boxes with a heap are valid. -/
import Derived.Test.YtlhdalcipflblaaDoorHb
import Derived.Test.YtlhdalcipflblaaDoorHy2
set_option linter.unusedSimpArgs false
set_option linter.unusedVariables false
namespace Go.Hp
open Go Go.Eng Go.Pw1
def visB : List Bx → List Bx
  | [] => []
  | b :: l => if badBox b then [b] else b :: visB l
theorem visB_all : ∀ {l : List Bx}, l.any badBox = false → visB l = l
  | [], _ => rfl
  | b :: l, h => by
    simp only [List.any_cons, Bool.or_eq_false_iff] at h
    simp only [visB, h.1, Bool.false_eq_true, if_false, visB_all h.2]
theorem visB_hit : ∀ {l : List Bx} {k : Nat} (hk : k < l.length), (l.take k).any badBox = false → badBox l[k] = true → visB l = l.take (k + 1)
  | b :: l, 0, _, _, h => by simp at h; simp [visB, h]
  | b :: l, k + 1, hk, h1, h2 => by
    simp only [List.take_succ_cons, List.any_cons, Bool.or_eq_false_iff] at h1
    simp only [List.getElem_cons_succ] at h2
    simp only [visB, h1.1, Bool.false_eq_true, if_false, List.take_succ_cons]
    rw [visB_hit (by simpa using hk) h1.2 h2]
theorem many_snoc {l : List BxA} {k : Nat} (hk : k < l.length) : manyX ((l.take (k + 1)).map (·.bx)) = manyX ((l.take k).map (·.bx)) + l[k].bx.titles.length := by
  rw [List.take_succ_eq_append_getElem hk]
  simp only [manyX, List.map_append, List.sum_append, List.map_cons, List.map_nil, List.sum_cons, List.sum_nil]
  omega
theorem many_le {l : List BxA} (h : ∀ x ∈ l, x.bx.titles.length ≤ 1000) : ∀ k, manyX ((l.take k).map (·.bx)) ≤ k * 1000
  | 0 => by simp [manyX]
  | k + 1 => by
    have ih := many_le h k
    rcases Nat.lt_or_ge k l.length with hk | hk
    · rw [many_snoc hk]
      have h2 := h _ (List.getElem_mem hk)
      rw [Nat.add_mul, Nat.one_mul]
      exact Nat.add_le_add ih h2
    · have e1 : l.take (k + 1) = l := List.take_of_length_le (by omega)
      have e2 : l.take k = l := List.take_of_length_le hk
      rw [e2] at ih
      rw [e1, Nat.add_mul]
      exact Nat.le_trans ih (Nat.le_add_right _ _)
theorem Sl.mono1 {W w : World} {p : Option Addr} {b o sz : Nat} {xs : List (List Value)} {k : Nat} {ob : Obj} {news : Blks} (h : Sl W p b o sz xs) (hz : 0 < sz) (hm : Mem W [(k, ob)] news w) (hc : xs ≠ [] → b ≠ k) : Sl w p b o sz xs :=
  h.mono' hz hm fun hx ob' hin => by
    rcases List.mem_cons.1 hin with h1 | h1
    · exact hc hx (Prod.mk.inj h1).1
    · cases h1
theorem strs_ne {l : List Str} (h : strsV l ≠ []) : l ≠ [] := by rintro rfl; exact h rfl
structure TSmall (x : BxA) : Prop where
  n : x.bx.titles.length ≤ 1000
  t : ∀ t ∈ x.bx.titles, t.length ≤ 1000000
structure MSm (m : MxA) : Prop where
  bx : m.bxs.length ≤ 1000
  cd : m.cards.length ≤ 1000
  ti : ∀ x ∈ m.bxs, TSmall x
  tx : ∀ t ∈ m.cards, t.number.length ≤ 1000000 ∧ t.text.length ≤ 1000000
theorem ne_of_T {W w : World} {chg news : Blks} {b b' : Nat} {c c' : Array Value} {T T' : TypeId} {f f' : Nat × Nat} (hm : Mem W chg news w) (h : (b, .cells c T f) ∈ chg ++ news) (h' : (b', .cells c' T' f') ∈ chg ++ news) (hT : T ≠ T') : b ≠ b' := fun e => by
  have h1 := hm.at h
  have h2 := hm.at h'
  rw [e, h2] at h1
  simp at h1
  exact hT h1.2.1.symm
theorem mixed_ret {m : MxA} (h : (m.bxs.length : Int) ≤ 4 ∧ (m.cards.length : Int) ≤ 8) : ((!(m.bxs.map (·.bx)).any badBox && decide (((manyX (visB (m.bxs.map (·.bx))) : Nat) : Int) ≤ 12)) && !m.cards.any badCard) = mixedX m.pl := by
  have n1 : m.bxs.length ≤ 4 := by omega
  have n2 : m.cards.length ≤ 8 := by omega
  have h12 : ∀ x : Nat, decide (((x : Nat) : Int) ≤ 12) = decide (x ≤ 12) := fun x => decide_eq_decide.2 (by omega)
  rcases Bool.eq_false_or_eq_true ((m.bxs.map (·.bx)).any badBox) with hb | hb
  · unfold mixedX MxA.pl
    simp only [hb]
    simp
  · unfold mixedX MxA.pl
    rw [visB_all hb]
    simp only [hb, List.length_map, n1, n2, h12]
    simp
theorem mixed_no {m : MxA} (h : 4 < (m.bxs.length : Int) ∨ 8 < (m.cards.length : Int)) : mixedX m.pl = false := by
  rw [Bool.eq_false_iff]
  intro h2
  unfold mixedX at h2
  simp only [Bool.and_eq_true] at h2
  obtain ⟨⟨⟨⟨a1, a2⟩, _⟩, _⟩, _⟩ := h2
  have a3 : (m.bxs.map (·.bx)).length ≤ 4 := of_decide_eq_true a1
  have a4 : m.cards.length ≤ 8 := of_decide_eq_true a2
  rw [List.length_map] at a3
  omega
theorem bx_any (l : List BxA) : idxF (fun x : BxA => badBox x.bx) l = idxF badBox (l.map (·.bx)) := by
  induction l with
  | nil => rfl
  | cons x l ih => simp only [List.map_cons, idxF, ih]
end Go.Hp
namespace Go.Proofs.YtlhdalcipflblaaDoor
open Go Go.Eng Go.Hp Go.Pw1

theorem indexS_calls (l : List Str) (hsm : ∀ t ∈ l, t.length ≤ 1000000) (hl : l.length ≤ 1000) (q : Option Addr) (b o cap : Nat) (W : World) (hS : Sl W q b o 1 (strsV l)) :
    Calls Tryd.prog 86 #[.slice q l.length cap, .func (.func 71) #[] #[]] W (Pure (.int .i64 (idxF badTitle l)) W) := by
  refine calls_start Tryd.func86 rfl rfl ?_
  refine RunC.seq ?_
  refine RunC.region ?_
  refine RunL.val (Val.pure rfl) rfl rfl rfl ?_
  refine RunL.nil ?_
  refine RunE.next ?_
  refine RunC.seq ?_
  refine RunC.seq ?_
  refine RunC.region ?_
  refine RunL.val (Val.pure rfl) rfl rfl rfl ?_
  refine RunL.val (Val.len_sl rfl sl_44) rfl rfl rfl ?_
  refine RunL.val (Val.pure rfl) rfl rfl rfl ?_
  refine RunL.nil ?_
  refine RunE.next ?_
  refine RunC.block ?_
  refine RunC.loopK (l.length) (fun k q => (8, .int .i64 (k : Int)) :: q) (fun _ => _) (fun _ => []) (fun k => (l.take k).any badTitle = false) (by simp) rfl (Sub.consE (t := 8) rfl rfl (Sub.cons (t := 0) rfl (Sub.cons (t := 1) rfl (Sub.cons (t := 7) rfl (Sub.nil _))))) .nil ?_
  intro k kN kI
  refine RunC.seq ?_
  refine RunC.region ?_
  refine RunL.val (Val.pure rfl) rfl rfl rfl ?_
  refine RunL.nil ?_
  refine RunE.next ?_
  refine RunC.seq ?_
  refine RunC.cond rfl ?_ ?_
  · intro c0
    have c0' := c0; clear c0
    try simp only [decide_eq_true_eq, decide_eq_false_iff_not, Bool.not_eq_true', Bool.not_eq_false', Bool.and_eq_true, Bool.or_eq_true, Bool.and_eq_false_iff, Bool.or_eq_false_iff, Int.not_le, Int.not_lt] at c0'
    have hk : k < l.length := by omega
    refine RunC.skip ?_
    refine RunE.next ?_
    refine RunC.seq ?_
    refine RunC.block ?_
    refine RunC.seq ?_
    refine RunC.region ?_
    refine RunL.val (Val.pure rfl) rfl rfl rfl ?_
    refine RunL.val (Val.pure rfl) rfl rfl rfl ?_
    refine RunL.nil ?_
    refine RunE.next ?_
    refine RunC.seq ?_
    refine RunC.region ?_
    iterate 3 refine RunL.val (Val.pure rfl) rfl rfl rfl ?_
    refine RunL.val (Val.indexAddr_slp rfl rfl sl_44 (by omega) (by omega) (hS.ptrM hk)) rfl rfl rfl ?_
    refine RunL.val (Val.load_gen rfl (fun w hm => hS.loadM1 (by decide) hm (by simp) ty_9 hk (v := .string (bs l[k])) rfl)) rfl rfl rfl ?_
    refine RunL.callP (isCall_value rfl rfl ent_71) rfl rfl rfl (fun w hm => badTitle_calls _ (hsm _ (List.getElem_mem hk)) w) ?_
    refine RunL.nil ?_
    refine RunE.next ?_
    refine RunC.cond rfl ?_ ?_
    · intro c1
      have c1' := c1; clear c1
      try simp only [decide_eq_true_eq, decide_eq_false_iff_not, Bool.not_eq_true', Bool.not_eq_false', Bool.and_eq_true, Bool.or_eq_true, Bool.and_eq_false_iff, Bool.or_eq_false_iff, Int.not_le, Int.not_lt] at c1'
      refine RunC.seq ?_
      refine RunC.region ?_
      refine RunL.val (Val.pure rfl) rfl rfl rfl ?_
      refine RunL.val (Val.pure rfl) rfl rfl rfl ?_
      refine RunL.nil ?_
      refine RunE.next ?_
      refine RunC.ret ?_
      refine RunE.block_ret ?_
      refine RunE.pass_ret ?_
      refine RunE.pass_ret ?_
      refine RunE.block_ret ?_
      refine RunE.pass_ret ?_
      exact RunE.retP (.r1 rfl (.tmp rfl)) (by rw [idxF_hit badTitle l k hk kI c1'])
    · intro c1
      have c1' := c1; clear c1
      try simp only [decide_eq_true_eq, decide_eq_false_iff_not, Bool.not_eq_true', Bool.not_eq_false', Bool.and_eq_true, Bool.or_eq_true, Bool.and_eq_false_iff, Bool.or_eq_false_iff, Int.not_le, Int.not_lt] at c1'
      refine RunC.skip ?_
      refine RunE.block_normal ?_
      refine RunE.next ?_
      refine RunC.region ?_
      refine RunL.val (Val.add rfl rfl (IntWalk.i64_in _ ⟨by omega, by omega⟩)) rfl rfl rfl ?_
      refine RunL.val (Val.pure rfl) rfl rfl rfl ?_
      refine RunL.nil ?_
      exact RunE.round (by omega) (any_snoc hk kI c1') rfl (Sub.consE (t := 8) rfl rfl (Sub.cons (t := 0) rfl (Sub.cons (t := 1) rfl (Sub.cons (t := 7) rfl (Sub.nil _))))) .nil
  · intro c0
    have c0' := c0; clear c0
    try simp only [decide_eq_true_eq, decide_eq_false_iff_not, Bool.not_eq_true', Bool.not_eq_false', Bool.and_eq_true, Bool.or_eq_true, Bool.and_eq_false_iff, Bool.or_eq_false_iff, Int.not_le, Int.not_lt] at c0'
    obtain rfl : k = l.length := by omega
    rw [List.take_length] at kI
    refine RunC.exit ?_
    refine RunE.pass_exit ?_
    refine RunE.pass_exit ?_
    refine RunE.block_here ?_
    refine RunE.next ?_
    refine RunC.seq ?_
    refine RunC.region ?_
    refine RunL.val (Val.pure rfl) rfl rfl rfl ?_
    refine RunL.nil ?_
    refine RunE.next ?_
    refine RunC.ret ?_
    exact RunE.retP (.r1 rfl (.tmp rfl)) (by rw [idxF_none badTitle l kI])
theorem containsS_calls (l : List Str) (hsm : ∀ t ∈ l, t.length ≤ 1000000) (hl : l.length ≤ 1000) (q : Option Addr) (b o cap : Nat) (W : World) (hS : Sl W q b o 1 (strsV l)) :
    Calls Tryd.prog 75 #[.slice q l.length cap, .func (.func 71) #[] #[]] W (Pure (.bool (l.any badTitle)) W) := by
  refine calls_start Tryd.func75 rfl rfl ?_
  refine RunC.seq ?_
  refine RunC.region ?_
  refine RunL.val (Val.pure rfl) rfl rfl rfl ?_
  refine RunL.nil ?_
  refine RunE.next ?_
  refine RunC.seq ?_
  refine RunC.region ?_
  refine RunL.val (Val.pure rfl) rfl rfl rfl ?_
  refine RunL.val (Val.pure rfl) rfl rfl rfl ?_
  refine RunL.callP (isCall_func rfl ent_86) rfl rfl rfl (fun w hm => indexS_calls l hsm hl q b o cap w (hS.mono (by decide) hm (by simp))) ?_
  refine RunL.val (Val.pure rfl) rfl rfl rfl ?_
  refine RunL.val (Val.pure rfl) rfl rfl rfl ?_
  refine RunL.nil ?_
  refine RunE.next ?_
  refine RunC.ret ?_
  exact RunE.retP (.r1 rfl (.tmp rfl)) (by rw [← idxF_any])
theorem indexT_calls (l : List Tn) (hsm : ∀ t ∈ l, t.number.length ≤ 1000000 ∧ t.text.length ≤ 1000000) (hl : l.length ≤ 1000) (q : Option Addr) (b o cap : Nat) (W : World) (hS : Sl W q b o 3 (l.map Tn.cells)) :
    Calls Tryd.prog 91 #[.slice q l.length cap, .func (.func 76) #[] #[]] W (Pure (.int .i64 (idxF badCard l)) W) := by
  refine calls_start Tryd.func91 rfl rfl ?_
  refine RunC.seq ?_
  refine RunC.region ?_
  refine RunL.val (Val.pure rfl) rfl rfl rfl ?_
  refine RunL.nil ?_
  refine RunE.next ?_
  refine RunC.seq ?_
  refine RunC.seq ?_
  refine RunC.region ?_
  refine RunL.val (Val.pure rfl) rfl rfl rfl ?_
  refine RunL.val (Val.len_sl rfl sl_23) rfl rfl rfl ?_
  refine RunL.val (Val.pure rfl) rfl rfl rfl ?_
  refine RunL.nil ?_
  refine RunE.next ?_
  refine RunC.block ?_
  refine RunC.loopK (l.length) (fun k q => (8, .int .i64 (k : Int)) :: q) (fun _ => _) (fun _ => []) (fun k => (l.take k).any badCard = false) (by simp) rfl (Sub.consE (t := 8) rfl rfl (Sub.cons (t := 0) rfl (Sub.cons (t := 1) rfl (Sub.cons (t := 7) rfl (Sub.nil _))))) .nil ?_
  intro k kN kI
  refine RunC.seq ?_
  refine RunC.region ?_
  refine RunL.val (Val.pure rfl) rfl rfl rfl ?_
  refine RunL.nil ?_
  refine RunE.next ?_
  refine RunC.seq ?_
  refine RunC.cond rfl ?_ ?_
  · intro c0
    have c0' := c0; clear c0
    try simp only [decide_eq_true_eq, decide_eq_false_iff_not, Bool.not_eq_true', Bool.not_eq_false', Bool.and_eq_true, Bool.or_eq_true, Bool.and_eq_false_iff, Bool.or_eq_false_iff, Int.not_le, Int.not_lt] at c0'
    have hk : k < l.length := by omega
    refine RunC.skip ?_
    refine RunE.next ?_
    refine RunC.seq ?_
    refine RunC.block ?_
    refine RunC.seq ?_
    refine RunC.region ?_
    refine RunL.val (Val.pure rfl) rfl rfl rfl ?_
    refine RunL.val (Val.pure rfl) rfl rfl rfl ?_
    refine RunL.nil ?_
    refine RunE.next ?_
    refine RunC.seq ?_
    refine RunC.region ?_
    iterate 3 refine RunL.val (Val.pure rfl) rfl rfl rfl ?_
    refine RunL.val (Val.indexAddr_slp rfl rfl sl_23 (by omega) (by omega) (hS.ptrM hk)) rfl rfl rfl ?_
    refine RunL.val (Val.load_gen rfl (fun w hm => hS.loadM (by decide) hm (by simp) ty_50 hk)) rfl rfl rfl ?_
    refine RunL.callP (isCall_value rfl rfl ent_76) rfl rfl rfl (fun w hm => badCard_calls _ (hsm _ (List.getElem_mem hk)) w) ?_
    refine RunL.nil ?_
    refine RunE.next ?_
    refine RunC.cond rfl ?_ ?_
    · intro c1
      have c1' := c1; clear c1
      try simp only [decide_eq_true_eq, decide_eq_false_iff_not, Bool.not_eq_true', Bool.not_eq_false', Bool.and_eq_true, Bool.or_eq_true, Bool.and_eq_false_iff, Bool.or_eq_false_iff, Int.not_le, Int.not_lt] at c1'
      refine RunC.seq ?_
      refine RunC.region ?_
      refine RunL.val (Val.pure rfl) rfl rfl rfl ?_
      refine RunL.val (Val.pure rfl) rfl rfl rfl ?_
      refine RunL.nil ?_
      refine RunE.next ?_
      refine RunC.ret ?_
      refine RunE.block_ret ?_
      refine RunE.pass_ret ?_
      refine RunE.pass_ret ?_
      refine RunE.block_ret ?_
      refine RunE.pass_ret ?_
      exact RunE.retP (.r1 rfl (.tmp rfl)) (by rw [idxF_hit badCard l k hk kI c1'])
    · intro c1
      have c1' := c1; clear c1
      try simp only [decide_eq_true_eq, decide_eq_false_iff_not, Bool.not_eq_true', Bool.not_eq_false', Bool.and_eq_true, Bool.or_eq_true, Bool.and_eq_false_iff, Bool.or_eq_false_iff, Int.not_le, Int.not_lt] at c1'
      refine RunC.skip ?_
      refine RunE.block_normal ?_
      refine RunE.next ?_
      refine RunC.region ?_
      refine RunL.val (Val.add rfl rfl (IntWalk.i64_in _ ⟨by omega, by omega⟩)) rfl rfl rfl ?_
      refine RunL.val (Val.pure rfl) rfl rfl rfl ?_
      refine RunL.nil ?_
      exact RunE.round (by omega) (any_snoc hk kI c1') rfl (Sub.consE (t := 8) rfl rfl (Sub.cons (t := 0) rfl (Sub.cons (t := 1) rfl (Sub.cons (t := 7) rfl (Sub.nil _))))) .nil
  · intro c0
    have c0' := c0; clear c0
    try simp only [decide_eq_true_eq, decide_eq_false_iff_not, Bool.not_eq_true', Bool.not_eq_false', Bool.and_eq_true, Bool.or_eq_true, Bool.and_eq_false_iff, Bool.or_eq_false_iff, Int.not_le, Int.not_lt] at c0'
    obtain rfl : k = l.length := by omega
    rw [List.take_length] at kI
    refine RunC.exit ?_
    refine RunE.pass_exit ?_
    refine RunE.pass_exit ?_
    refine RunE.block_here ?_
    refine RunE.next ?_
    refine RunC.seq ?_
    refine RunC.region ?_
    refine RunL.val (Val.pure rfl) rfl rfl rfl ?_
    refine RunL.nil ?_
    refine RunE.next ?_
    refine RunC.ret ?_
    exact RunE.retP (.r1 rfl (.tmp rfl)) (by rw [idxF_none badCard l kI])
theorem containsT_calls (l : List Tn) (hsm : ∀ t ∈ l, t.number.length ≤ 1000000 ∧ t.text.length ≤ 1000000) (hl : l.length ≤ 1000) (q : Option Addr) (b o cap : Nat) (W : World) (hS : Sl W q b o 3 (l.map Tn.cells)) :
    Calls Tryd.prog 79 #[.slice q l.length cap, .func (.func 76) #[] #[]] W (Pure (.bool (l.any badCard)) W) := by
  refine calls_start Tryd.func79 rfl rfl ?_
  refine RunC.seq ?_
  refine RunC.region ?_
  refine RunL.val (Val.pure rfl) rfl rfl rfl ?_
  refine RunL.nil ?_
  refine RunE.next ?_
  refine RunC.seq ?_
  refine RunC.region ?_
  refine RunL.val (Val.pure rfl) rfl rfl rfl ?_
  refine RunL.val (Val.pure rfl) rfl rfl rfl ?_
  refine RunL.callP (isCall_func rfl ent_91) rfl rfl rfl (fun w hm => indexT_calls l hsm hl q b o cap w (hS.mono (by decide) hm (by simp))) ?_
  refine RunL.val (Val.pure rfl) rfl rfl rfl ?_
  refine RunL.val (Val.pure rfl) rfl rfl rfl ?_
  refine RunL.nil ?_
  refine RunE.next ?_
  refine RunC.ret ?_
  exact RunE.retP (.r1 rfl (.tmp rfl)) (by rw [← idxF_any])
theorem badBox_calls (x : BxA) (hx : TSmall x) (n : Nat) (hn : n ≤ 10000000) (bM bF : Nat) (W : World) (h4 : W.heap[bM]? = some (.cells [.int .i64 (n : Int)].toArray 3 (0, 0))) (h3 : W.heap[bF]? = some (.cells [.func (.func 71) #[] #[]].toArray 93 (0, 0))) (hne : bF ≠ bM)
    (hT : TOk W x) (hb : x.bx.titles ≠ [] → x.b ≠ bM) :
    Calls Tryd.prog 74 #[.agg x.cells.toArray, .pointer (some ⟨bM, 0, none⟩), .pointer (some ⟨bF, 0, none⟩)] W (TurnsX bM (.cells [.int .i64 ((n + x.bx.titles.length : Nat) : Int)].toArray 3 (0, 0)) (fun _ : Unit => .bool (badBox x.bx)) (fun _ => True) W) := by
  have hx1 := hx.n
  refine calls_start_chg h4 Tryd.func74 rfl rfl ?_
  refine RunC.seq ?_
  refine RunC.region ?_
  refine RunL.new (New.box rfl) rfl rfl rfl (fun b3 => ?_)
  refine RunL.val (Val.pure rfl) rfl rfl rfl ?_
  refine RunL.nil ?_
  refine RunE.next ?_
  refine RunC.seq ?_
  refine RunC.region ?_
  refine RunL.val (Val.load_one rfl (.head _) ty_3 rfl) rfl rfl rfl ?_
  refine RunL.val (Val.fieldAddr rfl fld_46_1) rfl rfl rfl ?_
  refine RunL.val (Val.load_one rfl (.tail _ (.head _)) ty_44 rfl) rfl rfl rfl ?_
  refine RunL.val (Val.len_sl rfl sl_44) rfl rfl rfl ?_
  refine RunL.val (Val.addN (a := n) (b := x.bx.titles.length) (n + x.bx.titles.length) rfl rfl rfl (i64_inN (by omega))) rfl rfl rfl ?_
  refine RunL.sto (Sto.store_chg rfl rfl .here ty_3 rfl rfl) rfl rfl ?_
  refine RunL.nil ?_
  refine RunE.next ?_
  refine RunC.seq ?_
  refine RunC.region ?_
  refine RunL.val (Val.fieldAddr rfl fld_46_0) rfl rfl rfl ?_
  refine RunL.val (Val.load_one rfl (.tail _ (.head _)) ty_3 rfl) rfl rfl rfl ?_
  refine RunL.callP (isCall_func rfl ent_53) rfl rfl rfl (fun w hm => hwithin_calls _ _ _ w) ?_
  refine RunL.val (Val.pure rfl) rfl rfl rfl ?_
  refine RunL.val (Val.pure rfl) rfl rfl rfl ?_
  refine RunL.orPart (dj := 14) (dp := 19) 5 rfl (fun g14 => by
    have g14' := g14
    try simp only [decide_eq_true_eq, decide_eq_false_iff_not, Bool.not_eq_true', Bool.not_eq_false', Bool.and_eq_true, Bool.or_eq_true, Bool.and_eq_false_iff, Bool.or_eq_false_iff, Int.not_le, Int.not_lt] at g14'
    refine RunL.val (Val.fieldAddr rfl fld_46_1) rfl rfl rfl ?_
    refine RunL.val (Val.load_one rfl (.tail _ (.head _)) ty_44 rfl) rfl rfl rfl ?_
    refine RunL.val (Val.oload_one rfl h3 (by simp [hne]) ty_93 rfl) rfl rfl rfl ?_
    refine RunL.callP (isCall_func rfl ent_75) rfl rfl rfl (fun w hm => containsS_calls x.bx.titles hx.t hx1 x.q x.b x.o x.cap w (Sl.mono1 hT (by decide) hm (fun h => hb (strs_ne h)))) ?_
    refine RunL.val (Val.pure rfl) rfl rfl rfl ?_
    exact RunL.segEnd (Sub.cons rfl (Sub.skip rfl (Sub.skip rfl (Sub.skip rfl (Sub.skip rfl (Sub.skip rfl (Sub.same rfl (by rw [g14]) (Sub.refl _)))))))) (List.Sublist.refl _)
  ) (fun g14 => by
    have g14' := g14
    try simp only [decide_eq_true_eq, decide_eq_false_iff_not, Bool.not_eq_true', Bool.not_eq_false', Bool.and_eq_true, Bool.or_eq_true, Bool.and_eq_false_iff, Bool.or_eq_false_iff, Int.not_le, Int.not_lt] at g14'
    iterate 4 refine RunL.no rfl rfl rfl ?_
    refine RunL.val (Val.pure rfl) rfl rfl rfl ?_
    exact RunL.segEnd (Sub.cons rfl (Sub.skip rfl (Sub.skip rfl (Sub.skip rfl (Sub.skip rfl (Sub.skip rfl (Sub.same rfl (by rw [g14]) (Sub.refl _)))))))) (List.Sublist.refl _)
  ) ?_
  refine RunL.val (Val.pure rfl) rfl rfl rfl ?_
  refine RunL.nil ?_
  refine RunE.next ?_
  refine RunC.ret ?_
  exact RunE.retX () trivial (.r1 rfl (.tmp rfl)) (by simp [badBox])
theorem indexB_calls (l : List BxA) (hsm : ∀ x ∈ l, TSmall x) (hl : l.length ≤ 1000) (q : Option Addr) (b o cap bM bF : Nat) (W : World) (h4 : W.heap[bM]? = some (.cells [.int .i64 ((0 : Nat) : Int)].toArray 3 (0, 0))) (h3 : W.heap[bF]? = some (.cells [.func (.func 71) #[] #[]].toArray 93 (0, 0))) (hne : bF ≠ bM)
    (hS : Sl W q b o 2 (l.map BxA.cells)) (hb : l ≠ [] → b ≠ bM) (hT : ∀ x ∈ l, TOk W x) (hTb : ∀ x ∈ l, x.bx.titles ≠ [] → x.b ≠ bM) :
    Calls Tryd.prog 90 #[.slice q l.length cap, .func (.func 74) #[] #[.pointer (some ⟨bM, 0, none⟩), .pointer (some ⟨bF, 0, none⟩)]] W
      (TurnsX bM (.cells [.int .i64 ((manyX (visB (l.map (·.bx))) : Nat) : Int)].toArray 3 (0, 0)) (fun _ : Unit => .int .i64 (idxF badBox (l.map (·.bx)))) (fun _ => True) W) := by
  have hml := many_le fun x hx => (hsm x hx).n
  refine calls_start_chg h4 Tryd.func90 rfl rfl ?_
  refine RunC.seq ?_
  refine RunC.region ?_
  refine RunL.val (Val.pure rfl) rfl rfl rfl ?_
  refine RunL.nil ?_
  refine RunE.next ?_
  refine RunC.seq ?_
  refine RunC.seq ?_
  refine RunC.region ?_
  refine RunL.val (Val.pure rfl) rfl rfl rfl ?_
  refine RunL.val (Val.len_sl rfl sl_22) rfl rfl rfl ?_
  refine RunL.val (Val.pure rfl) rfl rfl rfl ?_
  refine RunL.nil ?_
  refine RunE.next ?_
  refine RunC.block ?_
  refine RunC.loopK (l.length) (fun k q => (8, .int .i64 (k : Int)) :: q) (fun k => [(bM, .cells [.int .i64 ((manyX ((l.take k).map (·.bx)) : Nat) : Int)].toArray 3 (0, 0))]) (fun _ => []) (fun k => ((l.take k).map (·.bx)).any badBox = false) (by simp) rfl (Sub.consE (t := 8) rfl rfl (Sub.cons (t := 0) rfl (Sub.cons (t := 1) rfl (Sub.cons (t := 7) rfl (Sub.nil _))))) .nil ?_
  intro k kN kI
  refine RunC.seq ?_
  refine RunC.region ?_
  refine RunL.val (Val.pure rfl) rfl rfl rfl ?_
  refine RunL.nil ?_
  refine RunE.next ?_
  refine RunC.seq ?_
  refine RunC.cond rfl ?_ ?_
  · intro c0
    have c0' := c0; clear c0
    try simp only [decide_eq_true_eq, decide_eq_false_iff_not, Bool.not_eq_true', Bool.not_eq_false', Bool.and_eq_true, Bool.or_eq_true, Bool.and_eq_false_iff, Bool.or_eq_false_iff, Int.not_le, Int.not_lt] at c0'
    have hk : k < l.length := by omega
    obtain ⟨x, hx⟩ : ∃ x, l[k] = x := ⟨_, rfl⟩
    have hxm : x ∈ l := hx ▸ List.getElem_mem hk
    have hmk := hml k
    refine RunC.skip ?_
    refine RunE.next ?_
    refine RunC.seq ?_
    refine RunC.block ?_
    refine RunC.seq ?_
    refine RunC.region ?_
    refine RunL.val (Val.pure rfl) rfl rfl rfl ?_
    refine RunL.val (Val.pure rfl) rfl rfl rfl ?_
    refine RunL.nil ?_
    refine RunE.next ?_
    refine RunC.seq ?_
    refine RunC.region ?_
    iterate 3 refine RunL.val (Val.pure rfl) rfl rfl rfl ?_
    refine RunL.val (Val.indexAddr_slp rfl rfl sl_22 (by omega) (by omega) (hS.ptrM hk)) rfl rfl rfl ?_
    refine RunL.val (Val.load_gen rfl (fun w hm => (Sl.mono1 hS (by decide) hm (fun h => hb (by rintro rfl; exact h rfl))).loadX (by decide) (Mem.refl w) (by simp) ty_46 hk hx)) rfl rfl rfl ?_
    refine RunL.callX_chg (isCall_value rfl rfl ent_74) rfl rfl rfl .here (fun w hm => badBox_calls x (hsm x hxm) _ (by omega) bM bF w (hm.at (.head _)) (hm.old_at h3 (by simp [hne])) hne (Sl.mono1 (hT x hxm) (by decide) hm (fun h => hTb x hxm (strs_ne h))) (hTb x hxm)) (fun x16 hx16 => ?_)
    refine RunL.nil ?_
    refine RunE.next ?_
    refine RunC.cond rfl ?_ ?_
    · intro c1
      have c1' := c1; clear c1
      try simp only [decide_eq_true_eq, decide_eq_false_iff_not, Bool.not_eq_true', Bool.not_eq_false', Bool.and_eq_true, Bool.or_eq_true, Bool.and_eq_false_iff, Bool.or_eq_false_iff, Int.not_le, Int.not_lt] at c1'
      refine RunC.seq ?_
      refine RunC.region ?_
      refine RunL.val (Val.pure rfl) rfl rfl rfl ?_
      refine RunL.val (Val.pure rfl) rfl rfl rfl ?_
      refine RunL.nil ?_
      refine RunE.next ?_
      refine RunC.ret ?_
      refine RunE.block_ret ?_
      refine RunE.pass_ret ?_
      refine RunE.pass_ret ?_
      refine RunE.block_ret ?_
      refine RunE.pass_ret ?_
      rw [List.map_take] at kI
      have hkm : k < (l.map (·.bx)).length := by simpa using hk
      have hbk : badBox (l.map (·.bx))[k] = true := by simp [hx, c1']
      have hv : manyX (visB (l.map (·.bx))) = manyX ((l.take k).map (·.bx)) + x.bx.titles.length := by rw [visB_hit hkm kI hbk, ← List.map_take, many_snoc hk, hx]
      rw [hv]
      exact RunE.retX () trivial (.r1 rfl (.tmp rfl)) (by rw [idxF_hit badBox _ k hkm kI hbk])
    · intro c1
      have c1' := c1; clear c1
      try simp only [decide_eq_true_eq, decide_eq_false_iff_not, Bool.not_eq_true', Bool.not_eq_false', Bool.and_eq_true, Bool.or_eq_true, Bool.and_eq_false_iff, Bool.or_eq_false_iff, Int.not_le, Int.not_lt] at c1'
      refine RunC.skip ?_
      refine RunE.block_normal ?_
      refine RunE.next ?_
      refine RunC.region ?_
      refine RunL.val (Val.add rfl rfl (IntWalk.i64_in _ ⟨by omega, by omega⟩)) rfl rfl rfl ?_
      refine RunL.val (Val.pure rfl) rfl rfl rfl ?_
      refine RunL.nil ?_
      exact RunE.round (by omega) (by rw [List.map_take] at kI ⊢; exact any_snoc (by simpa using hk) kI (by simp [hx, c1'])) (by rw [many_snoc hk, hx]) (Sub.consE (t := 8) rfl rfl (Sub.cons (t := 0) rfl (Sub.cons (t := 1) rfl (Sub.cons (t := 7) rfl (Sub.nil _))))) .nil
  · intro c0
    have c0' := c0; clear c0
    try simp only [decide_eq_true_eq, decide_eq_false_iff_not, Bool.not_eq_true', Bool.not_eq_false', Bool.and_eq_true, Bool.or_eq_true, Bool.and_eq_false_iff, Bool.or_eq_false_iff, Int.not_le, Int.not_lt] at c0'
    obtain rfl : k = l.length := by omega
    rw [List.take_length] at kI
    simp only [List.take_length]
    refine RunC.exit ?_
    refine RunE.pass_exit ?_
    refine RunE.pass_exit ?_
    refine RunE.block_here ?_
    refine RunE.next ?_
    refine RunC.seq ?_
    refine RunC.region ?_
    refine RunL.val (Val.pure rfl) rfl rfl rfl ?_
    refine RunL.nil ?_
    refine RunE.next ?_
    refine RunC.ret ?_
    rw [visB_all kI]
    exact RunE.retX () trivial (.r1 rfl (.tmp rfl)) (by rw [idxF_none badBox _ kI])
theorem containsB_calls (l : List BxA) (hsm : ∀ x ∈ l, TSmall x) (hl : l.length ≤ 1000) (q : Option Addr) (b o cap bM bF : Nat) (W : World) (h4 : W.heap[bM]? = some (.cells [.int .i64 ((0 : Nat) : Int)].toArray 3 (0, 0))) (h3 : W.heap[bF]? = some (.cells [.func (.func 71) #[] #[]].toArray 93 (0, 0))) (hne : bF ≠ bM)
    (hS : Sl W q b o 2 (l.map BxA.cells)) (hb : l ≠ [] → b ≠ bM) (hT : ∀ x ∈ l, TOk W x) (hTb : ∀ x ∈ l, x.bx.titles ≠ [] → x.b ≠ bM) :
    Calls Tryd.prog 78 #[.slice q l.length cap, .func (.func 74) #[] #[.pointer (some ⟨bM, 0, none⟩), .pointer (some ⟨bF, 0, none⟩)]] W
      (TurnsX bM (.cells [.int .i64 ((manyX (visB (l.map (·.bx))) : Nat) : Int)].toArray 3 (0, 0)) (fun _ : Unit => .bool ((l.map (·.bx)).any badBox)) (fun _ => True) W) := by
  refine calls_start_chg h4 Tryd.func78 rfl rfl ?_
  refine RunC.seq ?_
  refine RunC.region ?_
  refine RunL.val (Val.pure rfl) rfl rfl rfl ?_
  refine RunL.nil ?_
  refine RunE.next ?_
  refine RunC.seq ?_
  refine RunC.region ?_
  refine RunL.val (Val.pure rfl) rfl rfl rfl ?_
  refine RunL.val (Val.pure rfl) rfl rfl rfl ?_
  refine RunL.callX_chg (isCall_func rfl ent_90) rfl rfl rfl .here (fun w hm => indexB_calls l hsm hl q b o cap bM bF w (hm.at (.head _)) (hm.old_at h3 (by simp [hne])) hne (Sl.mono1 hS (by decide) hm (fun h => hb (by rintro rfl; exact h rfl))) hb (fun x hx => Sl.mono1 (hT x hx) (by decide) hm (fun h => hTb x hx (strs_ne h))) hTb) (fun x7 hx7 => ?_)
  refine RunL.val (Val.pure rfl) rfl rfl rfl ?_
  refine RunL.val (Val.pure rfl) rfl rfl rfl ?_
  refine RunL.nil ?_
  refine RunE.next ?_
  refine RunC.ret ?_
  exact RunE.retX () trivial (.r1 rfl (.tmp rfl)) (by rw [← idxF_any])
theorem isMixed_calls (m : MxA) (hsm : MSm m) (W : World) (hM : MOk W m) : Calls Tryd.prog 62 #[m.v] W (Pure (.bool (mixedX m.pl)) W) := by
  have hs1 := hsm.bx
  have hs2 := hsm.cd
  refine calls_start Tryd.func62 rfl rfl ?_
  refine RunC.seq ?_
  refine RunC.region ?_
  refine RunL.new (New.box rfl) rfl rfl rfl (fun b1 => ?_)
  refine RunL.val (Val.pure rfl) rfl rfl rfl ?_
  refine RunL.nil ?_
  refine RunE.next ?_
  refine RunC.seq ?_
  refine RunC.region ?_
  refine RunL.new (New.alloc zero_93) rfl rfl rfl (fun b3 => ?_)
  refine RunL.sto (Sto.store rfl rfl .here ty_93 rfl rfl) rfl rfl ?_
  refine RunL.nil ?_
  refine RunE.next ?_
  refine RunC.seq ?_
  refine RunC.region ?_
  refine RunL.new (New.alloc zero_3) rfl rfl rfl (fun b4 => ?_)
  refine RunL.sto (Sto.store rfl rfl .here ty_3 rfl rfl) rfl rfl ?_
  refine RunL.nil ?_
  refine RunE.next ?_
  refine RunC.seq ?_
  refine RunC.region ?_
  refine RunL.val (Val.pure rfl) rfl rfl rfl ?_
  refine RunL.val (Val.pure rfl) rfl rfl rfl ?_
  refine RunL.nil ?_
  refine RunE.next ?_
  refine RunC.seq ?_
  refine RunC.region ?_
  refine RunL.val (Val.pure rfl) rfl rfl rfl ?_
  refine RunL.nil ?_
  refine RunE.next ?_
  refine RunC.seq ?_
  refine RunC.region ?_
  refine RunL.val (Val.fieldAddr rfl fld_25_0) rfl rfl rfl ?_
  refine RunL.val (Val.load_one rfl (.tail _ (.tail _ (.head _))) ty_22 rfl) rfl rfl rfl ?_
  refine RunL.val (Val.len_sl rfl sl_22) rfl rfl rfl ?_
  refine RunL.val (Val.pure rfl) rfl rfl rfl ?_
  refine RunL.val (Val.pure rfl) rfl rfl rfl ?_
  refine RunL.andPart (dj := 12) (dp := 17) 5 rfl (fun g12 => by
    have g12' := g12
    try simp only [decide_eq_true_eq, decide_eq_false_iff_not, Bool.not_eq_true', Bool.not_eq_false', Bool.and_eq_true, Bool.or_eq_true, Bool.and_eq_false_iff, Bool.or_eq_false_iff, Int.not_le, Int.not_lt] at g12'
    refine RunL.val (Val.fieldAddr rfl fld_25_1) rfl rfl rfl ?_
    refine RunL.val (Val.load_one rfl (.tail _ (.tail _ (.head _))) ty_23 rfl) rfl rfl rfl ?_
    refine RunL.val (Val.len_sl rfl sl_23) rfl rfl rfl ?_
    refine RunL.val (Val.pure rfl) rfl rfl rfl ?_
    refine RunL.val (Val.pure rfl) rfl rfl rfl ?_
    exact RunL.segEnd (Sub.cons rfl (Sub.skip rfl (Sub.skip rfl (Sub.skip rfl (Sub.skip rfl (Sub.skip rfl (Sub.same rfl (by rw [g12]) (Sub.refl _)))))))) (List.Sublist.refl _)
  ) (fun g12 => by
    have g12' := g12
    try simp only [decide_eq_true_eq, decide_eq_false_iff_not, Bool.not_eq_true', Bool.not_eq_false', Bool.and_eq_true, Bool.or_eq_true, Bool.and_eq_false_iff, Bool.or_eq_false_iff, Int.not_le, Int.not_lt] at g12'
    iterate 4 refine RunL.no rfl rfl rfl ?_
    refine RunL.val (Val.pure rfl) rfl rfl rfl ?_
    exact RunL.segEnd (Sub.cons rfl (Sub.skip rfl (Sub.skip rfl (Sub.skip rfl (Sub.skip rfl (Sub.skip rfl (Sub.same rfl (by rw [g12]) (Sub.refl _)))))))) (List.Sublist.refl _)
  ) ?_
  refine RunL.val (Val.pure rfl) rfl rfl rfl ?_
  refine RunL.ways (dj := 18) rfl ?_ ?_
  · intro g18
    have g18' := g18; clear g18
    try simp only [decide_eq_true_eq, decide_eq_false_iff_not, Bool.not_eq_true', Bool.not_eq_false', Bool.and_eq_true, Bool.or_eq_true, Bool.and_eq_false_iff, Bool.or_eq_false_iff, Int.not_le, Int.not_lt] at g18'
    refine RunL.val (Val.fieldAddr rfl fld_25_0) rfl rfl rfl ?_
    refine RunL.val (Val.load_one rfl (.tail _ (.tail _ (.head _))) ty_22 rfl) rfl rfl rfl ?_
    refine RunL.val (Val.pure rfl) rfl rfl rfl ?_
    refine RunL.callX (isCall_func rfl ent_78) rfl rfl rfl .here (fun w hm => containsB_calls m.bxs hsm.ti hs1 m.q m.b m.o m.cap b4 b3 w (hm.at (.head _)) (hm.at (.tail _ (.head _))) (ne_of_T hm (.tail _ (.head _)) (.head _) (by decide)) (hM.bx.mono (by decide) hm (by simp)) (fun h => hM.bx.ne (by decide) hm (.head _) (by simpa using h)) (fun x hx => (hM.ti x hx).mono (by decide) hm (by simp)) (fun x hx h => (hM.ti x hx).ne (by decide) hm (.head _) (by simpa [strsV] using h))) (fun x22 hx22 => ?_)
    iterate 3 refine RunL.val (Val.pure rfl) rfl rfl rfl ?_
    refine RunL.andPart (dj := 25) (dp := 28) 3 rfl (fun g25 => by
      have g25' := g25
      try simp only [decide_eq_true_eq, decide_eq_false_iff_not, Bool.not_eq_true', Bool.not_eq_false', Bool.and_eq_true, Bool.or_eq_true, Bool.and_eq_false_iff, Bool.or_eq_false_iff, Int.not_le, Int.not_lt] at g25'
      refine RunL.val (Val.load_one rfl (.head _) ty_3 rfl) rfl rfl rfl ?_
      refine RunL.val (Val.pure rfl) rfl rfl rfl ?_
      refine RunL.val (Val.pure rfl) rfl rfl rfl ?_
      exact RunL.segEnd (Sub.cons rfl (Sub.skip rfl (Sub.skip rfl (Sub.skip rfl (Sub.same rfl (by rw [g25]) (Sub.refl _)))))) (List.Sublist.refl _)
    ) (fun g25 => by
      have g25' := g25
      try simp only [decide_eq_true_eq, decide_eq_false_iff_not, Bool.not_eq_true', Bool.not_eq_false', Bool.and_eq_true, Bool.or_eq_true, Bool.and_eq_false_iff, Bool.or_eq_false_iff, Int.not_le, Int.not_lt] at g25'
      refine RunL.no rfl rfl rfl ?_
      refine RunL.no rfl rfl rfl ?_
      refine RunL.val (Val.pure rfl) rfl rfl rfl ?_
      exact RunL.segEnd (Sub.cons rfl (Sub.skip rfl (Sub.skip rfl (Sub.skip rfl (Sub.same rfl (by rw [g25]) (Sub.refl _)))))) (List.Sublist.refl _)
    ) ?_
    refine RunL.val (Val.pure rfl) rfl rfl rfl ?_
    refine RunL.andPart (dj := 29) (dp := 35) 6 rfl (fun g29 => by
      have g29' := g29
      try simp only [decide_eq_true_eq, decide_eq_false_iff_not, Bool.not_eq_true', Bool.not_eq_false', Bool.and_eq_true, Bool.or_eq_true, Bool.and_eq_false_iff, Bool.or_eq_false_iff, Int.not_le, Int.not_lt] at g29'
      refine RunL.val (Val.fieldAddr rfl fld_25_1) rfl rfl rfl ?_
      refine RunL.val (Val.load_one rfl (.tail _ (.tail _ (.head _))) ty_23 rfl) rfl rfl rfl ?_
      refine RunL.val (Val.pure rfl) rfl rfl rfl ?_
      refine RunL.callP (isCall_func rfl ent_79) rfl rfl rfl (fun w hm => containsT_calls m.cards hsm.tx hs2 m.q2 m.b2 m.o2 m.cap2 w (hM.cd.mono (by decide) hm (by simp))) ?_
      refine RunL.val (Val.pure rfl) rfl rfl rfl ?_
      refine RunL.val (Val.pure rfl) rfl rfl rfl ?_
      exact RunL.segEnd (Sub.cons rfl (Sub.skip rfl (Sub.skip rfl (Sub.skip rfl (Sub.skip rfl (Sub.skip rfl (Sub.skip rfl (Sub.same rfl (by rw [g29]) (Sub.refl _))))))))) (List.Sublist.refl _)
    ) (fun g29 => by
      have g29' := g29
      try simp only [decide_eq_true_eq, decide_eq_false_iff_not, Bool.not_eq_true', Bool.not_eq_false', Bool.and_eq_true, Bool.or_eq_true, Bool.and_eq_false_iff, Bool.or_eq_false_iff, Int.not_le, Int.not_lt] at g29'
      iterate 5 refine RunL.no rfl rfl rfl ?_
      refine RunL.val (Val.pure rfl) rfl rfl rfl ?_
      exact RunL.segEnd (Sub.cons rfl (Sub.skip rfl (Sub.skip rfl (Sub.skip rfl (Sub.skip rfl (Sub.skip rfl (Sub.skip rfl (Sub.same rfl (by rw [g29]) (Sub.refl _))))))))) (List.Sublist.refl _)
    ) ?_
    refine RunL.val (Val.pure rfl) rfl rfl rfl ?_
    refine RunL.nil ?_
    refine RunE.next ?_
    refine RunC.ret ?_
    exact RunE.retP (.r1 rfl (.tmp rfl)) (by rw [← mixed_ret g18'])
  · intro g18
    have g18' := g18; clear g18
    try simp only [decide_eq_true_eq, decide_eq_false_iff_not, Bool.not_eq_true', Bool.not_eq_false', Bool.and_eq_true, Bool.or_eq_true, Bool.and_eq_false_iff, Bool.or_eq_false_iff, Int.not_le, Int.not_lt] at g18'
    iterate 5 refine RunL.no rfl rfl rfl ?_
    refine RunL.val (Val.pure rfl) rfl rfl rfl ?_
    refine RunL.val (Val.pure rfl) rfl rfl rfl ?_
    refine RunL.andPart (dj := 25) (dp := 28) 3 rfl (fun g25 => by
      have g25' := g25
      try simp only [decide_eq_true_eq, decide_eq_false_iff_not, Bool.not_eq_true', Bool.not_eq_false', Bool.and_eq_true, Bool.or_eq_true, Bool.and_eq_false_iff, Bool.or_eq_false_iff, Int.not_le, Int.not_lt] at g25'
      refine RunL.val (Val.load_one rfl (.head _) ty_3 rfl) rfl rfl rfl ?_
      refine RunL.val (Val.pure rfl) rfl rfl rfl ?_
      refine RunL.val (Val.pure rfl) rfl rfl rfl ?_
      exact RunL.segEnd (Sub.cons rfl (Sub.skip rfl (Sub.skip rfl (Sub.skip rfl (Sub.same rfl (by rw [g25]) (Sub.refl _)))))) (List.Sublist.refl _)
    ) (fun g25 => by
      have g25' := g25
      try simp only [decide_eq_true_eq, decide_eq_false_iff_not, Bool.not_eq_true', Bool.not_eq_false', Bool.and_eq_true, Bool.or_eq_true, Bool.and_eq_false_iff, Bool.or_eq_false_iff, Int.not_le, Int.not_lt] at g25'
      refine RunL.no rfl rfl rfl ?_
      refine RunL.no rfl rfl rfl ?_
      refine RunL.val (Val.pure rfl) rfl rfl rfl ?_
      exact RunL.segEnd (Sub.cons rfl (Sub.skip rfl (Sub.skip rfl (Sub.skip rfl (Sub.same rfl (by rw [g25]) (Sub.refl _)))))) (List.Sublist.refl _)
    ) ?_
    refine RunL.val (Val.pure rfl) rfl rfl rfl ?_
    refine RunL.andPart (dj := 29) (dp := 35) 6 rfl (fun g29 => by
      have g29' := g29
      try simp only [decide_eq_true_eq, decide_eq_false_iff_not, Bool.not_eq_true', Bool.not_eq_false', Bool.and_eq_true, Bool.or_eq_true, Bool.and_eq_false_iff, Bool.or_eq_false_iff, Int.not_le, Int.not_lt] at g29'
      refine RunL.val (Val.fieldAddr rfl fld_25_1) rfl rfl rfl ?_
      refine RunL.val (Val.load_one rfl (.tail _ (.tail _ (.head _))) ty_23 rfl) rfl rfl rfl ?_
      refine RunL.val (Val.pure rfl) rfl rfl rfl ?_
      refine RunL.callP (isCall_func rfl ent_79) rfl rfl rfl (fun w hm => containsT_calls m.cards hsm.tx hs2 m.q2 m.b2 m.o2 m.cap2 w (hM.cd.mono (by decide) hm (by simp))) ?_
      refine RunL.val (Val.pure rfl) rfl rfl rfl ?_
      refine RunL.val (Val.pure rfl) rfl rfl rfl ?_
      exact RunL.segEnd (Sub.cons rfl (Sub.skip rfl (Sub.skip rfl (Sub.skip rfl (Sub.skip rfl (Sub.skip rfl (Sub.skip rfl (Sub.same rfl (by rw [g29]) (Sub.refl _))))))))) (List.Sublist.refl _)
    ) (fun g29 => by
      have g29' := g29
      try simp only [decide_eq_true_eq, decide_eq_false_iff_not, Bool.not_eq_true', Bool.not_eq_false', Bool.and_eq_true, Bool.or_eq_true, Bool.and_eq_false_iff, Bool.or_eq_false_iff, Int.not_le, Int.not_lt] at g29'
      iterate 5 refine RunL.no rfl rfl rfl ?_
      refine RunL.val (Val.pure rfl) rfl rfl rfl ?_
      exact RunL.segEnd (Sub.cons rfl (Sub.skip rfl (Sub.skip rfl (Sub.skip rfl (Sub.skip rfl (Sub.skip rfl (Sub.skip rfl (Sub.same rfl (by rw [g29]) (Sub.refl _))))))))) (List.Sublist.refl _)
    ) ?_
    refine RunL.val (Val.pure rfl) rfl rfl rfl ?_
    refine RunL.nil ?_
    refine RunE.next ?_
    refine RunC.ret ?_
    exact RunE.retP (.r1 rfl (.tmp rfl)) (by rw [mixed_no g18']; simp)
end Go.Proofs.YtlhdalcipflblaaDoor
