/- Walks of package heap: sets, and what a card fits. -/
import Derived.Test.YtlhdalcipflblaaDoorHe
set_option linter.unusedSimpArgs false
set_option linter.unusedVariables false
namespace Go.Hp
open Go Go.Eng Go.Pw1
def orL (l : List Nat) : Nat := l.foldl (· ||| ·) 0
theorem orL_snoc (l : List Nat) (a : Nat) : orL (l ++ [a]) = orL l ||| a := by simp [orL]
theorem orL_lt {n : Nat} : ∀ (l : List Nat), (∀ a ∈ l, a < 2 ^ n) → orL l < 2 ^ n := by
  intro l
  have key : ∀ (l : List Nat) (z : Nat), z < 2 ^ n → (∀ a ∈ l, a < 2 ^ n) → l.foldl (· ||| ·) z < 2 ^ n := by
    intro l
    induction l with
    | nil => intro z hz _; exact hz
    | cons a l ih => intro z hz h; exact ih _ (Nat.or_lt_two_pow hz (h a (by simp))) (fun b hb => h b (List.mem_cons_of_mem _ hb))
  exact key l 0 (Nat.two_pow_pos n)
def setsV (l : List Nat) : List (List Value) := l.map fun (x : Nat) => [.int .u64 (x : Int)]
theorem fits_step {t : Tn} {es : List En} {k : Nat} (hk : k < es.length) {x : En} (hx : es[k] = x) : fitsL t 0 (es.take (k + 1)) = fitsL t 0 (es.take k) ||| (if fitX t x then 2 ^ k else 0) := by
  rw [List.take_succ_eq_append_getElem hk, fitsL_snoc, hx]
  simp [Nat.min_eq_left (Nat.le_of_lt hk)]
end Go.Hp
namespace Go.Proofs.YtlhdalcipflblaaDoor
open Go Go.Eng Go.Hp Go.Pw1

-- meth_131_pairworks_heap_suits
-- meth_129_pairworks_heap_suits
theorem union_calls (l : List Nat) (hlt : ∀ a ∈ l, a < 2 ^ 12) (hl : l.length ≤ 1000) (q : Option Addr) (b o cap : Nat) (W : World) (hS : Sl W q b o 1 (setsV l)) : Calls Tryd.prog 46 #[.slice q l.length cap] W (Pure (.int .u64 ((orL l : Nat) : Int)) W) := by
  refine calls_start Tryd.func46 rfl rfl ?_
  refine RunC.seq ?_
  refine RunC.region ?_
  refine RunL.val (Val.pure rfl) rfl rfl rfl ?_
  refine RunL.nil ?_
  refine RunE.next ?_
  refine RunC.seq ?_
  refine RunC.seq ?_
  refine RunC.region ?_
  refine RunL.val (Val.pure rfl) rfl rfl rfl ?_
  refine RunL.val (Val.len_sl rfl sl_70) rfl rfl rfl ?_
  refine RunL.val (Val.pure rfl) rfl rfl rfl ?_
  refine RunL.nil ?_
  refine RunE.next ?_
  refine RunC.block ?_
  refine RunC.loopK (l.length) (fun k q => (7, .int .i64 (k : Int)) :: (2, .int .u64 ((orL (l.take k) : Nat) : Int)) :: q) (fun _ => _) (fun _ => []) (fun _ => True) trivial rfl (Sub.consE (t := 7) rfl rfl (Sub.consE (t := 2) rfl rfl (Sub.cons (t := 5) rfl (Sub.cons (t := 6) rfl (Sub.nil _))))) .nil ?_
  intro k kN kI
  clear kI
  refine RunC.seq ?_
  refine RunC.region ?_
  refine RunL.val (Val.pure rfl) rfl rfl rfl ?_
  refine RunL.nil ?_
  refine RunE.next ?_
  refine RunC.seq ?_
  refine RunC.cond rfl ?_ ?_
  · intro c0
    have c0' := c0; clear c0
    try simp only [decide_eq_true_eq, decide_eq_false_iff_not, Bool.not_eq_true', Bool.not_eq_false', Bool.and_eq_true, Bool.or_eq_true, Bool.and_eq_false_iff, Bool.or_eq_false_iff, Int.not_le, Int.not_lt] at c0'
    have hk : k < l.length := by omega
    obtain ⟨x, hx⟩ : ∃ x, l[k] = x := ⟨_, rfl⟩
    have h1 := hlt x (hx ▸ List.getElem_mem hk)
    have h2 := orL_lt (l.take k) (fun a ha => hlt a (List.mem_of_mem_take ha))
    have h3 := Nat.or_lt_two_pow h2 h1
    refine RunC.skip ?_
    refine RunE.next ?_
    refine RunC.seq ?_
    refine RunC.block ?_
    refine RunC.seq ?_
    refine RunC.region ?_
    refine RunL.val (Val.indexAddr_slp rfl rfl sl_70 (by omega) (by omega) (hS.ptrM hk)) rfl rfl rfl ?_
    refine RunL.val (Val.load_gen rfl (fun w hm => hS.loadM1 (by decide) hm (by simp) ty_68 hk (v := .int .u64 (x : Int)) (by simp [hx]))) rfl rfl rfl ?_
    refine RunL.val (Val.pure rfl) rfl rfl rfl ?_
    refine RunL.nil ?_
    refine RunE.next ?_
    refine RunC.region ?_
    refine RunL.val (Val.pure rfl) rfl rfl rfl ?_
    refine RunL.val (Val.pure rfl) rfl rfl rfl ?_
    refine RunL.val (Val.or (a := orL (l.take k)) (b := x) rfl rfl (by show _ < 18446744073709551616; omega) (by show _ < 18446744073709551616; omega) (u64_in (by omega))) rfl rfl rfl ?_
    refine RunL.val (Val.pure rfl) rfl rfl rfl ?_
    refine RunL.nil ?_
    refine RunE.block_normal ?_
    refine RunE.next ?_
    refine RunC.region ?_
    refine RunL.val (Val.add rfl rfl (IntWalk.i64_in _ ⟨by omega, by omega⟩)) rfl rfl rfl ?_
    refine RunL.val (Val.pure rfl) rfl rfl rfl ?_
    refine RunL.nil ?_
    exact RunE.round (by omega) trivial rfl (Sub.consE (t := 7) rfl rfl (Sub.consE (t := 2) rfl (by rw [List.take_succ_eq_append_getElem hk, orL_snoc, hx]) (Sub.cons (t := 5) rfl (Sub.cons (t := 6) rfl (Sub.nil _))))) .nil
  · intro c0
    have c0' := c0; clear c0
    try simp only [decide_eq_true_eq, decide_eq_false_iff_not, Bool.not_eq_true', Bool.not_eq_false', Bool.and_eq_true, Bool.or_eq_true, Bool.and_eq_false_iff, Bool.or_eq_false_iff, Int.not_le, Int.not_lt] at c0'
    obtain rfl : k = l.length := by omega
    simp only [List.take_length]
    refine RunC.exit ?_
    refine RunE.pass_exit ?_
    refine RunE.pass_exit ?_
    refine RunE.block_here ?_
    refine RunE.next ?_
    refine RunC.seq ?_
    refine RunC.region ?_
    refine RunL.val (Val.pure rfl) rfl rfl rfl ?_
    refine RunL.val (Val.pure rfl) rfl rfl rfl ?_
    refine RunL.nil ?_
    refine RunE.next ?_
    refine RunC.ret ?_
    exact RunE.retP (.r1 rfl (.tmp rfl)) (by first | rfl | simp)
theorem union2_calls (a c : Nat) (ha : a < 2 ^ 12) (hc : c < 2 ^ 12) (b : Nat) (W : World) (h : W.heap[b]? = some (.cells [.int .u64 (a : Int), .int .u64 (c : Int)].toArray 68 (0, 0))) : Calls Tryd.prog 46 #[.slice (some ⟨b, 0, none⟩) 2 2] W (Pure (.int .u64 ((a ||| c : Nat) : Int)) W) := by
  have h1 := union_calls [a, c] (by intro x hx; rcases List.mem_cons.1 hx with rfl | hx; exact ha; cases List.mem_singleton.1 hx; exact hc) (by simp) (some ⟨b, 0, none⟩) b 0 2 W (Sl.row1 h)
  have e : orL [a, c] = a ||| c := by simp [orL]
  rw [e] at h1
  exact h1
theorem has_calls (s i : Nat) (hs : s < 2 ^ 12) (hi : i ≤ 60) (W : World) : Calls Tryd.prog 45 #[.int .u64 (s : Int), .int .i64 (i : Int)] W (Pure (.bool (s.testBit i)) W) := by
  have h1 := Nat.shiftRight_le s i
  have h2 := Nat.and_le_right (n := s >>> i) (m := 1)
  refine calls_start Tryd.func45 rfl rfl ?_
  refine RunC.seq ?_
  refine RunC.region ?_
  refine RunL.val (Val.pure rfl) rfl rfl rfl ?_
  refine RunL.nil ?_
  refine RunE.next ?_
  refine RunC.seq ?_
  refine RunC.region ?_
  refine RunL.val (Val.pure rfl) rfl rfl rfl ?_
  refine RunL.val (Val.pure rfl) rfl rfl rfl ?_
  refine RunL.val (Val.shrN (a := s) (b := i) rfl rfl (by show i ≤ 64; omega)) rfl rfl rfl ?_
  refine RunL.val (Val.and (a := s >>> i) (b := 1) rfl rfl (by show _ < 18446744073709551616; omega) (by decide) (u64_in (by omega))) rfl rfl rfl ?_
  refine RunL.val (Val.pure rfl) rfl rfl rfl ?_
  refine RunL.val (Val.pure rfl) rfl rfl rfl ?_
  refine RunL.nil ?_
  refine RunE.next ?_
  refine RunC.ret ?_
  exact RunE.retP (.r1 rfl (.tmp rfl)) (by refine congrArg Value.bool ?_; rw [Nat.testBit_eq_decide_div_mod_eq, ← Nat.shiftRight_eq_div_pow, decide_eq_decide, Nat.and_one_is_mod]; omega)
theorem fit1_calls (x : En) (W : World) : Calls Tryd.prog 82 #[.agg x.cells.toArray] W (Pure (.string (bs x.number)) W) := by
  refine calls_start Tryd.func82 rfl rfl ?_
  refine RunC.seq ?_
  refine RunC.region ?_
  refine RunL.new (New.box rfl) rfl rfl rfl (fun b1 => ?_)
  refine RunL.val (Val.pure rfl) rfl rfl rfl ?_
  refine RunL.nil ?_
  refine RunE.next ?_
  refine RunC.seq ?_
  refine RunC.region ?_
  refine RunL.val (Val.fieldAddr rfl fld_95_1) rfl rfl rfl ?_
  refine RunL.val (Val.load_one rfl (.head _) ty_9 rfl) rfl rfl rfl ?_
  refine RunL.val (Val.pure rfl) rfl rfl rfl ?_
  refine RunL.nil ?_
  refine RunE.next ?_
  refine RunC.ret ?_
  exact RunE.retP (.r1 rfl (.tmp rfl)) (by first | rfl | simp)
theorem fit2_calls (x : En) (W : World) : Calls Tryd.prog 83 #[.agg x.cells.toArray] W (Pure (.string (bs x.title)) W) := by
  refine calls_start Tryd.func83 rfl rfl ?_
  refine RunC.seq ?_
  refine RunC.region ?_
  refine RunL.new (New.box rfl) rfl rfl rfl (fun b1 => ?_)
  refine RunL.val (Val.pure rfl) rfl rfl rfl ?_
  refine RunL.nil ?_
  refine RunE.next ?_
  refine RunC.seq ?_
  refine RunC.region ?_
  refine RunL.val (Val.fieldAddr rfl fld_95_2) rfl rfl rfl ?_
  refine RunL.val (Val.load_one rfl (.head _) ty_9 rfl) rfl rfl rfl ?_
  refine RunL.val (Val.pure rfl) rfl rfl rfl ?_
  refine RunL.nil ?_
  refine RunE.next ?_
  refine RunC.ret ?_
  exact RunE.retP (.r1 rfl (.tmp rfl)) (by first | rfl | simp)
theorem suits_calls (p s : Str) (hp : p.length ≤ 1000000) (hs : s.length ≤ 1000000) (W : World) : Calls Tryd.prog (pieceF p) #[pieceP p, .string (bs s)] W (Pure (.bool (suitsX p s)) W) := by
  unfold pieceF pieceP suitsX
  cases h : starAt p with
  | some i => exact ends_calls (p.take i) (p.drop (i + 1)) s (by simp; omega) (by simp; omega) hs W
  | none => exact whole_calls p s hp hs W
theorem isCall_piece {r : Regs} {x : Operand} {p : Str} {xs : List Operand} {vs : List Value} {ats : Array TypeId} {dst : Option Tmp} {gd : Option (Nat × Bool)} {ty : TypeId} {pos : String} {after : Array Edge} (hv : rev r x = some (pieceV p)) (hx : revs r xs = some vs) :
    IsCall Tryd.prog r { dst, op := .call { callee := .invoke x "pairworks/heap.suits", args := xs.toArray, argTypes := ats }, type := ty, pos, after, guard := gd } (pieceF p) (pieceP p :: vs).toArray := by
  unfold pieceV pieceT pieceP at hv
  unfold pieceF pieceP
  cases h : starAt p with
  | some i =>
    rw [h] at hv
    exact isCall_invoke hv hx (fun w => meth_131_pairworks_heap_suits _ w) ent_129
  | none =>
    rw [h] at hv
    exact isCall_invoke hv hx (fun w => meth_129_pairworks_heap_suits _ w) ent_128
theorem fit_calls (t : Tn) (ht : t.number.length ≤ 1000000 ∧ t.text.length ≤ 1000000) (es : List En) (hes : es.length ≤ 12) (hen : ∀ x ∈ es, x.number.length ≤ 1000000 ∧ x.title.length ≤ 1000000) (bh : Nat) (v0 v1 v3 v4 : Value) (qe : Option Addr) (be ce : Nat) (W : World)
    (hv : W.heap[bh]? = some (.cells [v0, v1, .slice qe es.length ce, v3, v4].toArray 73 (0, 0))) (hS : Sl W qe be 0 3 (es.map En.cells)) :
    Calls Tryd.prog 64 #[.pointer (some ⟨bh, 0, none⟩), .agg t.cells.toArray] W (Pure (.int .u64 ((fitsL t 0 es : Nat) : Int)) W) := by
  refine calls_start Tryd.func64 rfl rfl ?_
  refine RunC.seq ?_
  refine RunC.region ?_
  refine RunL.new (New.box rfl) rfl rfl rfl (fun b3 => ?_)
  refine RunL.val (Val.pure rfl) rfl rfl rfl ?_
  refine RunL.nil ?_
  refine RunE.next ?_
  refine RunC.scope ?_
  refine RunC.seq ?_
  apply RunC.drawJ (J := J1 _ _ _ _ _ _) 10 fol_ (.cons .here rfl .nil)
  · refine RunA.val (i := 0) rfl (by kernel_rfl) (by kernel_rfl) (Val.fieldAddr rfl fld_50_1) rfl rfl rfl (fun _ _ _ h => h) (.cons .here rfl .nil) rfl ?_
    refine RunA.val (i := 1) rfl (by kernel_rfl) (by kernel_rfl) (Val.load_one rfl (.head _) ty_9 rfl) rfl rfl rfl (fun _ _ _ h => h) (.cons .here rfl .nil) rfl ?_
    refine RunA.val (i := 4) rfl (by kernel_rfl) (by kernel_rfl) (Val.fieldAddr rfl fld_50_2) rfl rfl rfl (fun _ _ _ h => h) (.cons .here rfl .nil) rfl ?_
    refine RunA.val (i := 5) rfl (by kernel_rfl) (by kernel_rfl) (Val.load_one rfl (.head _) ty_9 rfl) rfl rfl rfl (fun _ _ _ h => h) (.cons .here rfl .nil) rfl ?_
    refine RunA.all (rs := [2, 9]) (by kernel_rfl) (by simp) (by kernel_rfl) (fun m hm => ?_)
    simp only [List.mem_cons, List.not_mem_nil, or_false] at hm
    rcases hm with rfl | rfl
    · refine RunI.callP rfl (isCall_func rfl ent_81) rfl rfl rfl (fun w hm => pieceOf_calls t.number ht.1 w) (RunK.toA (.cons .here rfl .nil) (.cons .here rfl .nil) rfl ?_)
      refine RunA.val (i := 3) rfl (by kernel_rfl) (by kernel_rfl) (Val.build (parts := [(0, .tmp 12), (1, .func 82)]) rfl zero_117 places_117 rfl) rfl rfl rfl (fun _ _ _ h => h) (.cons .here rfl .nil) rfl ?_
      refine RunA.all (rs := [6, 9]) (by kernel_rfl) (by simp) (by kernel_rfl) (fun m hm => ?_)
      simp only [List.mem_cons, List.not_mem_nil, or_false] at hm
      rcases hm with rfl | rfl
      · refine RunI.callP rfl (isCall_func rfl ent_81) rfl rfl rfl (fun w hm => pieceOf_calls t.text ht.2 w) (RunK.toA (.cons .here rfl .nil) (.cons .here rfl .nil) rfl ?_)
        refine RunA.val (i := 7) rfl (by kernel_rfl) (by kernel_rfl) (Val.build (parts := [(0, .tmp 16), (1, .func 83)]) rfl zero_117 places_117 rfl) rfl rfl rfl (fun _ _ _ h => h) (.cons .here rfl .nil) rfl ?_
        refine RunA.val (i := 8) rfl (by kernel_rfl) (by kernel_rfl) (Val.build (parts := [(0, .tmp 13), (1, .tmp 17)]) rfl zero_118 places_118 rfl) rfl rfl rfl (fun _ _ _ h => h) (.cons .here rfl .nil) rfl ?_
        refine RunA.one (i := 9) (by kernel_rfl) (by kernel_rfl) ?_
        refine RunI.new rfl (New.alloc zero_118) rfl rfl rfl (fun b5 => (RunK.toA (.cons .here rfl (.cons .here rfl .nil)) (.cons (.there .here) rfl .nil) rfl ?_))
        refine RunA.toB (by kernel_rfl) ?_
        refine RunB.one (i := 10) (by kernel_rfl) ?_
        refine RunI.sto rfl (Sto.store rfl rfl .here ty_118 rfl rfl) rfl rfl (RunK.toB ?_)
        refine RunB.done (by kernel_rfl) ?_
        exact RunE.join1 b5 (Sub.refl _) (Pick.refl _)
      · refine RunI.new rfl (New.alloc zero_118) rfl rfl rfl (fun b5 => (RunK.toA (.cons .here rfl (.cons .here rfl .nil)) (.cons (.there .here) rfl .nil) rfl ?_))
        refine RunA.one (i := 6) (by kernel_rfl) (by kernel_rfl) ?_
        refine RunI.callP rfl (isCall_func rfl ent_81) rfl rfl rfl (fun w hm => pieceOf_calls t.text ht.2 w) (RunK.toA (.cons .here rfl (.cons .here rfl .nil)) (.cons .here rfl (.cons .here rfl .nil)) rfl ?_)
        refine RunA.val (i := 7) rfl (by kernel_rfl) (by kernel_rfl) (Val.build (parts := [(0, .tmp 16), (1, .func 83)]) rfl zero_117 places_117 rfl) rfl rfl rfl (fun _ _ _ h => h) (.cons .here rfl (.cons .here rfl .nil)) rfl ?_
        refine RunA.val (i := 8) rfl (by kernel_rfl) (by kernel_rfl) (Val.build (parts := [(0, .tmp 13), (1, .tmp 17)]) rfl zero_118 places_118 rfl) rfl rfl rfl (fun _ _ _ h => h) (.cons .here rfl (.cons .here rfl .nil)) rfl ?_
        refine RunA.toB (by kernel_rfl) ?_
        refine RunB.one (i := 10) (by kernel_rfl) ?_
        refine RunI.sto rfl (Sto.store rfl rfl .here ty_118 rfl rfl) rfl rfl (RunK.toB ?_)
        refine RunB.done (by kernel_rfl) ?_
        exact RunE.join1 b5 (Sub.cons (t := 5) rfl (Sub.cons (t := 18) rfl (Sub.cons (t := 17) rfl (Sub.cons (t := 16) rfl (Sub.cons (t := 13) rfl (Sub.cons (t := 12) rfl (Sub.cons (t := 15) rfl (Sub.cons (t := 14) rfl (Sub.cons (t := 11) rfl (Sub.cons (t := 10) rfl (Sub.skip rfl (Sub.skip rfl (Sub.skip rfl (Sub.skip rfl (Sub.skip rfl (Sub.skip rfl (Sub.skip rfl (Sub.skip rfl (Sub.skip rfl (Sub.skip rfl (Sub.refl _))))))))))))))))))))) (.cons .here rfl (.cons .here rfl .nil))
    · refine RunI.new rfl (New.alloc zero_118) rfl rfl rfl (fun b5 => (RunK.toA (.cons .here rfl (.cons .here rfl .nil)) (.cons (.there .here) rfl .nil) rfl ?_))
      refine RunA.one (i := 2) (by kernel_rfl) (by kernel_rfl) ?_
      refine RunI.callP rfl (isCall_func rfl ent_81) rfl rfl rfl (fun w hm => pieceOf_calls t.number ht.1 w) (RunK.toA (.cons .here rfl (.cons .here rfl .nil)) (.cons .here rfl (.cons .here rfl .nil)) rfl ?_)
      refine RunA.val (i := 3) rfl (by kernel_rfl) (by kernel_rfl) (Val.build (parts := [(0, .tmp 12), (1, .func 82)]) rfl zero_117 places_117 rfl) rfl rfl rfl (fun _ _ _ h => h) (.cons .here rfl (.cons .here rfl .nil)) rfl ?_
      refine RunA.one (i := 6) (by kernel_rfl) (by kernel_rfl) ?_
      refine RunI.callP rfl (isCall_func rfl ent_81) rfl rfl rfl (fun w hm => pieceOf_calls t.text ht.2 w) (RunK.toA (.cons .here rfl (.cons .here rfl .nil)) (.cons .here rfl (.cons .here rfl .nil)) rfl ?_)
      refine RunA.val (i := 7) rfl (by kernel_rfl) (by kernel_rfl) (Val.build (parts := [(0, .tmp 16), (1, .func 83)]) rfl zero_117 places_117 rfl) rfl rfl rfl (fun _ _ _ h => h) (.cons .here rfl (.cons .here rfl .nil)) rfl ?_
      refine RunA.val (i := 8) rfl (by kernel_rfl) (by kernel_rfl) (Val.build (parts := [(0, .tmp 13), (1, .tmp 17)]) rfl zero_118 places_118 rfl) rfl rfl rfl (fun _ _ _ h => h) (.cons .here rfl (.cons .here rfl .nil)) rfl ?_
      refine RunA.toB (by kernel_rfl) ?_
      refine RunB.one (i := 10) (by kernel_rfl) ?_
      refine RunI.sto rfl (Sto.store rfl rfl .here ty_118 rfl rfl) rfl rfl (RunK.toB ?_)
      refine RunB.done (by kernel_rfl) ?_
      exact RunE.join1 b5 (Sub.cons (t := 5) rfl (Sub.cons (t := 18) rfl (Sub.cons (t := 17) rfl (Sub.cons (t := 16) rfl (Sub.cons (t := 13) rfl (Sub.cons (t := 12) rfl (Sub.cons (t := 15) rfl (Sub.cons (t := 14) rfl (Sub.cons (t := 11) rfl (Sub.cons (t := 10) rfl (Sub.skip rfl (Sub.skip rfl (Sub.skip rfl (Sub.skip rfl (Sub.skip rfl (Sub.skip rfl (Sub.skip rfl (Sub.skip rfl (Sub.skip rfl (Sub.skip rfl (Sub.refl _))))))))))))))))))))) (.cons .here rfl (.cons .here rfl .nil))
  refine J1.out (fun b5 => ?_)
  refine RunE.next ?_
  refine RunC.seq ?_
  refine RunC.label ?_
  refine RunE.next ?_
  refine RunC.seq ?_
  refine RunC.seq ?_
  refine RunC.region ?_
  refine RunL.val (Val.pure rfl) rfl rfl rfl ?_
  refine RunL.val (Val.pure rfl) rfl rfl rfl ?_
  refine RunL.val (Val.fieldAddr rfl fld_73_1) rfl rfl rfl ?_
  refine RunL.val (Val.oload_one rfl hv (by simp) ty_69 rfl) rfl rfl rfl ?_
  refine RunL.val (Val.len_sl rfl sl_69) rfl rfl rfl ?_
  refine RunL.val (Val.pure rfl) rfl rfl rfl ?_
  refine RunL.nil ?_
  refine RunE.next ?_
  refine RunC.block ?_
  refine RunC.loopK (es.length) (fun k q => (24, .int .i64 (k : Int)) :: (4, .int .u64 ((fitsL t 0 (es.take k) : Nat) : Int)) :: q) (fun _ => _) (fun _ => []) (fun _ => True) trivial rfl (Sub.consE (t := 24) rfl rfl (Sub.consE (t := 4) rfl rfl (Sub.cons (t := 3) rfl (Sub.cons (t := 5) rfl (Sub.cons (t := 22) rfl (Sub.cons (t := 23) rfl (Sub.nil _))))))) (.cons .here rfl (.cons .here rfl .nil)) ?_
  intro k kN kI
  clear kI
  refine RunC.seq ?_
  refine RunC.region ?_
  refine RunL.val (Val.pure rfl) rfl rfl rfl ?_
  refine RunL.nil ?_
  refine RunE.next ?_
  refine RunC.seq ?_
  refine RunC.cond rfl ?_ ?_
  · intro c0
    have c0' := c0; clear c0
    try simp only [decide_eq_true_eq, decide_eq_false_iff_not, Bool.not_eq_true', Bool.not_eq_false', Bool.and_eq_true, Bool.or_eq_true, Bool.and_eq_false_iff, Bool.or_eq_false_iff, Int.not_le, Int.not_lt] at c0'
    have hk : k < es.length := by omega
    obtain ⟨x, hx⟩ : ∃ x, es[k] = x := ⟨_, rfl⟩
    have hxs := hen x (hx ▸ List.getElem_mem hk)
    have h1 := fitsL_lt t (es.take k) 0
    rw [List.length_take, Nat.zero_add, Nat.min_eq_left (by omega)] at h1
    have h2 : 2 ^ k < 2 ^ 12 := Nat.pow_lt_pow_right (by decide) (by omega)
    refine RunC.skip ?_
    refine RunE.next ?_
    refine RunC.seq ?_
    refine RunC.block ?_
    refine RunC.seq ?_
    refine RunC.region ?_
    refine RunL.val (Val.pure rfl) rfl rfl rfl ?_
    refine RunL.val (Val.indexAddr_slp rfl rfl sl_69 (by omega) (by omega) (hS.ptrM hk)) rfl rfl rfl ?_
    refine RunL.val (Val.load_gen rfl (fun w hm => hS.loadX (by decide) hm (by simp) ty_95 hk hx)) rfl rfl rfl ?_
    refine RunL.new (New.alloc zero_95) rfl rfl rfl (fun b7 => ?_)
    refine RunL.val (Val.pure rfl) rfl rfl rfl ?_
    refine RunL.sto (Sto.store rfl rfl .here ty_95 rfl rfl) rfl rfl ?_
    refine RunL.nil ?_
    refine RunE.next ?_
    refine RunC.seq ?_
    refine RunC.seq ?_
    refine RunC.region ?_
    refine RunL.val (Val.fieldAddr rfl fld_50_0) rfl rfl rfl ?_
    refine RunL.val (Val.load_one rfl (.tail _ (.tail _ (.head _))) ty_3 rfl) rfl rfl rfl ?_
    refine RunL.val (Val.pure rfl) rfl rfl rfl ?_
    refine RunL.val (Val.pure rfl) rfl rfl rfl ?_
    refine RunL.andPart (dj := 32) (dp := 38) 6 rfl (fun g32 => by
      have g32' := g32
      try simp only [decide_eq_true_eq, decide_eq_false_iff_not, Bool.not_eq_true', Bool.not_eq_false', Bool.and_eq_true, Bool.or_eq_true, Bool.and_eq_false_iff, Bool.or_eq_false_iff, Int.not_le, Int.not_lt] at g32'
      refine RunL.val (Val.fieldAddr rfl fld_50_0) rfl rfl rfl ?_
      refine RunL.val (Val.load_one rfl (.tail _ (.tail _ (.head _))) ty_3 rfl) rfl rfl rfl ?_
      refine RunL.val (Val.fieldAddr rfl fld_95_0) rfl rfl rfl ?_
      refine RunL.val (Val.load_one rfl (.head _) ty_3 rfl) rfl rfl rfl ?_
      refine RunL.val (Val.pure rfl) rfl rfl rfl ?_
      refine RunL.val (Val.pure rfl) rfl rfl rfl ?_
      exact RunL.segEnd (Sub.cons rfl (Sub.skip rfl (Sub.skip rfl (Sub.skip rfl (Sub.skip rfl (Sub.skip rfl (Sub.skip rfl (Sub.same rfl (by rw [g32]) (Sub.refl _))))))))) (List.Sublist.refl _)
    ) (fun g32 => by
      have g32' := g32
      try simp only [decide_eq_true_eq, decide_eq_false_iff_not, Bool.not_eq_true', Bool.not_eq_false', Bool.and_eq_true, Bool.or_eq_true, Bool.and_eq_false_iff, Bool.or_eq_false_iff, Int.not_le, Int.not_lt] at g32'
      iterate 5 refine RunL.no rfl rfl rfl ?_
      refine RunL.val (Val.pure rfl) rfl rfl rfl ?_
      exact RunL.segEnd (Sub.cons rfl (Sub.skip rfl (Sub.skip rfl (Sub.skip rfl (Sub.skip rfl (Sub.skip rfl (Sub.skip rfl (Sub.same rfl (by rw [g32]) (Sub.refl _))))))))) (List.Sublist.refl _)
    ) ?_
    refine RunL.nil ?_
    refine RunE.next ?_
    refine RunC.cond rfl ?_ ?_
    · intro c1
      have c1' := c1; clear c1
      try simp only [decide_eq_true_eq, decide_eq_false_iff_not, Bool.not_eq_true', Bool.not_eq_false', Bool.and_eq_true, Bool.or_eq_true, Bool.and_eq_false_iff, Bool.or_eq_false_iff, Int.not_le, Int.not_lt] at c1'
      have hf : fitX t x = false := by simp [fitX, c1']
      refine RunC.exit ?_
      refine RunE.pass_exit ?_
      refine RunE.block_here ?_
      refine RunE.next ?_
      refine RunC.region ?_
      refine RunL.val (Val.add rfl rfl (IntWalk.i64_in _ ⟨by omega, by omega⟩)) rfl rfl rfl ?_
      refine RunL.val (Val.pure rfl) rfl rfl rfl ?_
      refine RunL.nil ?_
      exact RunE.round (by omega) trivial rfl (Sub.consE (t := 24) rfl rfl (Sub.consE (t := 4) rfl (by rw [fits_step hk hx, hf]; simp) (Sub.cons (t := 3) rfl (Sub.cons (t := 5) rfl (Sub.cons (t := 22) rfl (Sub.cons (t := 23) rfl (Sub.nil _))))))) (.cons (.there .here) rfl (.cons (.there .here) rfl .nil))
    · intro c1
      have c1' := c1; clear c1
      try simp only [decide_eq_true_eq, decide_eq_false_iff_not, Bool.not_eq_true', Bool.not_eq_false', Bool.and_eq_true, Bool.or_eq_true, Bool.and_eq_false_iff, Bool.or_eq_false_iff, Int.not_le, Int.not_lt] at c1'
      have hcol : t.colour = 0 ∨ t.colour = x.colour := by omega
      refine RunC.skip ?_
      refine RunE.next ?_
      refine RunC.seq ?_
      refine RunC.seq ?_
      refine RunC.region ?_
      refine RunL.val (Val.load_agg rfl (.tail _ (.head _)) ty_118 rfl) rfl rfl rfl ?_
      refine RunL.val (Val.pure rfl) rfl rfl rfl ?_
      refine RunL.nil ?_
      refine RunE.next ?_
      refine RunC.block ?_
      refine RunC.unroll 2 ?_
      refine RunC.seq ?_
      refine RunC.region ?_
      refine RunL.val (Val.pure rfl) rfl rfl rfl ?_
      refine RunL.nil ?_
      refine RunE.next ?_
      refine RunC.seq ?_
      refine RunC.cond rfl ?_ (fun h => absurd h (by decide))
      intro c2
      clear c2
      refine RunC.skip ?_
      refine RunE.next ?_
      refine RunC.seq ?_
      refine RunC.block ?_
      refine RunC.seq ?_
      refine RunC.region ?_
      refine RunL.val (Val.indexN rfl rfl arrN_118 (by decide) (by decide) rfl) rfl rfl rfl ?_
      refine RunL.new (New.alloc zero_117) rfl rfl rfl (fun b9 => ?_)
      refine RunL.sto (Sto.store rfl rfl .here ty_117 rfl rfl) rfl rfl ?_
      refine RunL.nil ?_
      refine RunE.next ?_
      refine RunC.seq ?_
      refine RunC.draw 8 fol_ (.cons .here rfl (.cons .here rfl (.cons .here rfl (.cons .here rfl .nil)))) ?_
      refine RunA.val (i := 0) rfl (by kernel_rfl) (by kernel_rfl) (Val.fieldAddr rfl fld_117_0) rfl rfl rfl (fun _ _ _ h => h) (.cons .here rfl (.cons .here rfl (.cons .here rfl (.cons .here rfl .nil)))) rfl ?_
      refine RunA.val (i := 1) rfl (by kernel_rfl) (by kernel_rfl) (Val.load_one rfl (.head _) ty_113 rfl) rfl rfl rfl (fun _ _ _ h => h) (.cons .here rfl (.cons .here rfl (.cons .here rfl (.cons .here rfl .nil)))) rfl ?_
      refine RunA.val (i := 2) rfl (by kernel_rfl) (by kernel_rfl) (Val.fieldAddr rfl fld_117_1) rfl rfl rfl (fun _ _ _ h => h) (.cons .here rfl (.cons .here rfl (.cons .here rfl (.cons .here rfl .nil)))) rfl ?_
      refine RunA.val (i := 3) rfl (by kernel_rfl) (by kernel_rfl) (Val.load_one rfl (.head _) ty_115 rfl) rfl rfl rfl (fun _ _ _ h => h) (.cons .here rfl (.cons .here rfl (.cons .here rfl (.cons .here rfl .nil)))) rfl ?_
      refine RunA.val (i := 4) rfl (by kernel_rfl) (by kernel_rfl) (Val.load_agg rfl (.tail _ (.head _)) ty_95 rfl) rfl rfl rfl (fun _ _ _ h => h) (.cons .here rfl (.cons .here rfl (.cons .here rfl (.cons .here rfl .nil)))) rfl ?_
      refine RunA.val (i := 6) rfl (by kernel_rfl) (by kernel_rfl) (Val.nilIface (t := pieceT _) (v := pieceP _) rfl) rfl rfl rfl (fun _ _ _ h => h) (.cons .here rfl (.cons .here rfl (.cons .here rfl (.cons .here rfl .nil)))) rfl ?_
      refine RunA.val (i := 7) rfl (by kernel_rfl) (by kernel_rfl) (Val.pure rfl) rfl rfl rfl (fun _ _ _ h => h) (.cons .here rfl (.cons .here rfl (.cons .here rfl (.cons .here rfl .nil)))) rfl ?_
      refine RunA.one (i := 5) (by kernel_rfl) (by kernel_rfl) ?_
      refine RunI.callP rfl (isCall_value rfl rfl ent_82) rfl rfl rfl (fun w hm => fit1_calls x w) (RunK.toA (.cons .here rfl (.cons .here rfl (.cons .here rfl (.cons .here rfl .nil)))) (.cons .here rfl (.cons .here rfl (.cons .here rfl (.cons .here rfl .nil)))) rfl ?_)
      refine RunA.toB (by kernel_rfl) ?_
      refine RunB.one (i := 8) (by kernel_rfl) ?_
      refine RunI.callP rfl (isCall_piece rfl rfl) rfl rfl rfl (fun w hm => suits_calls _ _ (by first | exact ht.1 | exact ht.2) (by first | exact hxs.1 | exact hxs.2) w) (RunK.toB ?_)
      refine RunB.one (i := 9) (by kernel_rfl) ?_
      refine RunI.val rfl (Val.pure rfl) rfl rfl rfl (RunK.toB ?_)
      refine RunB.done (by kernel_rfl) ?_
      refine RunE.next ?_
      refine RunC.cond rfl ?_ ?_
      · intro c3
        have c3' := c3; clear c3
        try simp only [decide_eq_true_eq, decide_eq_false_iff_not, Bool.not_eq_true', Bool.not_eq_false', Bool.and_eq_true, Bool.or_eq_true, Bool.and_eq_false_iff, Bool.or_eq_false_iff, Int.not_le, Int.not_lt] at c3'
        have hf : fitX t x = false := by simp [fitX, c3']
        refine RunC.exit ?_
        refine RunE.block_other rfl ?_
        refine RunE.pass_exit ?_
        refine RunE.pass_exit ?_
        refine RunE.block_other rfl ?_
        refine RunE.pass_exit ?_
        refine RunE.block_here ?_
        refine RunE.next ?_
        refine RunC.region ?_
        refine RunL.val (Val.add rfl rfl (IntWalk.i64_in _ ⟨by omega, by omega⟩)) rfl rfl rfl ?_
        refine RunL.val (Val.pure rfl) rfl rfl rfl ?_
        refine RunL.nil ?_
        exact RunE.round (by omega) trivial rfl (Sub.consE (t := 24) rfl rfl (Sub.consE (t := 4) rfl (by rw [fits_step hk hx, hf]; simp) (Sub.cons (t := 3) rfl (Sub.cons (t := 5) rfl (Sub.cons (t := 22) rfl (Sub.cons (t := 23) rfl (Sub.nil _))))))) (.cons (.there (.there .here)) rfl (.cons (.there (.there .here)) rfl .nil))
      · intro c3
        have c3' := c3; clear c3
        try simp only [decide_eq_true_eq, decide_eq_false_iff_not, Bool.not_eq_true', Bool.not_eq_false', Bool.and_eq_true, Bool.or_eq_true, Bool.and_eq_false_iff, Bool.or_eq_false_iff, Int.not_le, Int.not_lt] at c3'
        refine RunC.skip ?_
        refine RunE.block_normal ?_
        refine RunE.next ?_
        refine RunC.region ?_
        refine RunL.val (Val.add rfl rfl (IntWalk.i64_in _ ⟨by decide, by decide⟩)) rfl rfl rfl ?_
        refine RunL.val (Val.pure rfl) rfl rfl rfl ?_
        refine RunL.nil ?_
        refine RunE.keep (Sub.cons (t := 3) rfl (Sub.cons (t := 4) rfl (Sub.cons (t := 5) rfl (Sub.cons (t := 6) rfl (Sub.cons (t := 7) rfl (Sub.cons (t := 22) rfl (Sub.cons (t := 23) rfl (Sub.cons (t := 24) rfl (Sub.cons (t := 39) rfl (Sub.cons (t := 40) rfl (Sub.nil _))))))))))) (.cons (.there .here) rfl (.cons (.there .here) rfl (.cons (.there .here) rfl .nil))) ?_
        refine RunE.rounds ?_
        refine RunC.seq ?_
        refine RunC.region ?_
        refine RunL.val (Val.pure rfl) rfl rfl rfl ?_
        refine RunL.nil ?_
        refine RunE.next ?_
        refine RunC.seq ?_
        refine RunC.cond rfl ?_ (fun h => absurd h (by decide))
        intro c2
        clear c2
        refine RunC.skip ?_
        refine RunE.next ?_
        refine RunC.seq ?_
        refine RunC.block ?_
        refine RunC.seq ?_
        refine RunC.region ?_
        refine RunL.val (Val.indexN rfl rfl arrN_118 (by decide) (by decide) rfl) rfl rfl rfl ?_
        refine RunL.new (New.alloc zero_117) rfl rfl rfl (fun b9 => ?_)
        refine RunL.sto (Sto.store rfl rfl .here ty_117 rfl rfl) rfl rfl ?_
        refine RunL.nil ?_
        refine RunE.next ?_
        refine RunC.seq ?_
        refine RunC.draw 8 fol_ (.cons .here rfl (.cons .here rfl (.cons .here rfl (.cons .here rfl .nil)))) ?_
        refine RunA.val (i := 0) rfl (by kernel_rfl) (by kernel_rfl) (Val.fieldAddr rfl fld_117_0) rfl rfl rfl (fun _ _ _ h => h) (.cons .here rfl (.cons .here rfl (.cons .here rfl (.cons .here rfl .nil)))) rfl ?_
        refine RunA.val (i := 1) rfl (by kernel_rfl) (by kernel_rfl) (Val.load_one rfl (.head _) ty_113 rfl) rfl rfl rfl (fun _ _ _ h => h) (.cons .here rfl (.cons .here rfl (.cons .here rfl (.cons .here rfl .nil)))) rfl ?_
        refine RunA.val (i := 2) rfl (by kernel_rfl) (by kernel_rfl) (Val.fieldAddr rfl fld_117_1) rfl rfl rfl (fun _ _ _ h => h) (.cons .here rfl (.cons .here rfl (.cons .here rfl (.cons .here rfl .nil)))) rfl ?_
        refine RunA.val (i := 3) rfl (by kernel_rfl) (by kernel_rfl) (Val.load_one rfl (.head _) ty_115 rfl) rfl rfl rfl (fun _ _ _ h => h) (.cons .here rfl (.cons .here rfl (.cons .here rfl (.cons .here rfl .nil)))) rfl ?_
        refine RunA.val (i := 4) rfl (by kernel_rfl) (by kernel_rfl) (Val.load_agg rfl (.tail _ (.head _)) ty_95 rfl) rfl rfl rfl (fun _ _ _ h => h) (.cons .here rfl (.cons .here rfl (.cons .here rfl (.cons .here rfl .nil)))) rfl ?_
        refine RunA.val (i := 6) rfl (by kernel_rfl) (by kernel_rfl) (Val.nilIface (t := pieceT _) (v := pieceP _) rfl) rfl rfl rfl (fun _ _ _ h => h) (.cons .here rfl (.cons .here rfl (.cons .here rfl (.cons .here rfl .nil)))) rfl ?_
        refine RunA.val (i := 7) rfl (by kernel_rfl) (by kernel_rfl) (Val.pure rfl) rfl rfl rfl (fun _ _ _ h => h) (.cons .here rfl (.cons .here rfl (.cons .here rfl (.cons .here rfl .nil)))) rfl ?_
        refine RunA.one (i := 5) (by kernel_rfl) (by kernel_rfl) ?_
        refine RunI.callP rfl (isCall_value rfl rfl ent_83) rfl rfl rfl (fun w hm => fit2_calls x w) (RunK.toA (.cons .here rfl (.cons .here rfl (.cons .here rfl (.cons .here rfl .nil)))) (.cons .here rfl (.cons .here rfl (.cons .here rfl (.cons .here rfl .nil)))) rfl ?_)
        refine RunA.toB (by kernel_rfl) ?_
        refine RunB.one (i := 8) (by kernel_rfl) ?_
        refine RunI.callP rfl (isCall_piece rfl rfl) rfl rfl rfl (fun w hm => suits_calls _ _ (by first | exact ht.1 | exact ht.2) (by first | exact hxs.1 | exact hxs.2) w) (RunK.toB ?_)
        refine RunB.one (i := 9) (by kernel_rfl) ?_
        refine RunI.val rfl (Val.pure rfl) rfl rfl rfl (RunK.toB ?_)
        refine RunB.done (by kernel_rfl) ?_
        refine RunE.next ?_
        refine RunC.cond rfl ?_ ?_
        · intro c3
          have c3' := c3; clear c3
          try simp only [decide_eq_true_eq, decide_eq_false_iff_not, Bool.not_eq_true', Bool.not_eq_false', Bool.and_eq_true, Bool.or_eq_true, Bool.and_eq_false_iff, Bool.or_eq_false_iff, Int.not_le, Int.not_lt] at c3'
          have hf : fitX t x = false := by simp [fitX, c3']
          refine RunC.exit ?_
          refine RunE.block_other rfl ?_
          refine RunE.pass_exit ?_
          refine RunE.pass_exit ?_
          refine RunE.block_other rfl ?_
          refine RunE.pass_exit ?_
          refine RunE.block_here ?_
          refine RunE.next ?_
          refine RunC.region ?_
          refine RunL.val (Val.add rfl rfl (IntWalk.i64_in _ ⟨by omega, by omega⟩)) rfl rfl rfl ?_
          refine RunL.val (Val.pure rfl) rfl rfl rfl ?_
          refine RunL.nil ?_
          exact RunE.round (by omega) trivial rfl (Sub.consE (t := 24) rfl rfl (Sub.consE (t := 4) rfl (by rw [fits_step hk hx, hf]; simp) (Sub.cons (t := 3) rfl (Sub.cons (t := 5) rfl (Sub.cons (t := 22) rfl (Sub.cons (t := 23) rfl (Sub.nil _))))))) (.cons (.there (.there .here)) rfl (.cons (.there (.there .here)) rfl .nil))
        · intro c3
          have c3' := c3; clear c3
          try simp only [decide_eq_true_eq, decide_eq_false_iff_not, Bool.not_eq_true', Bool.not_eq_false', Bool.and_eq_true, Bool.or_eq_true, Bool.and_eq_false_iff, Bool.or_eq_false_iff, Int.not_le, Int.not_lt] at c3'
          refine RunC.skip ?_
          refine RunE.block_normal ?_
          refine RunE.next ?_
          refine RunC.region ?_
          refine RunL.val (Val.add rfl rfl (IntWalk.i64_in _ ⟨by decide, by decide⟩)) rfl rfl rfl ?_
          refine RunL.val (Val.pure rfl) rfl rfl rfl ?_
          refine RunL.nil ?_
          refine RunE.keep (Sub.cons (t := 3) rfl (Sub.cons (t := 4) rfl (Sub.cons (t := 5) rfl (Sub.cons (t := 6) rfl (Sub.cons (t := 7) rfl (Sub.cons (t := 22) rfl (Sub.cons (t := 23) rfl (Sub.cons (t := 24) rfl (Sub.cons (t := 39) rfl (Sub.cons (t := 40) rfl (Sub.nil _))))))))))) (.cons (.there .here) rfl (.cons (.there .here) rfl (.cons (.there .here) rfl .nil))) ?_
          refine RunE.rounds ?_
          refine RunC.seq ?_
          refine RunC.region ?_
          refine RunL.val (Val.pure rfl) rfl rfl rfl ?_
          refine RunL.nil ?_
          refine RunE.next ?_
          refine RunC.seq ?_
          refine RunC.cond rfl (fun h => absurd h (by decide)) ?_
          intro c2
          clear c2
          refine RunC.exit ?_
          refine RunE.pass_exit ?_
          refine RunE.pass_exit ?_
          refine RunE.block_here ?_
          refine RunE.next ?_
          refine RunC.region ?_
          have hf : fitX t x = true := by (have q1 : suitsX t.number x.number = true := (by assumption); have q2 : suitsX t.text x.title = true := (by assumption); simp [fitX, q1, q2, hcol])
          refine RunL.val (Val.pure rfl) rfl rfl rfl ?_
          refine RunL.val (Val.pure rfl) rfl rfl rfl ?_
          refine RunL.val (Val.shl1 (b := k) rfl rfl (by show k ≤ 64; omega) (u64_in (n := 2 ^ k) (by omega))) rfl rfl rfl ?_
          refine RunL.new (New.buildSlice (parts := [(0, .tmp 54), (1, .tmp 56)]) rfl sl_70 zero_68 rfl rfl rfl rfl) rfl rfl rfl (fun b57 => ?_)
          refine RunL.callP (isCall_func rfl ent_46) rfl rfl rfl (fun w hm => union2_calls (fitsL t 0 (es.take k)) (2 ^ k) (by omega) (by omega) b57 w (hm.at (.head _))) ?_
          refine RunL.val (Val.pure rfl) rfl rfl rfl ?_
          refine RunL.nil ?_
          refine RunE.block_normal ?_
          refine RunE.next ?_
          refine RunC.region ?_
          refine RunL.val (Val.add rfl rfl (IntWalk.i64_in _ ⟨by omega, by omega⟩)) rfl rfl rfl ?_
          refine RunL.val (Val.pure rfl) rfl rfl rfl ?_
          refine RunL.nil ?_
          exact RunE.round (by omega) trivial rfl (Sub.consE (t := 24) rfl rfl (Sub.consE (t := 4) rfl (by rw [fits_step hk hx, hf]; simp) (Sub.cons (t := 3) rfl (Sub.cons (t := 5) rfl (Sub.cons (t := 22) rfl (Sub.cons (t := 23) rfl (Sub.nil _))))))) (.cons (.there (.there .here)) rfl (.cons (.there (.there .here)) rfl .nil))
  · intro c0
    have c0' := c0; clear c0
    try simp only [decide_eq_true_eq, decide_eq_false_iff_not, Bool.not_eq_true', Bool.not_eq_false', Bool.and_eq_true, Bool.or_eq_true, Bool.and_eq_false_iff, Bool.or_eq_false_iff, Int.not_le, Int.not_lt] at c0'
    obtain rfl : k = es.length := by omega
    simp only [List.take_length]
    refine RunC.exit ?_
    refine RunE.pass_exit ?_
    refine RunE.pass_exit ?_
    refine RunE.block_here ?_
    refine RunE.next ?_
    refine RunC.seq ?_
    refine RunC.region ?_
    refine RunL.val (Val.pure rfl) rfl rfl rfl ?_
    refine RunL.val (Val.pure rfl) rfl rfl rfl ?_
    refine RunL.nil ?_
    refine RunE.next ?_
    refine RunC.ret ?_
    refine RunE.scope_ret ?_
    exact RunE.retP (.r1 rfl (.tmp rfl)) (by first | rfl | simp)
end Go.Proofs.YtlhdalcipflblaaDoor
