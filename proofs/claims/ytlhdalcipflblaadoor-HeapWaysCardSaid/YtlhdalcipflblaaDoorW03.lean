/- Walks of package heap: counting ways. -/
import Derived.Test.YtlhdalcipflblaaDoorW02
import Derived.RecoverIn
set_option linter.unusedSimpArgs false
set_option linter.unusedVariables false
namespace Go.Hp
open Go Go.Eng Go.Pw1
theorem cnt_le (ne : Nat) : ∀ (fs : List Nat) (u : Nat), cntL ne fs u ≤ ne ^ fs.length
  | [], _ => Nat.le_refl _
  | f :: fs, u => by
    unfold cntL
    have key : ∀ l : List Nat, (l.map fun i => if free f u i then cntL ne fs (u ||| 2 ^ i) else 0).sum ≤ l.length * ne ^ fs.length := by
      intro l
      induction l with
      | nil => simp
      | cons a l ih =>
        rw [List.map_cons, List.sum_cons, List.length_cons, Nat.add_mul, Nat.one_mul, Nat.add_comm]
        refine Nat.add_le_add ih ?_
        split
        · exact cnt_le ne fs _
        · exact Nat.zero_le _
    have := key (List.range ne)
    rw [List.length_range] at this
    rw [List.length_cons, Nat.pow_succ, Nat.mul_comm]
    exact this
theorem cnt_bd {ne : Nat} {fs : List Nat} (h1 : ne ≤ 12) (h2 : fs.length ≤ 8) (u : Nat) : cntL ne fs u ≤ 429981696 := by
  refine Nat.le_trans (cnt_le ne fs u) ?_
  refine Nat.le_trans (Nat.pow_le_pow_left h1 _) ?_
  exact Nat.le_trans (Nat.pow_le_pow_right (by decide) h2) (by decide)
/-- The ways with the first entries of a card. -/
def psum (ne f : Nat) (fs : List Nat) (u k : Nat) : Nat := ((List.range k).map fun i => if free f u i then cntL ne fs (u ||| 2 ^ i) else 0).sum
theorem psum_s (ne f : Nat) (fs : List Nat) (u k : Nat) : psum ne f fs u (k + 1) = psum ne f fs u k + if free f u k then cntL ne fs (u ||| 2 ^ k) else 0 := by
  unfold psum
  rw [List.range_succ, List.map_append, List.sum_append]
  simp
theorem psum_mono (ne f : Nat) (fs : List Nat) (u k : Nat) : ∀ j, psum ne f fs u k ≤ psum ne f fs u (k + j)
  | 0 => Nat.le_refl _
  | j + 1 => by
    have := psum_mono ne f fs u k j
    rw [show k + (j + 1) = (k + j) + 1 by omega, psum_s]
    omega
theorem psum_all (ne f : Nat) (fs : List Nat) (u : Nat) : psum ne f fs u ne = cntL ne (f :: fs) u := rfl
def GoodM (ne : Nat) (fs : List Nat) (l : List ((Nat × Nat) × Value)) : Prop := ∀ e ∈ l, e.2 = .int .i64 ((cntL ne (fs.drop e.1.1) e.1.2 : Nat) : Int)
def ExtM (ne : Nat) (fs : List Nat) (a : Nat) (l l' : List ((Nat × Nat) × Value)) : Prop := GoodM ne fs l' ∧ ∃ e, l' = l ++ e ∧ ∀ x ∈ e, a ≤ x.1.1
theorem ExtM.refl {ne a : Nat} {fs : List Nat} {l : List ((Nat × Nat) × Value)} (h : GoodM ne fs l) : ExtM ne fs a l l := ⟨h, [], by simp, fun x hx => by cases hx⟩
theorem ExtM.trans {ne a : Nat} {fs : List Nat} {l l' l'' : List ((Nat × Nat) × Value)} (h : ExtM ne fs a l l') (h' : ExtM ne fs a l' l'') : ExtM ne fs a l l'' := by
  obtain ⟨_, e, rfl, h2⟩ := h
  obtain ⟨g, e', rfl, h4⟩ := h'
  refine ⟨g, e ++ e', by simp, fun x hx => ?_⟩
  rcases List.mem_append.1 hx with hx | hx
  · exact h2 x hx
  · exact h4 x hx
theorem ExtM.weak {ne a b : Nat} {fs : List Nat} {l l' : List ((Nat × Nat) × Value)} (h : ExtM ne fs a l l') (hab : b ≤ a) : ExtM ne fs b l l' := by
  obtain ⟨h1, e, h2, h3⟩ := h
  exact ⟨h1, e, h2, fun x hx => Nat.le_trans hab (h3 x hx)⟩
theorem ExtM.put {ne a u : Nat} {fs : List Nat} {l l' : List ((Nat × Nat) × Value)} (h : ExtM ne fs (a + 1) l l') {v : Value} (hv : v = .int .i64 ((cntL ne (fs.drop a) u : Nat) : Int)) : ExtM ne fs a l (l' ++ [((a, u), v)]) := by
  obtain ⟨h1, e, rfl, h3⟩ := h
  refine ⟨fun x hx => ?_, e ++ [((a, u), v)], by simp, fun x hx => ?_⟩
  · rcases List.mem_append.1 hx with hx | hx
    · exact h1 x hx
    · cases List.mem_singleton.1 hx; exact hv
  · rcases List.mem_append.1 hx with hx | hx
    · have := h3 x hx; omega
    · cases List.mem_singleton.1 hx; exact Nat.le_refl _
theorem ExtM.absent {ne a u : Nat} {fs : List Nat} {l l' : List ((Nat × Nat) × Value)} (h : ExtM ne fs (a + 1) l l') (h0 : gFind l (a, u) = none) : gIdx l' (a, u) = none := by
  obtain ⟨_, e, rfl, h3⟩ := h
  refine gIdx_none fun x hx => ?_
  rcases List.mem_append.1 hx with hx | hx
  · exact gIdx_absent h0 x hx
  · intro e1
    have := h3 x hx
    rw [e1] at this
    simp at this
    omega
theorem good_find {ne : Nat} {fs : List Nat} {l : List ((Nat × Nat) × Value)} (h : GoodM ne fs l) {a u : Nat} (hs : (gFind l (a, u)).isSome = true) {z : Value} : (gFind l (a, u)).getD z = .int .i64 ((cntL ne (fs.drop a) u : Nat) : Int) := by
  obtain ⟨v, hv⟩ := Option.isSome_iff_exists.1 hs
  rw [hv]
  exact h _ (gFind_mem hv)
/-- A heap that is looked at. -/
structure HpAt (W : World) (bh bm : Nat) (m : MxA) (nE : Nat) (qe : Option Addr) (ce : Nat) (fs : List Nat) (qf : Option Addr) (bf cf : Nat) : Prop where
  v : W.heap[bh]? = some (.cells [.slice m.q m.bxs.length m.cap, .slice m.q2 m.cards.length m.cap2, .slice qe nE ce, .slice qf fs.length cf, .map (some bm)].toArray 73 (0, 0))
  sl : Sl W qf bf 0 1 (setsV fs)
  len : fs.length = m.cards.length
  le : fs.length ≤ 8
  ne : nE ≤ 12
  lt : ∀ f ∈ fs, f < 2 ^ nE
theorem map_ne {W : World} {b bm : Nat} {c : Array Value} {T : TypeId} {f : Nat × Nat} {l : List ((Nat × Nat) × Value)} (h : W.heap[b]? = some (.cells c T f)) (hm : W.heap[bm]? = some (mapG l)) : b ≠ bm := fun e => by
  rw [e, hm] at h
  cases h
theorem sl_map_ne {W : World} {q : Option Addr} {b o sz bm : Nat} {xs : List (List Value)} {l : List ((Nat × Nat) × Value)} (h : Sl W q b o sz xs) (hz : 0 < sz) (hx : xs ≠ []) (hm : W.heap[bm]? = some (mapG l)) : b ≠ bm := fun e => by
  cases xs with
  | nil => exact hx rfl
  | cons x xs =>
    have h1 := h.cell 0 (by simp) 0 hz
    have h2 := h.len x (by simp)
    rw [e] at h1
    simp only [World.cell?, hm, mapG] at h1
    simp at h1
    rw [h1] at h2
    simp at h2
    omega
theorem drop_at {fs : List Nat} {a : Nat} (h : a < fs.length) : fs.drop a = fs[a] :: fs.drop (a + 1) := List.drop_eq_getElem_cons h
end Go.Hp
namespace Go.Proofs.YtlhdalcipflblaaDoor
open Go Go.Eng Go.Hp Go.Pw1

theorem on_calls (d : Nat) : ∀ (a : Nat) (m : MxA) (nE : Nat) (qe : Option Addr) (ce : Nat) (fs : List Nat) (qf : Option Addr) (bf cf : Nat) (_hd : a + d = fs.length) (u : Nat) (_hu : u < 2 ^ 12) (l : List ((Nat × Nat) × Value)) (_hg : GoodM nE fs l) (bh bm b1 b3 : Nat) (W : World) (_hH : HpAt W bh bm m nE qe ce fs qf bf cf) (_hm : W.heap[bm]? = some (mapG l))
    (_h1 : W.heap[b1]? = some (.cells [.pointer (some ⟨bh, 0, none⟩)].toArray 64 (0, 0))) (_h3 : W.heap[b3]? = some (.cells [.func (.func 68) #[] #[.pointer (some ⟨b1, 0, none⟩), .pointer (some ⟨b3, 0, none⟩)]].toArray 84 (0, 0))),
    Calls Tryd.prog 68 #[.int .i64 (a : Int), .int .u64 (u : Int), .pointer (some ⟨b1, 0, none⟩), .pointer (some ⟨b3, 0, none⟩)] W (TurnsZ bm mapG (fun _ => .int .i64 ((cntL nE (fs.drop a) u : Nat) : Int)) (ExtM nE fs a l) W) := by
  induction d with
  | zero =>
    intro a m nE qe ce fs qf bf cf hd u hu l hg bP bm bC bF W hH hm h1 h3
    have hv := hH.v
    have hl8 := hH.le
    have hlen := hH.len
    have n1 := map_ne h1 hm
    have n2 := map_ne hv hm
    refine calls_start_chg hm Tryd.func68 rfl rfl ?_
    refine RunC.seq ?_
    refine RunC.region ?_
    refine RunL.val (Val.pure rfl) rfl rfl rfl ?_
    refine RunL.nil ?_
    refine RunE.next ?_
    refine RunC.seq ?_
    refine RunC.seq ?_
    refine RunC.region ?_
    refine RunL.val (Val.pure rfl) rfl rfl rfl ?_
    refine RunL.val (Val.oload_one rfl h1 (by simp [n1, n2]) ty_64 rfl) rfl rfl rfl ?_
    refine RunL.val (Val.pure rfl) rfl rfl rfl ?_
    refine RunL.val (Val.fieldAddr rfl fld_73_0) rfl rfl rfl ?_
    refine RunL.val (Val.fieldAddr rfl fld_25_1) rfl rfl rfl ?_
    refine RunL.val (Val.oload_one rfl hv (by simp [n1, n2]) ty_23 rfl) rfl rfl rfl ?_
    refine RunL.val (Val.len_sl rfl sl_23) rfl rfl rfl ?_
    refine RunL.val (Val.pure rfl) rfl rfl rfl ?_
    refine RunL.nil ?_
    refine RunE.next ?_
    refine RunC.cond rfl ?_ (fun h => absurd h (by simp; omega))
    intro c0
    clear c0
    refine RunC.seq ?_
    refine RunC.region ?_
    refine RunL.val (Val.pure rfl) rfl rfl rfl ?_
    refine RunL.nil ?_
    refine RunE.next ?_
    refine RunC.ret ?_
    refine RunE.pass_ret ?_
    exact RunE.retZ l (ExtM.refl hg) rfl (.r1 rfl (.tmp rfl)) (by rw [List.drop_of_length_le (by omega)]; rfl)
  | succ d ih =>
    intro a m nE qe ce fs qf bf cf hd u hu l hg bP bm bC bF W hH hm h1 h3
    have hv := hH.v
    have hl8 := hH.le
    have hlen := hH.len
    have hne := hH.ne
    have n1 := map_ne h1 hm
    have n2 := map_ne hv hm
    have n3 := map_ne h3 hm
    have ha : a < fs.length := by omega
    obtain ⟨f, hf⟩ : ∃ f, fs[a] = f := ⟨_, rfl⟩
    have hdr : fs.drop a = f :: fs.drop (a + 1) := by rw [drop_at ha, hf]
    have hfl : f < 2 ^ 12 := by
      have q1 := hH.lt f (hf ▸ List.getElem_mem ha)
      have q2 : 2 ^ nE ≤ 2 ^ 12 := Nat.pow_le_pow_right (by decide) hne
      omega
    have hfn : setsV fs ≠ [] := by
      intro e
      have := congrArg List.length e
      simp [setsV] at this
      subst this
      simp at ha
    have nf := sl_map_ne hH.sl (by decide) hfn hm
    have hal := andN_le f u
    have hcl : ∀ v, cntL nE (fs.drop (a + 1)) v ≤ 429981696 := fun v => cnt_bd hne (by simp; omega) v
    have hca : cntL nE (fs.drop a) u ≤ 429981696 := cnt_bd hne (by simp; omega) u
    refine calls_start_chg hm Tryd.func68 rfl rfl ?_
    refine RunC.seq ?_
    refine RunC.region ?_
    refine RunL.val (Val.pure rfl) rfl rfl rfl ?_
    refine RunL.nil ?_
    refine RunE.next ?_
    refine RunC.seq ?_
    refine RunC.seq ?_
    refine RunC.region ?_
    refine RunL.val (Val.pure rfl) rfl rfl rfl ?_
    refine RunL.val (Val.oload_one rfl h1 (by simp [n1, n2, n3]) ty_64 rfl) rfl rfl rfl ?_
    refine RunL.val (Val.pure rfl) rfl rfl rfl ?_
    refine RunL.val (Val.fieldAddr rfl fld_73_0) rfl rfl rfl ?_
    refine RunL.val (Val.fieldAddr rfl fld_25_1) rfl rfl rfl ?_
    refine RunL.val (Val.oload_one rfl hv (by simp [n1, n2, n3]) ty_23 rfl) rfl rfl rfl ?_
    refine RunL.val (Val.len_sl rfl sl_23) rfl rfl rfl ?_
    refine RunL.val (Val.pure rfl) rfl rfl rfl ?_
    refine RunL.nil ?_
    refine RunE.next ?_
    refine RunC.cond rfl (fun h => absurd h (by simp; omega)) ?_
    intro c0
    clear c0
    refine RunC.skip ?_
    refine RunE.next ?_
    refine RunC.seq ?_
    refine RunC.seq ?_
    refine RunC.region ?_
    refine RunL.val (Val.oload_one rfl h1 (by simp [n1, n2, n3]) ty_64 rfl) rfl rfl rfl ?_
    refine RunL.val (Val.pure rfl) rfl rfl rfl ?_
    refine RunL.val (Val.fieldAddr rfl fld_73_3) rfl rfl rfl ?_
    refine RunL.val (Val.oload_one rfl hv (by simp [n1, n2, n3]) ty_71 rfl) rfl rfl rfl ?_
    refine RunL.val (Val.pure rfl) rfl rfl rfl ?_
    refine RunL.val (Val.pure rfl) rfl rfl rfl ?_
    refine RunL.val (Val.build (parts := [(0, .tmp 24), (1, .tmp 25)]) rfl zero_102 places_102 rfl) rfl rfl rfl ?_
    refine RunL.val (Val.lookupG (a := (a, u)) rfl rfl (fun w hm => hm.at (.head _)) keyed_71 zeroV_3) rfl rfl rfl ?_
    iterate 5 refine RunL.val (Val.pure rfl) rfl rfl rfl ?_
    refine RunL.nil ?_
    refine RunE.next ?_
    refine RunC.seq ?_
    refine RunC.region ?_
    refine RunL.val (Val.pure rfl) rfl rfl rfl ?_
    refine RunL.nil ?_
    refine RunE.next ?_
    refine RunC.cond rfl ?_ ?_
    · intro c1
      have c1' := c1; clear c1
      try simp only [decide_eq_true_eq, decide_eq_false_iff_not, Bool.not_eq_true', Bool.not_eq_false', Bool.and_eq_true, Bool.or_eq_true, Bool.and_eq_false_iff, Bool.or_eq_false_iff, Int.not_le, Int.not_lt] at c1'
      have hgf := good_find (z := .int .i64 0) hg c1'
      refine RunC.seq ?_
      refine RunC.region ?_
      refine RunL.val (Val.pure rfl) rfl rfl rfl ?_
      refine RunL.val (Val.pure rfl) rfl rfl rfl ?_
      refine RunL.nil ?_
      refine RunE.next ?_
      refine RunC.ret ?_
      refine RunE.pass_ret ?_
      exact RunE.retZ l (ExtM.refl hg) rfl (.r1 rfl (.tmp rfl)) hgf
    · intro c1
      have c1' := c1; clear c1
      try simp only [decide_eq_true_eq, decide_eq_false_iff_not, Bool.not_eq_true', Bool.not_eq_false', Bool.and_eq_true, Bool.or_eq_true, Bool.and_eq_false_iff, Bool.or_eq_false_iff, Int.not_le, Int.not_lt] at c1'
      have hab : gFind l (a, u) = none := by simpa using c1'
      refine RunC.skip ?_
      refine RunE.next ?_
      refine RunC.seq ?_
      refine RunC.region ?_
      refine RunL.val (Val.oload_one rfl h1 (by simp [n1, n2, n3]) ty_64 rfl) rfl rfl rfl ?_
      refine RunL.val (Val.pure rfl) rfl rfl rfl ?_
      refine RunL.val (Val.fieldAddr rfl fld_73_2) rfl rfl rfl ?_
      refine RunL.val (Val.oload_one rfl hv (by simp [n1, n2, n3]) ty_70 rfl) rfl rfl rfl ?_
      refine RunL.val (Val.pure rfl) rfl rfl rfl ?_
      refine RunL.val (Val.indexAddr_slp rfl rfl sl_70 (by omega) (by omega) (hH.sl.ptrM ha)) rfl rfl rfl ?_
      refine RunL.val (Val.load_gen rfl (fun w hm => (Sl.mono1 hH.sl (by decide) hm (fun _ => nf)).loadM1 (by decide) (Mem.refl w) (by simp) ty_68 ha (v := .int .u64 (f : Int)) (by simp [hf]))) rfl rfl rfl ?_
      refine RunL.val (Val.pure rfl) rfl rfl rfl ?_
      refine RunL.val (Val.andNot (a := f) (b := u) rfl rfl (by show _ < 18446744073709551616; omega) (by show _ < 18446744073709551616; omega) (u64_in (by omega))) rfl rfl rfl ?_
      refine RunL.val (Val.pure rfl) rfl rfl rfl ?_
      refine RunL.val (Val.pure rfl) rfl rfl rfl ?_
      refine RunL.nil ?_
      refine RunE.next ?_
      refine RunC.seq ?_
      refine RunC.seq ?_
      refine RunC.region ?_
      refine RunL.val (Val.oload_one rfl h1 (by simp [n1, n2, n3]) ty_64 rfl) rfl rfl rfl ?_
      refine RunL.val (Val.pure rfl) rfl rfl rfl ?_
      refine RunL.val (Val.fieldAddr rfl fld_73_1) rfl rfl rfl ?_
      refine RunL.val (Val.oload_one rfl hv (by simp [n1, n2, n3]) ty_69 rfl) rfl rfl rfl ?_
      refine RunL.val (Val.len_sl rfl sl_69) rfl rfl rfl ?_
      refine RunL.val (Val.pure rfl) rfl rfl rfl ?_
      refine RunL.nil ?_
      refine RunE.next ?_
      refine RunC.block ?_
      refine RunC.loopX (X := List ((Nat × Nat) × Value)) (n0 := []) (nE) (fun k x q => (47, .int .i64 (k : Int)) :: (6, .int .i64 ((psum nE f (fs.drop (a + 1)) u k : Nat) : Int)) :: q) (fun k x => [(bm, mapG x)]) (fun k x => []) (fun k x => []) (fun k x => ExtM nE fs (a + 1) l x) l (ExtM.refl hg) rfl (Sub.consE (t := 47) rfl rfl (Sub.consE (t := 6) rfl rfl (Sub.cons (t := 0) rfl (Sub.cons (t := 1) rfl (Sub.cons (t := 2) rfl (Sub.cons (t := 3) rfl (Sub.cons (t := 9) rfl (Sub.cons (t := 46) rfl (Sub.nil _))))))))) (Pick.same rfl) ?_
      intro k x kN kI
      have hxg := kI
      refine RunC.seq ?_
      refine RunC.region ?_
      refine RunL.val (Val.pure rfl) rfl rfl rfl ?_
      refine RunL.nil ?_
      refine RunE.next ?_
      refine RunC.seq ?_
      refine RunC.cond rfl ?_ ?_
      · intro c2
        have c2' := c2; clear c2
        try simp only [decide_eq_true_eq, decide_eq_false_iff_not, Bool.not_eq_true', Bool.not_eq_false', Bool.and_eq_true, Bool.or_eq_true, Bool.and_eq_false_iff, Bool.or_eq_false_iff, Int.not_le, Int.not_lt] at c2'
        have hk : k < nE := by omega
        have hps := psum_s nE f (fs.drop (a + 1)) u k
        have hpm := psum_mono nE f (fs.drop (a + 1)) u (k + 1) (nE - (k + 1))
        rw [show k + 1 + (nE - (k + 1)) = nE by omega, psum_all, ← hdr] at hpm
        have h2k : 2 ^ k < 2 ^ 12 := Nat.pow_lt_pow_right (by decide) (by omega)
        have hpk := psum_mono nE f (fs.drop (a + 1)) u k 1
        refine RunC.skip ?_
        refine RunE.next ?_
        refine RunC.seq ?_
        refine RunC.block ?_
        refine RunC.seq ?_
        refine RunC.region ?_
        refine RunL.val (Val.pure rfl) rfl rfl rfl ?_
        refine RunL.val (Val.pure rfl) rfl rfl rfl ?_
        refine RunL.nil ?_
        refine RunE.next ?_
        refine RunC.seq ?_
        refine RunC.region ?_
        refine RunL.val (Val.pure rfl) rfl rfl rfl ?_
        refine RunL.val (Val.pure rfl) rfl rfl rfl ?_
        refine RunL.callP (isCall_value rfl rfl ent_45) rfl rfl rfl (fun w hm => has_calls (andN f u) k (by omega) (by omega) w) ?_
        refine RunL.nil ?_
        refine RunE.next ?_
        refine RunC.cond rfl ?_ ?_
        · intro c3
          have c3' := c3; clear c3
          try simp only [decide_eq_true_eq, decide_eq_false_iff_not, Bool.not_eq_true', Bool.not_eq_false', Bool.and_eq_true, Bool.or_eq_true, Bool.and_eq_false_iff, Bool.or_eq_false_iff, Int.not_le, Int.not_lt] at c3'
          have hfr : free f u k = true := by (rw [andN_bit] at c3'; exact c3')
          rw [hfr, if_pos rfl] at hps
          have huk := Nat.or_lt_two_pow hu h2k
          refine RunC.drawK 10 fol_ .nil ?_
          refine RunA.valC (i := 0) rfl (by kernel_rfl) (by kernel_rfl) (fun c hck => (Val.pure rfl)) rfl rfl rfl (fun _ _ _ h => h) .nil rfl ?_
          refine RunA.valC (i := 1) rfl (by kernel_rfl) (by kernel_rfl) (fun c hck => (Val.oload_one rfl h3 (notin_of hck (by simp [n1, n2, n3])) ty_84 rfl)) rfl rfl rfl (fun _ _ _ h => h) .nil rfl ?_
          refine RunA.valC (i := 2) rfl (by kernel_rfl) (by kernel_rfl) (fun c hck => (Val.pure rfl)) rfl rfl rfl (fun _ _ _ h => h) .nil rfl ?_
          refine RunA.valC (i := 3) rfl (by kernel_rfl) (by kernel_rfl) (fun c hck => (Val.addN (a := a) (b := 1) (a + 1) rfl rfl rfl (i64_inN (by omega)))) rfl rfl rfl (fun _ _ _ h => h) .nil rfl ?_
          refine RunA.valC (i := 4) rfl (by kernel_rfl) (by kernel_rfl) (fun c hck => (Val.pure rfl)) rfl rfl rfl (fun _ _ _ h => h) .nil rfl ?_
          refine RunA.valC (i := 5) rfl (by kernel_rfl) (by kernel_rfl) (fun c hck => (Val.pure rfl)) rfl rfl rfl (fun _ _ _ h => h) .nil rfl ?_
          refine RunA.valC (i := 6) rfl (by kernel_rfl) (by kernel_rfl) (fun c hck => (Val.shl1 (b := k) rfl rfl (by show k ≤ 64; omega) (u64_in (n := 2 ^ k) (by omega)))) rfl rfl rfl (fun _ _ _ h => h) .nil rfl ?_
          refine RunA.one (i := 7) (by kernel_rfl) (by kernel_rfl) ?_
          refine RunI.new rfl (New.buildSlice (parts := [(0, .tmp 57), (1, .tmp 59)]) rfl sl_70 zero_68 rfl rfl rfl rfl) rfl rfl rfl (fun b60 => (RunK.toA (.cons .here rfl .nil) .nil rfl ?_))
          refine RunA.one (i := 8) (by kernel_rfl) (by kernel_rfl) ?_
          refine RunI.callP rfl (isCall_func rfl ent_46) rfl rfl rfl (fun w hm => union2_calls u (2 ^ k) hu h2k b60 w (hm.at (.tail _ (.head _)))) (RunK.toA (.cons .here rfl .nil) (.cons .here rfl .nil) rfl ?_)
          refine RunA.one (i := 9) (by kernel_rfl) (by kernel_rfl) ?_
          refine RunI.callZ_chg rfl (isCall_value rfl rfl ent_68) rfl rfl rfl (fun _ => .here) (fun w hm => ih (a + 1) m nE qe ce fs qf bf cf (by omega) (u ||| 2 ^ k) huk x hxg.1 bP bm bC bF w ⟨hm.old_at hv (by simp [n2]), Sl.mono1 hH.sl (by decide) hm (fun _ => nf), hH.len, hH.le, hH.ne, hH.lt⟩ (hm.at (.head _)) (hm.old_at h1 (by simp [n1])) (hm.old_at h3 (by simp [n3]))) (fun x62 hx62 => (RunK.toA (.cons .here rfl .nil) (.cons .here rfl .nil) rfl ?_))
          refine RunA.toB (by kernel_rfl) ?_
          refine RunB.one (i := 10) (by kernel_rfl) ?_
          refine RunI.val rfl (Val.addN (a := psum nE f (fs.drop (a + 1)) u k) (b := cntL nE (fs.drop (a + 1)) (u ||| 2 ^ k)) (psum nE f (fs.drop (a + 1)) u k + cntL nE (fs.drop (a + 1)) (u ||| 2 ^ k)) rfl rfl rfl (i64_inN (by omega))) rfl rfl rfl (RunK.toB ?_)
          refine RunB.one (i := 11) (by kernel_rfl) ?_
          refine RunI.val rfl (Val.pure rfl) rfl rfl rfl (RunK.toB ?_)
          refine RunB.done (by kernel_rfl) ?_
          refine RunE.block_normal ?_
          refine RunE.next ?_
          refine RunC.region ?_
          refine RunL.val (Val.add rfl rfl (IntWalk.i64_in _ ⟨by omega, by omega⟩)) rfl rfl rfl ?_
          refine RunL.val (Val.pure rfl) rfl rfl rfl ?_
          refine RunL.nil ?_
          exact RunE.roundX x62 (by omega) (hxg.trans hx62) rfl (Sub.consE (t := 47) rfl rfl (Sub.consE (t := 6) rfl (by rw [hps]) (Sub.cons (t := 0) rfl (Sub.cons (t := 1) rfl (Sub.cons (t := 2) rfl (Sub.cons (t := 3) rfl (Sub.cons (t := 9) rfl (Sub.cons (t := 46) rfl (Sub.nil _))))))))) .nil
        · intro c3
          have c3' := c3; clear c3
          try simp only [decide_eq_true_eq, decide_eq_false_iff_not, Bool.not_eq_true', Bool.not_eq_false', Bool.and_eq_true, Bool.or_eq_true, Bool.and_eq_false_iff, Bool.or_eq_false_iff, Int.not_le, Int.not_lt] at c3'
          have hfr : free f u k = false := by (rw [andN_bit] at c3'; exact c3')
          rw [hfr] at hps
          simp only [Bool.false_eq_true, if_false, Nat.add_zero] at hps
          refine RunC.skip ?_
          refine RunE.block_normal ?_
          refine RunE.next ?_
          refine RunC.region ?_
          refine RunL.val (Val.add rfl rfl (IntWalk.i64_in _ ⟨by omega, by omega⟩)) rfl rfl rfl ?_
          refine RunL.val (Val.pure rfl) rfl rfl rfl ?_
          refine RunL.nil ?_
          exact RunE.roundX x (by omega) hxg rfl (Sub.consE (t := 47) rfl rfl (Sub.consE (t := 6) rfl (by rw [hps]) (Sub.cons (t := 0) rfl (Sub.cons (t := 1) rfl (Sub.cons (t := 2) rfl (Sub.cons (t := 3) rfl (Sub.cons (t := 9) rfl (Sub.cons (t := 46) rfl (Sub.nil _))))))))) .nil
      · intro c2
        have c2' := c2; clear c2
        try simp only [decide_eq_true_eq, decide_eq_false_iff_not, Bool.not_eq_true', Bool.not_eq_false', Bool.and_eq_true, Bool.or_eq_true, Bool.and_eq_false_iff, Bool.or_eq_false_iff, Int.not_le, Int.not_lt] at c2'
        have hkn : k = nE := by omega
        simp only [hkn, psum_all, ← hdr]
        refine RunC.exit ?_
        refine RunE.pass_exit ?_
        refine RunE.pass_exit ?_
        refine RunE.block_here ?_
        refine RunE.next ?_
        refine RunC.seq ?_
        refine RunC.region ?_
        refine RunL.val (Val.oload_one rfl h1 (by simp [n1, n2, n3]) ty_64 rfl) rfl rfl rfl ?_
        refine RunL.val (Val.pure rfl) rfl rfl rfl ?_
        refine RunL.val (Val.fieldAddr rfl fld_73_3) rfl rfl rfl ?_
        refine RunL.val (Val.oload_one rfl hv (by simp [n1, n2, n3]) ty_71 rfl) rfl rfl rfl ?_
        refine RunL.val (Val.pure rfl) rfl rfl rfl ?_
        refine RunL.val (Val.pure rfl) rfl rfl rfl ?_
        refine RunL.val (Val.build (parts := [(0, .tmp 69), (1, .tmp 70)]) rfl zero_102 places_102 rfl) rfl rfl rfl ?_
        refine RunL.val (Val.pure rfl) rfl rfl rfl ?_
        refine RunL.sto (Sto.mapG_chg (a := (a, u)) rfl rfl rfl .here keyed_71 (kI.absent hab)) rfl rfl ?_
        refine RunL.nil ?_
        refine RunE.next ?_
        refine RunC.seq ?_
        refine RunC.region ?_
        refine RunL.val (Val.pure rfl) rfl rfl rfl ?_
        refine RunL.val (Val.pure rfl) rfl rfl rfl ?_
        refine RunL.nil ?_
        refine RunE.next ?_
        refine RunC.ret ?_
        exact RunE.retZ (x ++ [((a, u), .int .i64 ((cntL nE (fs.drop a) u : Nat) : Int))]) (ExtM.put kI rfl) rfl (.r1 rfl (.tmp rfl)) rfl
end Go.Proofs.YtlhdalcipflblaaDoor
/- The facts on the tables of types and on the entries of functions that the walks use. Written by program. -/
set_option linter.unusedSimpArgs false
set_option linter.unusedVariables false
namespace Go.Proofs.YtlhdalcipflblaaDoor
open Go Go.Eng
theorem ent_51 : Enters Tryd.prog 51 := enters_of Tryd.func51 (by kernel_rfl) rfl
theorem ent_70 : Enters Tryd.prog 70 := enters_of Tryd.func70 (by kernel_rfl) rfl
theorem sls_70 : Tryd.prog.underlying 70 = some (.slice 68) := by kernel_rfl
theorem zero_84 : zeroB Tryd.prog 84 = some [.nilFunc] := by kernel_rfl
end Go.Proofs.YtlhdalcipflblaaDoor
/- Walks of package heap: counting from the first card on, and shares. -/
set_option linter.unusedSimpArgs false
set_option linter.unusedVariables false
namespace Go.Hp
open Go Go.Eng Go.Pw1
theorem sets_len (fs : List Nat) : ∀ x ∈ setsV fs, x.length = 1 := fun x hx => by
  obtain ⟨a, _, rfl⟩ := List.mem_map.1 hx
  rfl
theorem sets_fl (fs : List Nat) : (setsV fs).flatten.length = fs.length * 1 := flat_len (f := fun (x : Nat) => [Value.int .u64 (x : Int)]) (fun _ => rfl) fs
theorem sets_ne {fs : List Nat} {c : Nat} (h : c < fs.length) : setsV fs ≠ [] := fun e => by
  have := congrArg List.length e
  simp [setsV] at this
  subst this
  simp at h
theorem paste_set {fs : List Nat} {c v : Nat} (h : c < fs.length) {t : List Value} : paste ((setsV fs).flatten ++ t) c [.int .u64 (v : Int)] = some ((setsV (fs.set c v)).flatten ++ t) := by
  have := paste_row (f := fun (x : Nat) => [Value.int .u64 (x : Int)]) (sz := 1) (fun _ => rfl) (a' := v) (j := 0) (vs := [.int .u64 (v : Int)]) (t := t) h rfl
  simpa [setsV] using this
theorem setC_len {fs : List Nat} {c e : Nat} : (setC fs c e).length = fs.length := by simp [setC]
theorem setC_lt {fs : List Nat} {c e n : Nat} (hc : c < fs.length) (h : ∀ f ∈ fs, f < 2 ^ n) : ∀ f ∈ setC fs c e, f < 2 ^ n := fun f hf => by
  rcases List.mem_or_eq_of_mem_set hf with h1 | h1
  · exact h f h1
  · subst h1
    rw [List.getD_eq_getElem?_getD, List.getElem?_eq_getElem hc, Option.getD_some]
    exact Nat.lt_of_le_of_lt Nat.and_le_left (h _ (List.getElem_mem hc))
theorem good_nil {ne : Nat} {fs : List Nat} : GoodM ne fs [] := fun e he => by cases he
abbrev cntF (z : Nat × Nat) : Value := .func (.func 68) #[] #[.pointer (some ⟨z.1, 0, none⟩), .pointer (some ⟨z.2, 0, none⟩)]
abbrev cntB (bh : Nat) (z : Nat × Nat) : Blks := [(z.2, .cells [cntF z].toArray 84 (0, 0)), (z.1, .cells [.pointer (some ⟨bh, 0, none⟩)].toArray 64 (0, 0))]
abbrev stB (fs : List Nat) (z : Nat × Nat × List Value) : Blks := [(z.1, .cells ((setsV fs).flatten ++ z.2.2).toArray 68 (0, 0))]
theorem stB_sl {fs : List Nat} {z : Nat × Nat × List Value} {w : World} (h : w.heap[z.1]? = some (.cells ((setsV fs).flatten ++ z.2.2).toArray 68 (0, 0))) : Sl w (some ⟨z.1, 0, none⟩) z.1 0 1 (setsV fs) := Sl.rowsR h (sets_len fs)
end Go.Hp
namespace Go.Proofs.YtlhdalcipflblaaDoor
open Go Go.Eng Go.Hp Go.Pw1

theorem clone_calls (fs : List Nat) (hf : 0 < fs.length) (hl : fs.length ≤ 8) (q : Option Addr) (b o cap : Nat) (W : World) (hS : Sl W q b o 1 (setsV fs)) : Calls Tryd.prog 70 #[.slice q fs.length cap] W (News (fun z : Nat × Nat × List Value => .slice (some ⟨z.1, 0, none⟩) fs.length z.2.1) (fun z => stB fs z) W) := by
  obtain rfl := hS.ptrM hf
  refine calls_start Tryd.func70 rfl rfl ?_
  refine RunC.seq ?_
  refine RunC.region ?_
  refine RunL.val (Val.pure rfl) rfl rfl rfl ?_
  refine RunL.nil ?_
  refine RunE.next ?_
  refine RunC.seq ?_
  refine RunC.seq ?_
  refine RunC.region ?_
  refine RunL.val (Val.pure rfl) rfl rfl rfl ?_
  refine RunL.val (Val.eqlSlNil rfl sls_70) rfl rfl rfl ?_
  refine RunL.nil ?_
  refine RunE.next ?_
  refine RunC.cond rfl (fun h => absurd h (by simp)) ?_
  intro c0
  clear c0
  refine RunC.skip ?_
  refine RunE.next ?_
  refine RunC.seq ?_
  refine RunC.region ?_
  refine RunL.new (New.buildSlice0 sl_70) rfl rfl rfl (fun b5 => ?_)
  refine RunL.val (Val.pure rfl) rfl rfl rfl ?_
  refine RunL.append (A := []) (B := _) (x := (some (b5, 0, []))) (ys := (setsV fs).flatten) ap_70 rfl rfl rfl OwnOk.empty (sets_fl fs) (fun h => by cases h) (fun w hm => (hS.mono (by decide) hm (by simp)).flat (by decide)) (one_flat (fun _ => rfl) _) (by simp only [maxLen]; omega) (by omega) rfl (fun z7 hz7 => ?_)
  obtain ⟨bz7, cz7, rz7, rfl, lz71, lz72, lz73⟩ := hz7.has (by omega)
  refine RunL.val (Val.pure rfl) rfl rfl rfl ?_
  refine RunL.nil ?_
  refine RunE.next ?_
  refine RunC.ret ?_
  exact RunE.ret (chg := []) (.r1 rfl (.tmp rfl)) (fun _ hm => ⟨(bz7, cz7, rz7), by simp only [ownV, Nat.zero_add], hm.pick (.cons .here rfl .nil)⟩)
theorem count0_calls (bh : Nat) (W : World) : Calls Tryd.prog 51 #[.pointer (some ⟨bh, 0, none⟩)] W (News cntF (cntB bh) W) := by
  refine calls_start Tryd.func51 rfl rfl ?_
  refine RunC.seq ?_
  refine RunC.region ?_
  refine RunL.new (New.box rfl) rfl rfl rfl (fun b1 => ?_)
  refine RunL.val (Val.pure rfl) rfl rfl rfl ?_
  refine RunL.nil ?_
  refine RunE.next ?_
  refine RunC.seq ?_
  refine RunC.region ?_
  refine RunL.new (New.alloc zero_84) rfl rfl rfl (fun b3 => ?_)
  refine RunL.nil ?_
  refine RunE.next ?_
  refine RunC.seq ?_
  refine RunC.region ?_
  refine RunL.val (Val.pure rfl) rfl rfl rfl ?_
  refine RunL.sto (Sto.store rfl rfl .here ty_84 rfl rfl) rfl rfl ?_
  refine RunL.nil ?_
  refine RunE.next ?_
  refine RunC.seq ?_
  refine RunC.region ?_
  refine RunL.val (Val.load_one rfl (.head _) ty_84 rfl) rfl rfl rfl ?_
  refine RunL.val (Val.pure rfl) rfl rfl rfl ?_
  refine RunL.nil ?_
  refine RunE.next ?_
  refine RunC.ret ?_
  exact RunE.ret (chg := []) (.r1 rfl (.tmp rfl)) (fun _ hm => ⟨(b1, b3), rfl, hm.pick (.cons .here rfl (.cons .here rfl .nil))⟩)
theorem share_calls (m : MxA) (nE : Nat) (qe : Option Addr) (ce : Nat) (fs : List Nat) (qf : Option Addr) (bf cf : Nat) (c e : Nat) (hc : c < fs.length) (he : e < nE) (bh bk : Nat) (W : World) (hH : HpAt W bh bk m nE qe ce fs qf bf cf) :
    Calls Tryd.prog 54 #[.pointer (some ⟨bh, 0, none⟩), .int .i64 (c : Int), .int .i64 (e : Int)] W (Pure (.int .i64 ((shareL nE fs c e : Nat) : Int)) W) := by
  have hv := hH.v
  have hl8 := hH.le
  have hne := hH.ne
  have h2e : 2 ^ e < 2 ^ 12 := Nat.pow_lt_pow_right (by decide) (by omega)
  obtain ⟨f, hf⟩ : ∃ f, fs[c] = f := ⟨_, rfl⟩
  have hfl : f < 2 ^ 12 := by
    have q1 := hH.lt f (hf ▸ List.getElem_mem hc)
    have q2 : 2 ^ nE ≤ 2 ^ 12 := Nat.pow_le_pow_right (by decide) hne
    omega
  have hfe : f &&& 2 ^ e ≤ f := Nat.and_le_left
  have hset : fs.set c (f &&& 2 ^ e) = setC fs c e := by
    unfold setC
    rw [List.getD_eq_getElem?_getD, List.getElem?_eq_getElem hc, Option.getD_some, hf]
  refine calls_start Tryd.func54 rfl rfl ?_
  refine RunC.seq ?_
  refine RunC.region ?_
  refine RunL.val (Val.pure rfl) rfl rfl rfl ?_
  refine RunL.nil ?_
  refine RunE.next ?_
  refine RunC.seq ?_
  refine RunC.drawX (X := Nat × Nat × (Nat × Nat × List Value)) 14 (n0 := []) (fun y q => (7, .pointer (some ⟨y.1, 0, none⟩)) :: q) (fun y => []) (fun y => [(y.1, .cells [.slice m.q m.bxs.length m.cap, .slice m.q2 m.cards.length m.cap2, .slice qe nE ce, .slice (some ⟨y.2.2.1, 0, none⟩) fs.length y.2.2.2.1, .map (some y.2.1)].toArray 73 (0, 0)), (y.2.1, mapG []), (y.2.2.1, .cells ((setsV fs).flatten ++ y.2.2.2.2).toArray 68 (0, 0))]) (fun y => []) (fun y => True) fol_ .nil (Sub.cons (t := 0) rfl (Sub.cons (t := 1) rfl (Sub.cons (t := 2) rfl (Sub.nil _)))) .nil ?_ ?_
  · refine RunA.val (i := 0) rfl (by kernel_rfl) (by kernel_rfl) (Val.pure rfl) rfl rfl rfl (fun _ _ _ h => h) .nil rfl ?_
    refine RunA.val (i := 1) rfl (by kernel_rfl) (by kernel_rfl) (Val.pure rfl) rfl rfl rfl (fun _ _ _ h => h) .nil rfl ?_
    refine RunA.val (i := 2) rfl (by kernel_rfl) (by kernel_rfl) (Val.fieldAddr rfl fld_73_0) rfl rfl rfl (fun _ _ _ h => h) .nil rfl ?_
    refine RunA.val (i := 3) rfl (by kernel_rfl) (by kernel_rfl) (Val.oload_agg rfl hv (by simp) ty_25 rfl) rfl rfl rfl (fun _ _ _ h => h) .nil rfl ?_
    refine RunA.val (i := 4) rfl (by kernel_rfl) (by kernel_rfl) (Val.pure rfl) rfl rfl rfl (fun _ _ _ h => h) .nil rfl ?_
    refine RunA.val (i := 5) rfl (by kernel_rfl) (by kernel_rfl) (Val.pure rfl) rfl rfl rfl (fun _ _ _ h => h) .nil rfl ?_
    refine RunA.val (i := 6) rfl (by kernel_rfl) (by kernel_rfl) (Val.fieldAddr rfl fld_73_1) rfl rfl rfl (fun _ _ _ h => h) .nil rfl ?_
    refine RunA.val (i := 7) rfl (by kernel_rfl) (by kernel_rfl) (Val.oload_one rfl hv (by simp) ty_69 rfl) rfl rfl rfl (fun _ _ _ h => h) .nil rfl ?_
    refine RunA.val (i := 8) rfl (by kernel_rfl) (by kernel_rfl) (Val.pure rfl) rfl rfl rfl (fun _ _ _ h => h) .nil rfl ?_
    refine RunA.val (i := 9) rfl (by kernel_rfl) (by kernel_rfl) (Val.pure rfl) rfl rfl rfl (fun _ _ _ h => h) .nil rfl ?_
    refine RunA.val (i := 10) rfl (by kernel_rfl) (by kernel_rfl) (Val.fieldAddr rfl fld_73_2) rfl rfl rfl (fun _ _ _ h => h) .nil rfl ?_
    refine RunA.val (i := 11) rfl (by kernel_rfl) (by kernel_rfl) (Val.oload_one rfl hv (by simp) ty_70 rfl) rfl rfl rfl (fun _ _ _ h => h) .nil rfl ?_
    refine RunA.all (rs := [12, 13]) (by kernel_rfl) (by simp) (by kernel_rfl) (fun m hm => ?_)
    simp only [List.mem_cons, List.not_mem_nil, or_false] at hm
    rcases hm with rfl | rfl
    · refine RunI.callN rfl (isCall_func rfl ent_70) rfl rfl rfl (fun w hm => clone_calls fs (by omega) hl8 qf bf 0 cf w (hH.sl.mono (by decide) hm (by simp))) (fun b20 => (RunK.toA (.cons .here rfl .nil) .nil rfl ?_))
      refine RunA.one (i := 13) (by kernel_rfl) (by kernel_rfl) ?_
      refine RunI.new rfl New.makeMapG rfl rfl rfl (fun b21 => (RunK.toA (.cons .here rfl (.cons .here rfl .nil)) (.cons (.there .here) rfl .nil) rfl ?_))
      refine RunA.toB (by kernel_rfl) ?_
      refine RunB.one (i := 14) (by kernel_rfl) ?_
      refine RunI.val rfl (Val.build (parts := [(0, .tmp 11), (1, .tmp 15), (2, .tmp 20), (3, .tmp 21)]) rfl zero_73 places_73 rfl) rfl rfl rfl (RunK.toB ?_)
      refine RunB.one (i := 15) (by kernel_rfl) ?_
      refine RunI.new rfl (New.box rfl) rfl rfl rfl (fun b23 => (RunK.toB ?_))
      refine RunB.one (i := 16) (by kernel_rfl) ?_
      refine RunI.val rfl (Val.pure rfl) rfl rfl rfl (RunK.toB ?_)
      refine RunB.done (by kernel_rfl) ?_
      exact RunE.joinX (b23, b21, b20) trivial rfl (Sub.consE (t := 7) rfl rfl (Sub.cons (t := 0) rfl (Sub.cons (t := 1) rfl (Sub.cons (t := 2) rfl (Sub.nil _))))) (.cons .here rfl (.cons .here rfl (.cons .here rfl .nil)))
    · refine RunI.new rfl New.makeMapG rfl rfl rfl (fun b21 => (RunK.toA (.cons .here rfl .nil) .nil rfl ?_))
      refine RunA.one (i := 12) (by kernel_rfl) (by kernel_rfl) ?_
      refine RunI.callN rfl (isCall_func rfl ent_70) rfl rfl rfl (fun w hm => clone_calls fs (by omega) hl8 qf bf 0 cf w (hH.sl.mono (by decide) hm (by simp))) (fun b20 => (RunK.toA (.cons .here rfl (.cons .here rfl .nil)) (.cons (.there .here) rfl .nil) rfl ?_))
      refine RunA.toB (by kernel_rfl) ?_
      refine RunB.one (i := 14) (by kernel_rfl) ?_
      refine RunI.val rfl (Val.build (parts := [(0, .tmp 11), (1, .tmp 15), (2, .tmp 20), (3, .tmp 21)]) rfl zero_73 places_73 rfl) rfl rfl rfl (RunK.toB ?_)
      refine RunB.one (i := 15) (by kernel_rfl) ?_
      refine RunI.new rfl (New.box rfl) rfl rfl rfl (fun b23 => (RunK.toB ?_))
      refine RunB.one (i := 16) (by kernel_rfl) ?_
      refine RunI.val rfl (Val.pure rfl) rfl rfl rfl (RunK.toB ?_)
      refine RunB.done (by kernel_rfl) ?_
      exact RunE.joinX (b23, b21, b20) trivial rfl (Sub.consE (t := 7) rfl rfl (Sub.cons (t := 0) rfl (Sub.cons (t := 1) rfl (Sub.cons (t := 2) rfl (Sub.nil _))))) (.cons .here rfl (.cons (.there .here) rfl (.cons .here rfl .nil)))
  · intro y yI
    obtain ⟨b23, b21, b20⟩ := y
    dsimp only
    refine RunE.next ?_
    refine RunC.seq ?_
    refine RunC.draw 9 fol_ (.cons .here rfl (.cons .here rfl (.cons .here rfl .nil))) ?_
    refine RunA.val (i := 0) rfl (by kernel_rfl) (by kernel_rfl) (Val.pure rfl) rfl rfl rfl (fun _ _ _ h => h) (.cons .here rfl (.cons .here rfl (.cons .here rfl .nil))) rfl ?_
    refine RunA.val (i := 1) rfl (by kernel_rfl) (by kernel_rfl) (Val.pure rfl) rfl rfl rfl (fun _ _ _ h => h) (.cons .here rfl (.cons .here rfl (.cons .here rfl .nil))) rfl ?_
    refine RunA.val (i := 2) rfl (by kernel_rfl) (by kernel_rfl) (Val.fieldAddr rfl fld_73_2) rfl rfl rfl (fun _ _ _ h => h) (.cons .here rfl (.cons .here rfl (.cons .here rfl .nil))) rfl ?_
    refine RunA.val (i := 3) rfl (by kernel_rfl) (by kernel_rfl) (Val.load_one rfl (.head _) ty_70 rfl) rfl rfl rfl (fun _ _ _ h => h) (.cons .here rfl (.cons .here rfl (.cons .here rfl .nil))) rfl ?_
    refine RunA.val (i := 4) rfl (by kernel_rfl) (by kernel_rfl) (Val.pure rfl) rfl rfl rfl (fun _ _ _ h => h) (.cons .here rfl (.cons .here rfl (.cons .here rfl .nil))) rfl ?_
    refine RunA.val (i := 5) rfl (by kernel_rfl) (by kernel_rfl) (Val.indexAddr_sl rfl rfl sl_70 (by omega) (by omega)) rfl rfl rfl (fun _ _ _ h => h) (.cons .here rfl (.cons .here rfl (.cons .here rfl .nil))) rfl ?_
    refine RunA.val (i := 6) rfl (by kernel_rfl) (by kernel_rfl) (Val.load_gen rfl (fun w hm => (stB_sl (hm.at (.tail _ (.tail _ (.head _))))).loadM1 (by decide) (Mem.refl w) (by simp) ty_68 hc (v := .int .u64 (f : Int)) (by simp [hf]))) rfl rfl rfl (fun _ _ _ h => h) (.cons .here rfl (.cons .here rfl (.cons .here rfl .nil))) rfl ?_
    refine RunA.val (i := 7) rfl (by kernel_rfl) (by kernel_rfl) (Val.pure rfl) rfl rfl rfl (fun _ _ _ h => h) (.cons .here rfl (.cons .here rfl (.cons .here rfl .nil))) rfl ?_
    refine RunA.val (i := 8) rfl (by kernel_rfl) (by kernel_rfl) (Val.shl1 (b := e) rfl rfl (by show e ≤ 64; omega) (u64_in (n := 2 ^ e) (by omega))) rfl rfl rfl (fun _ _ _ h => h) (.cons .here rfl (.cons .here rfl (.cons .here rfl .nil))) rfl ?_
    refine RunA.toB (by kernel_rfl) ?_
    refine RunB.one (i := 9) (by kernel_rfl) ?_
    refine RunI.val rfl (Val.and (a := f) (b := 2 ^ e) rfl rfl (by show _ < 18446744073709551616; omega) (by show _ < 18446744073709551616; omega) (u64_in (by omega))) rfl rfl rfl (RunK.toB ?_)
    refine RunB.one (i := 10) (by kernel_rfl) ?_
    refine RunI.val rfl (Val.indexAddr_sl rfl rfl sl_70 (by omega) (by omega)) rfl rfl rfl (RunK.toB ?_)
    refine RunB.one (i := 11) (by kernel_rfl) ?_
    refine RunI.sto rfl (Sto.store (cs := (setsV fs).flatten ++ b20.2.2) (cs' := (setsV (setC fs c e)).flatten ++ b20.2.2) rfl rfl (.there (.there .here)) ty_68 rfl (by rw [← hset, Nat.zero_add, Int.toNat_natCast, Nat.mul_one]; exact paste_set hc)) rfl rfl (RunK.toB ?_)
    refine RunB.done (by kernel_rfl) ?_
    refine RunE.next ?_
    refine RunC.seq ?_
    refine RunC.region ?_
    refine RunL.val (Val.pure rfl) rfl rfl rfl ?_
    refine RunL.callN (isCall_func rfl ent_51) rfl rfl rfl (fun w hm => count0_calls b23 w) (fun b36 => ?_)
    refine RunL.callZ (isCall_value rfl rfl ent_68) rfl rfl rfl (fun _ => (.there (.there (.there .here)))) (fun w hm => on_calls fs.length 0 m nE qe ce (setC fs c e) (some ⟨b20.1, 0, none⟩) b20.1 b20.2.1 (by rw [setC_len]; omega) 0 (by decide) [] good_nil b23 b21 b36.1 b36.2 w ⟨(by rw [setC_len]; exact hm.at (.tail _ (.tail _ (.head _)))), stB_sl (hm.at (.tail _ (.tail _ (.tail _ (.tail _ (.head _)))))), (by rw [setC_len]; exact hH.len), (by rw [setC_len]; exact hl8), hne, setC_lt hc hH.lt⟩ (hm.at (.tail _ (.tail _ (.tail _ (.head _))))) (hm.at (.tail _ (.head _))) (hm.at (.head _))) (fun x37 hx37 => ?_)
    refine RunL.val (Val.pure rfl) rfl rfl rfl ?_
    refine RunL.nil ?_
    refine RunE.next ?_
    refine RunC.ret ?_
    exact RunE.retP (.r1 rfl (.tmp rfl)) (by first | rfl | simp)
end Go.Proofs.YtlhdalcipflblaaDoor
/- The facts on the tables of types and on the entries of functions that the walks use. Written by program. -/
set_option linter.unusedSimpArgs false
set_option linter.unusedVariables false
namespace Go.Proofs.YtlhdalcipflblaaDoor
open Go Go.Eng
theorem ent_39 : Enters Tryd.prog 39 := enters_of Tryd.func39 (by kernel_rfl) rfl
theorem ent_40 : Enters Tryd.prog 40 := enters_of Tryd.func40 (by kernel_rfl) rfl
theorem ent_54 : Enters Tryd.prog 54 := enters_of Tryd.func54 (by kernel_rfl) rfl
theorem und_3 : Tryd.prog.underlying 3 = some (.int .i64) := by kernel_rfl
theorem und_68 : Tryd.prog.underlying 68 = some (.int .u64) := by kernel_rfl
end Go.Proofs.YtlhdalcipflblaaDoor
/- Walks of package heap: Fits, Count, Share, ways. -/
set_option linter.unusedSimpArgs false
set_option linter.unusedVariables false
namespace Go.Hp
open Go Go.Eng Go.Pw1
theorem fs_len (m : MxA) : (fsX m.pl).length = m.cards.length := by simp [fsX, MxA.pl]
theorem ne_eq (m : MxA) : neX m.pl = (esX m).length := rfl
theorem fs_lt (m : MxA) : ∀ f ∈ fsX m.pl, f < 2 ^ (esX m).length := fun f hf => by
  obtain ⟨t, _, rfl⟩ := List.mem_map.1 hf
  have := fitsL_lt t (entriesX m.pl.boxes) 0
  rw [Nat.zero_add] at this
  exact this
abbrev hpV (m : MxA) (bh bm : Nat) (x y : Eng.Own) : Obj := .cells [.slice m.q m.bxs.length m.cap, .slice m.q2 m.cards.length m.cap2, .slice (ownQ x) (esX m).length (ownC x), .slice (ownQ y) (fsX m.pl).length (ownC y), .map (some bm)].toArray 73 (0, 0)
theorem own_ptr {sz n : Nat} {x : Eng.Own} {xs : List Value} (h : OwnOk sz x n xs) (hn : 0 < n) : ownQ x = some ⟨ownK x, 0, none⟩ := by
  obtain ⟨b, c, r, rfl, _⟩ := h.has hn
  rfl
theorem sets_sl {l : List Nat} {y : Eng.Own} {w : World} {k : Nat} (hy : OwnOk 1 y k (setsV l).flatten) (hm : ∀ b o, (b, o) ∈ ownB 68 y (setsV l).flatten → w.heap[b]? = some o) : Sl w (ownQ y) (ownK y) 0 1 (setsV l) :=
  own_sl (f := fun (x : Nat) => [Value.int .u64 (x : Int)]) (fun _ => rfl) (by decide) hy hm
theorem card_nat {m : Mx} {c : Int} (h : cardX m c = true) : ∃ k : Nat, c = (k : Int) ∧ k < m.cards.length := by
  unfold cardX within at h
  rw [Bool.and_eq_true, decide_eq_true_eq, decide_eq_true_eq] at h
  exact ⟨c.toNat, by omega, by omega⟩
theorem entry_nat {m : Mx} {c : Int} (h : entryX m c = true) : ∃ k : Nat, c = (k : Int) ∧ k < neX m := by
  unfold entryX within at h
  rw [Bool.and_eq_true, decide_eq_true_eq, decide_eq_true_eq] at h
  exact ⟨c.toNat, by omega, by omega⟩
theorem hp_at {m : MxA} {bh bm : Nat} {x y : Eng.Own} {w : World} (hX : mixedX m.pl = true) (hv : w.heap[bh]? = some (hpV m bh bm x y)) (hy : OwnOk 1 y (fsX m.pl).length (setsV (fsX m.pl)).flatten) (hm : ∀ b o, (b, o) ∈ ownB 68 y (setsV (fsX m.pl)).flatten → w.heap[b]? = some o) :
    HpAt w bh bm m (esX m).length (ownQ x) (ownC x) (fsX m.pl) (ownQ y) (ownK y) (ownC y) := by
  obtain ⟨h1, h2, h3⟩ := mixed_ok hX
  exact ⟨hv, sets_sl hy hm, fs_len m, by rw [fs_len]; exact h2, h3, fs_lt m⟩
abbrev HW (m : MxA) := { z : Hz × List ((Nat × Nat) × Value) // OwnOk 3 z.1.x (esX m).length ((esX m).map En.cells).flatten ∧ OwnOk 1 z.1.y (fsX m.pl).length (setsV (fsX m.pl)).flatten ∧ GoodM (esX m).length (fsX m.pl) z.2 }
theorem cnt_small (m : MxA) (hX : mixedX m.pl = true) : cntX m.pl ≤ 429981696 := by
  obtain ⟨h1, h2, h3⟩ := mixed_ok hX
  exact cnt_bd (by rw [ne_eq]; exact h3) (by rw [fs_len]; exact h2) 0
end Go.Hp
namespace Go.Proofs.YtlhdalcipflblaaDoor
open Go Go.Eng Go.Hp Go.Pw1

theorem isCard_calls (m : MxA) (hc : m.cards.length ≤ 8) (bh : Nat) (c : Int) (a b d : Value) (W : World) (hv : W.heap[bh]? = some (.cells [.slice m.q m.bxs.length m.cap, .slice m.q2 m.cards.length m.cap2, a, b, d].toArray 73 (0, 0))) : Calls Tryd.prog 40 #[.pointer (some ⟨bh, 0, none⟩), .int .i64 c] W (Pure (.bool (cardX m.pl c)) W) := by
  refine calls_start Tryd.func40 rfl rfl ?_
  refine RunC.seq ?_
  refine RunC.region ?_
  refine RunL.val (Val.pure rfl) rfl rfl rfl ?_
  refine RunL.nil ?_
  refine RunE.next ?_
  refine RunC.seq ?_
  refine RunC.region ?_
  iterate 3 refine RunL.val (Val.pure rfl) rfl rfl rfl ?_
  refine RunL.val (Val.fieldAddr rfl fld_73_0) rfl rfl rfl ?_
  refine RunL.val (Val.fieldAddr rfl fld_25_1) rfl rfl rfl ?_
  refine RunL.val (Val.oload_one rfl hv (by simp) ty_23 rfl) rfl rfl rfl ?_
  refine RunL.val (Val.len_sl rfl sl_23) rfl rfl rfl ?_
  refine RunL.val (Val.sub' rfl rfl (IntWalk.i64_in _ ⟨by omega, by omega⟩)) rfl rfl rfl ?_
  refine RunL.callP (isCall_func rfl ent_53) rfl rfl rfl (fun w hm => hwithin_calls _ _ _ w) ?_
  refine RunL.val (Val.pure rfl) rfl rfl rfl ?_
  refine RunL.nil ?_
  refine RunE.next ?_
  refine RunC.ret ?_
  exact RunE.retP (.r1 rfl (.tmp rfl)) (by first | rfl | simp)
theorem fits_err (m : MxA) (hsm : MSm m) (c : Int) (W : World) (hM : MOk W m) (hX : mixedX m.pl = false) : Calls Tryd.prog 14 #[m.v, .int .i64 c] W (Pure (.tuple #[.int .i64 (FitsX m.pl c).1, .int .i64 (FitsX m.pl c).2]) W) := by
  have e : FitsX m.pl c = (0, 1) := by unfold FitsX; rw [hX]; rfl
  rw [e]
  refine calls_start Tryd.func14 rfl rfl ?_
  refine RunC.seq ?_
  refine RunC.region ?_
  refine RunL.new (New.box rfl) rfl rfl rfl (fun b2 => ?_)
  refine RunL.val (Val.pure rfl) rfl rfl rfl ?_
  refine RunL.val (Val.pure rfl) rfl rfl rfl ?_
  refine RunL.nil ?_
  refine RunE.next ?_
  refine RunC.seq ?_
  refine RunC.region ?_
  refine RunL.val (Val.load_agg rfl (.head _) ty_25 rfl) rfl rfl rfl ?_
  refine RunL.callP (isCall_func rfl ent_39) rfl rfl rfl (fun w hm => openH_err m hsm w (hM.mono0 hm) hX) ?_
  iterate 5 refine RunL.val (Val.pure rfl) rfl rfl rfl ?_
  refine RunL.nil ?_
  refine RunE.next ?_
  refine RunC.seq ?_
  refine RunC.block ?_
  refine RunC.seq ?_
  refine RunC.region ?_
  iterate 3 refine RunL.val (Val.pure rfl) rfl rfl rfl ?_
  refine RunL.nil ?_
  refine RunE.next ?_
  refine RunC.cond rfl ?_ (fun h => absurd h (by simp))
  intro c0
  clear c0
  refine RunC.seq ?_
  refine RunC.region ?_
  iterate 3 refine RunL.val (Val.pure rfl) rfl rfl rfl ?_
  refine RunL.nil ?_
  refine RunE.next ?_
  refine RunC.ret ?_
  refine RunE.block_ret ?_
  refine RunE.pass_ret ?_
  exact RunE.retP (.r2 rfl (.tmp rfl) (.tmp rfl)) (by first | rfl | simp)
theorem fits_calls (m : MxA) (hsm : MSm m) (c : Int) (W : World) (hM : MOk W m) : Calls Tryd.prog 14 #[m.v, .int .i64 c] W (Pure (.tuple #[.int .i64 (FitsX m.pl c).1, .int .i64 (FitsX m.pl c).2]) W) := by
  cases hX : mixedX m.pl with
  | false => exact fits_err m hsm c W hM hX
  | true =>
    obtain ⟨h4, h8, h12⟩ := mixed_ok hX
    have hfl := fs_len m
    unfold FitsX
    rw [if_pos hX]
    refine calls_start Tryd.func14 rfl rfl ?_
    refine RunC.seq ?_
    refine RunC.region ?_
    refine RunL.new (New.box rfl) rfl rfl rfl (fun b2 => ?_)
    refine RunL.val (Val.pure rfl) rfl rfl rfl ?_
    refine RunL.val (Val.pure rfl) rfl rfl rfl ?_
    refine RunL.nil ?_
    refine RunE.next ?_
    refine RunC.seq ?_
    refine RunC.region ?_
    refine RunL.val (Val.load_agg rfl (.head _) ty_25 rfl) rfl rfl rfl ?_
    refine RunL.callNT (isCall_func rfl ent_39) rfl rfl rfl (fun w hm => openH_calls m hsm w (hM.mono0 hm) hX) (fun z9 => ?_)
    obtain ⟨⟨bh9, bm9, x9, y9⟩, hx9, hy9⟩ := z9
    dsimp only
    iterate 5 refine RunL.val (Val.pure rfl) rfl rfl rfl ?_
    refine RunL.nil ?_
    refine RunE.next ?_
    refine RunC.seq ?_
    refine RunC.block ?_
    refine RunC.seq ?_
    refine RunC.region ?_
    iterate 3 refine RunL.val (Val.pure rfl) rfl rfl rfl ?_
    refine RunL.nil ?_
    refine RunE.next ?_
    refine RunC.cond rfl (fun h => absurd h (by simp)) ?_
    intro c0
    clear c0
    refine RunC.seq ?_
    refine RunC.region ?_
    refine RunL.val (Val.pure rfl) rfl rfl rfl ?_
    refine RunL.val (Val.pure rfl) rfl rfl rfl ?_
    refine RunL.callP (isCall_func rfl ent_40) rfl rfl rfl (fun w hm => isCard_calls m h8 bh9 c _ _ _ w (hm.at (.tail _ (.head _)))) ?_
    refine RunL.val (Val.pure rfl) rfl rfl rfl ?_
    refine RunL.val (Val.pure rfl) rfl rfl rfl ?_
    refine RunL.nil ?_
    refine RunE.next ?_
    refine RunC.cond rfl ?_ ?_
    · intro c1
      have c1' := c1; clear c1
      try simp only [decide_eq_true_eq, decide_eq_false_iff_not, Bool.not_eq_true', Bool.not_eq_false', Bool.and_eq_true, Bool.or_eq_true, Bool.and_eq_false_iff, Bool.or_eq_false_iff, Int.not_le, Int.not_lt] at c1'
      have hcd : cardX m.pl c = false := by simpa using c1'
      refine RunC.seq ?_
      refine RunC.region ?_
      refine RunL.val (Val.pure rfl) rfl rfl rfl ?_
      refine RunL.val (Val.pure rfl) rfl rfl rfl ?_
      refine RunL.nil ?_
      refine RunE.next ?_
      refine RunC.ret ?_
      refine RunE.block_ret ?_
      refine RunE.pass_ret ?_
      exact RunE.retP (.r2 rfl (.tmp rfl) (.tmp rfl)) (by rw [hcd]; rfl)
    · intro c1
      have c1' := c1; clear c1
      try simp only [decide_eq_true_eq, decide_eq_false_iff_not, Bool.not_eq_true', Bool.not_eq_false', Bool.and_eq_true, Bool.or_eq_true, Bool.and_eq_false_iff, Bool.or_eq_false_iff, Int.not_le, Int.not_lt] at c1'
      have hcd : cardX m.pl c = true := by simpa using c1'
      obtain ⟨k, rfl, hk⟩ := card_nat hcd
      have hk2 : k < (fsX m.pl).length := by (rw [fs_len]; exact hk)
      obtain ⟨f, hf⟩ : ∃ f, (fsX m.pl)[k] = f := ⟨_, rfl⟩
      have hfl2 := fs_lt m f (hf ▸ List.getElem_mem hk2)
      have hfl3 : 2 ^ (esX m).length ≤ 2 ^ 12 := Nat.pow_le_pow_right (by decide) h12
      refine RunC.skip ?_
      refine RunE.block_normal ?_
      refine RunE.next ?_
      refine RunC.seq ?_
      refine RunC.region ?_
      refine RunL.val (Val.pure rfl) rfl rfl rfl ?_
      refine RunL.val (Val.pure rfl) rfl rfl rfl ?_
      refine RunL.val (Val.fieldAddr rfl fld_73_2) rfl rfl rfl ?_
      refine RunL.val (Val.load_one rfl (.tail _ (.head _)) ty_70 rfl) rfl rfl rfl ?_
      refine RunL.val (Val.pure rfl) rfl rfl rfl ?_
      refine RunL.val (Val.indexAddr_slp rfl rfl sl_70 (by omega) (by omega) (own_ptr hy9 (by omega))) rfl rfl rfl ?_
      refine RunL.val (Val.load_gen rfl (fun w hm => (sets_sl hy9 (fun b o h => hm.at (.tail _ (.tail _ (.tail _ ((by first | exact List.mem_append_left _ h | exact List.mem_append_right _ (List.mem_append_left _ h)))))))).loadM1 (by decide) (Mem.refl w) (by simp) ty_68 hk2 (v := .int .u64 (f : Int)) (by simp [hf]))) rfl rfl rfl ?_
      refine RunL.val (Val.convInt rfl und_68 und_3 (IntWalk.i64_in _ ⟨by omega, by omega⟩)) rfl rfl rfl ?_
      refine RunL.val (Val.pure rfl) rfl rfl rfl ?_
      refine RunL.val (Val.pure rfl) rfl rfl rfl ?_
      refine RunL.nil ?_
      refine RunE.next ?_
      refine RunC.ret ?_
      exact RunE.retP (.r2 rfl (.tmp rfl) (.tmp rfl)) (by rw [hcd]; simp [hk2, hf])
theorem counth_calls (m : MxA) (hsm : MSm m) (W : World) (hM : MOk W m) : Calls Tryd.prog 19 #[m.v] W (Pure (.tuple #[.int .i64 (CountX m.pl).1, .int .i64 (CountX m.pl).2]) W) := by
  cases hX : mixedX m.pl with
  | false =>
    have e : CountX m.pl = (0, 1) := by unfold CountX; rw [hX]; rfl
    rw [e]
    refine calls_start Tryd.func19 rfl rfl ?_
    refine RunC.seq ?_
    refine RunC.region ?_
    refine RunL.new (New.box rfl) rfl rfl rfl (fun b1 => ?_)
    refine RunL.val (Val.pure rfl) rfl rfl rfl ?_
    refine RunL.val (Val.pure rfl) rfl rfl rfl ?_
    refine RunL.nil ?_
    refine RunE.next ?_
    refine RunC.seq ?_
    refine RunC.region ?_
    refine RunL.val (Val.load_agg rfl (.head _) ty_25 rfl) rfl rfl rfl ?_
    refine RunL.callP (isCall_func rfl ent_39) rfl rfl rfl (fun w hm => openH_err m hsm w (hM.mono0 hm) hX) ?_
    iterate 5 refine RunL.val (Val.pure rfl) rfl rfl rfl ?_
    refine RunL.nil ?_
    refine RunE.next ?_
    refine RunC.seq ?_
    refine RunC.seq ?_
    refine RunC.region ?_
    refine RunL.val (Val.pure rfl) rfl rfl rfl ?_
    refine RunL.val (Val.pure rfl) rfl rfl rfl ?_
    refine RunL.nil ?_
    refine RunE.next ?_
    refine RunC.cond rfl ?_ (fun h => absurd h (by simp))
    intro c0
    clear c0
    refine RunC.seq ?_
    refine RunC.region ?_
    iterate 3 refine RunL.val (Val.pure rfl) rfl rfl rfl ?_
    refine RunL.nil ?_
    refine RunE.next ?_
    refine RunC.ret ?_
    refine RunE.pass_ret ?_
    exact RunE.retP (.r2 rfl (.tmp rfl) (.tmp rfl)) (by first | rfl | simp)
  | true =>
    have e : CountX m.pl = ((cntX m.pl : Int), 0) := by unfold CountX; rw [hX]; rfl
    rw [e]
    refine calls_start Tryd.func19 rfl rfl ?_
    refine RunC.seq ?_
    refine RunC.region ?_
    refine RunL.new (New.box rfl) rfl rfl rfl (fun b1 => ?_)
    refine RunL.val (Val.pure rfl) rfl rfl rfl ?_
    refine RunL.val (Val.pure rfl) rfl rfl rfl ?_
    refine RunL.nil ?_
    refine RunE.next ?_
    refine RunC.seq ?_
    refine RunC.region ?_
    refine RunL.val (Val.load_agg rfl (.head _) ty_25 rfl) rfl rfl rfl ?_
    refine RunL.callNT (isCall_func rfl ent_39) rfl rfl rfl (fun w hm => openH_calls m hsm w (hM.mono0 hm) hX) (fun z8 => ?_)
    obtain ⟨⟨bh8, bm8, x8, y8⟩, hx8, hy8⟩ := z8
    dsimp only
    iterate 5 refine RunL.val (Val.pure rfl) rfl rfl rfl ?_
    refine RunL.nil ?_
    refine RunE.next ?_
    refine RunC.seq ?_
    refine RunC.seq ?_
    refine RunC.region ?_
    refine RunL.val (Val.pure rfl) rfl rfl rfl ?_
    refine RunL.val (Val.pure rfl) rfl rfl rfl ?_
    refine RunL.nil ?_
    refine RunE.next ?_
    refine RunC.cond rfl (fun h => absurd h (by simp)) ?_
    intro c0
    clear c0
    refine RunC.skip ?_
    refine RunE.next ?_
    refine RunC.seq ?_
    refine RunC.region ?_
    refine RunL.val (Val.pure rfl) rfl rfl rfl ?_
    refine RunL.callN (isCall_func rfl ent_51) rfl rfl rfl (fun w hm => count0_calls bh8 w) (fun b15 => ?_)
    refine RunL.callZ (isCall_value rfl rfl ent_68) rfl rfl rfl (fun _ => (.there (.there (.there (.there .here))))) (fun w hm => on_calls (fsX m.pl).length 0 m (esX m).length _ _ (fsX m.pl) _ _ _ (by omega) 0 (by decide) [] good_nil bh8 bm8 b15.1 b15.2 w (hp_at hX (hm.at (.tail _ (.tail _ (.tail _ (.head _))))) hy8 (fun b o h => hm.at (.tail _ (.tail _ (.tail _ (.tail _ (.tail _ ((by first | exact List.mem_append_left _ h | exact List.mem_append_right _ (List.mem_append_left _ h)))))))))) (hm.at (.tail _ (.tail _ (.tail _ (.tail _ (.head _)))))) (hm.at (.tail _ (.head _))) (hm.at (.head _))) (fun x16 hx16 => ?_)
    refine RunL.val (Val.pure rfl) rfl rfl rfl ?_
    refine RunL.val (Val.pure rfl) rfl rfl rfl ?_
    refine RunL.nil ?_
    refine RunE.next ?_
    refine RunC.ret ?_
    exact RunE.retP (.r2 rfl (.tmp rfl) (.tmp rfl)) (by first | rfl | simp)
theorem shareh_calls (m : MxA) (hsm : MSm m) (c e : Int) (W : World) (hM : MOk W m) : Calls Tryd.prog 21 #[m.v, .int .i64 c, .int .i64 e] W (Pure (.tuple #[.int .i64 (ShareX m.pl c e).1, .int .i64 (ShareX m.pl c e).2]) W) := by
  cases hX : mixedX m.pl with
  | false =>
    have e1 : ShareX m.pl c e = (0, 1) := by unfold ShareX; rw [hX]; rfl
    rw [e1]
    refine calls_start Tryd.func21 rfl rfl ?_
    refine RunC.seq ?_
    refine RunC.region ?_
    refine RunL.new (New.box rfl) rfl rfl rfl (fun b3 => ?_)
    refine RunL.val (Val.pure rfl) rfl rfl rfl ?_
    refine RunL.val (Val.pure rfl) rfl rfl rfl ?_
    refine RunL.nil ?_
    refine RunE.next ?_
    refine RunC.seq ?_
    refine RunC.region ?_
    refine RunL.val (Val.load_agg rfl (.head _) ty_25 rfl) rfl rfl rfl ?_
    refine RunL.callP (isCall_func rfl ent_39) rfl rfl rfl (fun w hm => openH_err m hsm w (hM.mono0 hm) hX) ?_
    iterate 5 refine RunL.val (Val.pure rfl) rfl rfl rfl ?_
    refine RunL.nil ?_
    refine RunE.next ?_
    refine RunC.seq ?_
    refine RunC.block ?_
    refine RunC.seq ?_
    refine RunC.region ?_
    iterate 3 refine RunL.val (Val.pure rfl) rfl rfl rfl ?_
    refine RunL.nil ?_
    refine RunE.next ?_
    refine RunC.cond rfl ?_ (fun h => absurd h (by simp))
    intro c0
    clear c0
    refine RunC.seq ?_
    refine RunC.region ?_
    iterate 3 refine RunL.val (Val.pure rfl) rfl rfl rfl ?_
    refine RunL.nil ?_
    refine RunE.next ?_
    refine RunC.ret ?_
    refine RunE.block_ret ?_
    refine RunE.pass_ret ?_
    exact RunE.retP (.r2 rfl (.tmp rfl) (.tmp rfl)) (by first | rfl | simp)
  | true =>
    obtain ⟨h4, h8, h12⟩ := mixed_ok hX
    unfold ShareX
    rw [if_pos hX]
    refine calls_start Tryd.func21 rfl rfl ?_
    refine RunC.seq ?_
    refine RunC.region ?_
    refine RunL.new (New.box rfl) rfl rfl rfl (fun b3 => ?_)
    refine RunL.val (Val.pure rfl) rfl rfl rfl ?_
    refine RunL.val (Val.pure rfl) rfl rfl rfl ?_
    refine RunL.nil ?_
    refine RunE.next ?_
    refine RunC.seq ?_
    refine RunC.region ?_
    refine RunL.val (Val.load_agg rfl (.head _) ty_25 rfl) rfl rfl rfl ?_
    refine RunL.callNT (isCall_func rfl ent_39) rfl rfl rfl (fun w hm => openH_calls m hsm w (hM.mono0 hm) hX) (fun z12 => ?_)
    obtain ⟨⟨bh12, bm12, x12, y12⟩, hx12, hy12⟩ := z12
    dsimp only
    iterate 5 refine RunL.val (Val.pure rfl) rfl rfl rfl ?_
    refine RunL.nil ?_
    refine RunE.next ?_
    refine RunC.seq ?_
    refine RunC.block ?_
    refine RunC.seq ?_
    refine RunC.region ?_
    iterate 3 refine RunL.val (Val.pure rfl) rfl rfl rfl ?_
    refine RunL.nil ?_
    refine RunE.next ?_
    refine RunC.cond rfl (fun h => absurd h (by simp)) ?_
    intro c0
    clear c0
    refine RunC.seq ?_
    refine RunC.region ?_
    refine RunL.val (Val.pure rfl) rfl rfl rfl ?_
    refine RunL.val (Val.pure rfl) rfl rfl rfl ?_
    refine RunL.callP (isCall_func rfl ent_40) rfl rfl rfl (fun w hm => isCard_calls m h8 bh12 c _ _ _ w (hm.at (.tail _ (.head _)))) ?_
    refine RunL.val (Val.pure rfl) rfl rfl rfl ?_
    refine RunL.val (Val.pure rfl) rfl rfl rfl ?_
    refine RunL.orPart (dj := 24) (dp := 34) 10 rfl (fun g24 => by
      have g24' := g24
      try simp only [decide_eq_true_eq, decide_eq_false_iff_not, Bool.not_eq_true', Bool.not_eq_false', Bool.and_eq_true, Bool.or_eq_true, Bool.and_eq_false_iff, Bool.or_eq_false_iff, Int.not_le, Int.not_lt] at g24'
      iterate 3 refine RunL.val (Val.pure rfl) rfl rfl rfl ?_
      refine RunL.val (Val.fieldAddr rfl fld_73_1) rfl rfl rfl ?_
      refine RunL.val (Val.load_one rfl (.tail _ (.head _)) ty_69 rfl) rfl rfl rfl ?_
      refine RunL.val (Val.len_sl rfl sl_69) rfl rfl rfl ?_
      refine RunL.val (Val.sub' rfl rfl (IntWalk.i64_in _ ⟨by omega, by omega⟩)) rfl rfl rfl ?_
      refine RunL.callP (isCall_func rfl ent_53) rfl rfl rfl (fun w hm => hwithin_calls _ _ _ w) ?_
      refine RunL.val (Val.pure rfl) rfl rfl rfl ?_
      refine RunL.val (Val.pure rfl) rfl rfl rfl ?_
      exact RunL.segEnd (Sub.cons rfl (Sub.skip rfl (Sub.skip rfl (Sub.skip rfl (Sub.skip rfl (Sub.skip rfl (Sub.skip rfl (Sub.skip rfl (Sub.skip rfl (Sub.skip rfl (Sub.skip rfl (Sub.same rfl (by rw [g24]) (Sub.refl _))))))))))))) (List.Sublist.refl _)
    ) (fun g24 => by
      have g24' := g24
      try simp only [decide_eq_true_eq, decide_eq_false_iff_not, Bool.not_eq_true', Bool.not_eq_false', Bool.and_eq_true, Bool.or_eq_true, Bool.and_eq_false_iff, Bool.or_eq_false_iff, Int.not_le, Int.not_lt] at g24'
      iterate 9 refine RunL.no rfl rfl rfl ?_
      refine RunL.val (Val.pure rfl) rfl rfl rfl ?_
      exact RunL.segEnd (Sub.cons rfl (Sub.skip rfl (Sub.skip rfl (Sub.skip rfl (Sub.skip rfl (Sub.skip rfl (Sub.skip rfl (Sub.skip rfl (Sub.skip rfl (Sub.skip rfl (Sub.skip rfl (Sub.same rfl (by rw [g24]) (Sub.refl _))))))))))))) (List.Sublist.refl _)
    ) ?_
    refine RunL.val (Val.pure rfl) rfl rfl rfl ?_
    refine RunL.nil ?_
    refine RunE.next ?_
    refine RunC.cond rfl ?_ ?_
    · intro c1
      have c1' := c1; clear c1
      try simp only [decide_eq_true_eq, decide_eq_false_iff_not, Bool.not_eq_true', Bool.not_eq_false', Bool.and_eq_true, Bool.or_eq_true, Bool.and_eq_false_iff, Bool.or_eq_false_iff, Int.not_le, Int.not_lt] at c1'
      have hce : (cardX m.pl c && entryX m.pl e) = false := by (show (cardX m.pl c && within e 0 (((esX m).length : Int) - 1)) = false; cases h1 : cardX m.pl c <;> cases h2 : within e 0 (((esX m).length : Int) - 1) <;> simp_all)
      refine RunC.seq ?_
      refine RunC.region ?_
      refine RunL.val (Val.pure rfl) rfl rfl rfl ?_
      refine RunL.val (Val.pure rfl) rfl rfl rfl ?_
      refine RunL.nil ?_
      refine RunE.next ?_
      refine RunC.ret ?_
      refine RunE.block_ret ?_
      refine RunE.pass_ret ?_
      exact RunE.retP (.r2 rfl (.tmp rfl) (.tmp rfl)) (by rw [hce]; rfl)
    · intro c1
      have c1' := c1; clear c1
      try simp only [decide_eq_true_eq, decide_eq_false_iff_not, Bool.not_eq_true', Bool.not_eq_false', Bool.and_eq_true, Bool.or_eq_true, Bool.and_eq_false_iff, Bool.or_eq_false_iff, Int.not_le, Int.not_lt] at c1'
      have hce : (cardX m.pl c && entryX m.pl e) = true := by (show (cardX m.pl c && within e 0 (((esX m).length : Int) - 1)) = true; cases h1 : cardX m.pl c <;> cases h2 : within e 0 (((esX m).length : Int) - 1) <;> simp_all)
      obtain ⟨hc1, hc2⟩ := Bool.and_eq_true_iff.1 hce
      obtain ⟨k1, rfl, hk1⟩ := card_nat hc1
      obtain ⟨k2, rfl, hk2⟩ := entry_nat hc2
      have hk3 : k1 < (fsX m.pl).length := by (rw [fs_len]; exact hk1)
      refine RunC.skip ?_
      refine RunE.block_normal ?_
      refine RunE.next ?_
      refine RunC.seq ?_
      refine RunC.region ?_
      iterate 3 refine RunL.val (Val.pure rfl) rfl rfl rfl ?_
      refine RunL.callP (isCall_func rfl ent_54) rfl rfl rfl (fun w hm => share_calls m (esX m).length _ _ (fsX m.pl) _ _ _ k1 k2 hk3 hk2 bh12 bm12 w (hp_at hX (hm.at (.tail _ (.head _))) hy12 (fun b o h => hm.at (.tail _ (.tail _ (.tail _ ((by first | exact List.mem_append_left _ h | exact List.mem_append_right _ (List.mem_append_left _ h))))))))) ?_
      refine RunL.val (Val.pure rfl) rfl rfl rfl ?_
      refine RunL.val (Val.pure rfl) rfl rfl rfl ?_
      refine RunL.nil ?_
      refine RunE.next ?_
      refine RunC.ret ?_
      exact RunE.retP (.r2 rfl (.tmp rfl) (.tmp rfl)) (by rw [hce]; rfl)
theorem ways_err (m : MxA) (hsm : MSm m) (W : World) (hM : MOk W m) (hw : waysE m.pl ≠ 0) : Calls Tryd.prog 55 #[m.v] W (Pure (.tuple #[.pointer none, .int .i64 (waysE m.pl)]) W) := by
  cases hX : mixedX m.pl with
  | false =>
    have e1 : waysE m.pl = 1 := by unfold waysE; rw [hX]; rfl
    rw [e1]
    refine calls_start Tryd.func55 rfl rfl ?_
    refine RunC.seq ?_
    refine RunC.region ?_
    refine RunL.new (New.box rfl) rfl rfl rfl (fun b1 => ?_)
    refine RunL.val (Val.pure rfl) rfl rfl rfl ?_
    refine RunL.val (Val.pure rfl) rfl rfl rfl ?_
    refine RunL.nil ?_
    refine RunE.next ?_
    refine RunC.seq ?_
    refine RunC.region ?_
    refine RunL.val (Val.load_agg rfl (.head _) ty_25 rfl) rfl rfl rfl ?_
    refine RunL.callP (isCall_func rfl ent_39) rfl rfl rfl (fun w hm => openH_err m hsm w (hM.mono0 hm) hX) ?_
    iterate 5 refine RunL.val (Val.pure rfl) rfl rfl rfl ?_
    refine RunL.nil ?_
    refine RunE.next ?_
    refine RunC.seq ?_
    refine RunC.block ?_
    refine RunC.seq ?_
    refine RunC.region ?_
    iterate 3 refine RunL.val (Val.pure rfl) rfl rfl rfl ?_
    refine RunL.nil ?_
    refine RunE.next ?_
    refine RunC.cond rfl ?_ (fun h => absurd h (by simp))
    intro c0
    clear c0
    refine RunC.seq ?_
    refine RunC.region ?_
    iterate 3 refine RunL.val (Val.pure rfl) rfl rfl rfl ?_
    refine RunL.nil ?_
    refine RunE.next ?_
    refine RunC.ret ?_
    refine RunE.block_ret ?_
    refine RunE.pass_ret ?_
    exact RunE.retP (.r2 rfl (.tmp rfl) (.tmp rfl)) (by first | rfl | simp)
  | true =>
    have e0 : cntX m.pl = 0 := by
      unfold waysE at hw
      rw [if_pos hX] at hw
      by_cases h : cntX m.pl = 0
      · exact h
      · exact absurd (if_neg h) hw
    have e1 : waysE m.pl = 4 := by unfold waysE; rw [if_pos hX, if_pos e0]
    have e2 : cntL (esX m).length (List.drop 0 (fsX m.pl)) 0 = 0 := e0
    rw [e1]
    refine calls_start Tryd.func55 rfl rfl ?_
    refine RunC.seq ?_
    refine RunC.region ?_
    refine RunL.new (New.box rfl) rfl rfl rfl (fun b1 => ?_)
    refine RunL.val (Val.pure rfl) rfl rfl rfl ?_
    refine RunL.val (Val.pure rfl) rfl rfl rfl ?_
    refine RunL.nil ?_
    refine RunE.next ?_
    refine RunC.seq ?_
    refine RunC.region ?_
    refine RunL.val (Val.load_agg rfl (.head _) ty_25 rfl) rfl rfl rfl ?_
    refine RunL.callNT (isCall_func rfl ent_39) rfl rfl rfl (fun w hm => openH_calls m hsm w (hM.mono0 hm) hX) (fun z8 => ?_)
    obtain ⟨⟨bh8, bm8, x8, y8⟩, hx8, hy8⟩ := z8
    dsimp only
    iterate 5 refine RunL.val (Val.pure rfl) rfl rfl rfl ?_
    refine RunL.nil ?_
    refine RunE.next ?_
    refine RunC.seq ?_
    refine RunC.block ?_
    refine RunC.seq ?_
    refine RunC.region ?_
    iterate 3 refine RunL.val (Val.pure rfl) rfl rfl rfl ?_
    refine RunL.nil ?_
    refine RunE.next ?_
    refine RunC.cond rfl (fun h => absurd h (by simp)) ?_
    intro c0
    clear c0
    refine RunC.seq ?_
    refine RunC.region ?_
    refine RunL.val (Val.pure rfl) rfl rfl rfl ?_
    refine RunL.callN (isCall_func rfl ent_51) rfl rfl rfl (fun w hm => count0_calls bh8 w) (fun b17 => ?_)
    refine RunL.callZ (isCall_value rfl rfl ent_68) rfl rfl rfl (fun _ => (.there (.there (.there (.there .here))))) (fun w hm => on_calls (fsX m.pl).length 0 m (esX m).length _ _ (fsX m.pl) _ _ _ (by omega) 0 (by decide) [] good_nil bh8 bm8 b17.1 b17.2 w (hp_at hX (hm.at (.tail _ (.tail _ (.tail _ (.head _))))) hy8 (fun b o h => hm.at (.tail _ (.tail _ (.tail _ (.tail _ (.tail _ ((by first | exact List.mem_append_left _ h | exact List.mem_append_right _ (List.mem_append_left _ h)))))))))) (hm.at (.tail _ (.tail _ (.tail _ (.tail _ (.head _)))))) (hm.at (.tail _ (.head _))) (hm.at (.head _))) (fun x18 hx18 => ?_)
    refine RunL.val (Val.pure rfl) rfl rfl rfl ?_
    refine RunL.val (Val.pure rfl) rfl rfl rfl ?_
    refine RunL.nil ?_
    refine RunE.next ?_
    refine RunC.cond rfl ?_ (fun h => absurd h (by rw [e2]; simp))
    intro c1
    clear c1
    refine RunC.seq ?_
    refine RunC.region ?_
    refine RunL.val (Val.pure rfl) rfl rfl rfl ?_
    refine RunL.val (Val.pure rfl) rfl rfl rfl ?_
    refine RunL.nil ?_
    refine RunE.next ?_
    refine RunC.ret ?_
    refine RunE.block_ret ?_
    refine RunE.pass_ret ?_
    exact RunE.retP (.r2 rfl (.tmp rfl) (.tmp rfl)) (by first | rfl | simp)
theorem ways_calls (m : MxA) (hsm : MSm m) (W : World) (hM : MOk W m) (hw : waysE m.pl = 0) : Calls Tryd.prog 55 #[m.v] W
    (News (fun z : HW m => .tuple #[.pointer (some ⟨z.1.1.bh, 0, none⟩), .int .i64 0]) (fun z => [(z.1.1.bh, hpV m z.1.1.bh z.1.1.bm z.1.1.x z.1.1.y), (z.1.1.bm, mapG z.1.2)] ++
      (ownB 68 z.1.1.y (setsV (fsX m.pl)).flatten ++ (ownB 95 z.1.1.x ((esX m).map En.cells).flatten ++ []))) W) := by
  have hX : mixedX m.pl = true := by
    cases h : mixedX m.pl with
    | true => rfl
    | false => unfold waysE at hw; rw [h] at hw; cases hw
  have e0 : cntX m.pl ≠ 0 := fun h => by
    unfold waysE at hw
    rw [if_pos hX, if_pos h] at hw
    cases hw
  have e2 : cntL (esX m).length (List.drop 0 (fsX m.pl)) 0 ≠ 0 := e0
  refine calls_start Tryd.func55 rfl rfl ?_
  refine RunC.seq ?_
  refine RunC.region ?_
  refine RunL.new (New.box rfl) rfl rfl rfl (fun b1 => ?_)
  refine RunL.val (Val.pure rfl) rfl rfl rfl ?_
  refine RunL.val (Val.pure rfl) rfl rfl rfl ?_
  refine RunL.nil ?_
  refine RunE.next ?_
  refine RunC.seq ?_
  refine RunC.region ?_
  refine RunL.val (Val.load_agg rfl (.head _) ty_25 rfl) rfl rfl rfl ?_
  refine RunL.callNT (isCall_func rfl ent_39) rfl rfl rfl (fun w hm => openH_calls m hsm w (hM.mono0 hm) hX) (fun z8 => ?_)
  obtain ⟨⟨bh8, bm8, x8, y8⟩, hx8, hy8⟩ := z8
  dsimp only
  iterate 5 refine RunL.val (Val.pure rfl) rfl rfl rfl ?_
  refine RunL.nil ?_
  refine RunE.next ?_
  refine RunC.seq ?_
  refine RunC.block ?_
  refine RunC.seq ?_
  refine RunC.region ?_
  iterate 3 refine RunL.val (Val.pure rfl) rfl rfl rfl ?_
  refine RunL.nil ?_
  refine RunE.next ?_
  refine RunC.cond rfl (fun h => absurd h (by simp)) ?_
  intro c0
  clear c0
  refine RunC.seq ?_
  refine RunC.region ?_
  refine RunL.val (Val.pure rfl) rfl rfl rfl ?_
  refine RunL.callN (isCall_func rfl ent_51) rfl rfl rfl (fun w hm => count0_calls bh8 w) (fun b17 => ?_)
  refine RunL.callZ (isCall_value rfl rfl ent_68) rfl rfl rfl (fun _ => (.there (.there (.there (.there .here))))) (fun w hm => on_calls (fsX m.pl).length 0 m (esX m).length _ _ (fsX m.pl) _ _ _ (by omega) 0 (by decide) [] good_nil bh8 bm8 b17.1 b17.2 w (hp_at hX (hm.at (.tail _ (.tail _ (.tail _ (.head _))))) hy8 (fun b o h => hm.at (.tail _ (.tail _ (.tail _ (.tail _ (.tail _ ((by first | exact List.mem_append_left _ h | exact List.mem_append_right _ (List.mem_append_left _ h)))))))))) (hm.at (.tail _ (.tail _ (.tail _ (.tail _ (.head _)))))) (hm.at (.tail _ (.head _))) (hm.at (.head _))) (fun x18 hx18 => ?_)
  refine RunL.val (Val.pure rfl) rfl rfl rfl ?_
  refine RunL.val (Val.pure rfl) rfl rfl rfl ?_
  refine RunL.nil ?_
  refine RunE.next ?_
  refine RunC.cond rfl (fun h => absurd h (by simpa using e2)) ?_
  intro c1
  clear c1
  refine RunC.skip ?_
  refine RunE.block_normal ?_
  refine RunE.next ?_
  refine RunC.seq ?_
  refine RunC.region ?_
  iterate 3 refine RunL.val (Val.pure rfl) rfl rfl rfl ?_
  refine RunL.nil ?_
  refine RunE.next ?_
  refine RunC.ret ?_
  exact RunE.ret (chg := []) (.r2 rfl (.tmp rfl) (.tmp rfl)) (fun _ hm => ⟨⟨(⟨bh8, bm8, x8, y8⟩, x18), hx8, hy8, hx18.1⟩, rfl, hm.pick (.cons (.there (.there (.there .here))) rfl (.cons (.there (.there (.there .here))) rfl (Pick.skip (Pick.skip (Pick.skip (Pick.refl _))))))⟩)
end Go.Proofs.YtlhdalcipflblaaDoor
/- The facts on the tables of types and on the entries of functions that the walks use. Written by program. -/
set_option linter.unusedSimpArgs false
set_option linter.unusedVariables false
namespace Go.Proofs.YtlhdalcipflblaaDoor
open Go Go.Eng
theorem ent_55 : Enters Tryd.prog 55 := enters_of Tryd.func55 (by kernel_rfl) rfl
end Go.Proofs.YtlhdalcipflblaaDoor
/- Walks of package heap: Lost. -/
set_option linter.unusedSimpArgs false
set_option linter.unusedVariables false
namespace Go.Hp
open Go Go.Eng Go.Pw1
theorem ways_ok {m : Mx} (hw : waysE m = 0) : mixedX m = true ∧ cntX m ≠ 0 := by
  have hX : mixedX m = true := by
    cases h : mixedX m with
    | true => rfl
    | false => unfold waysE at hw; rw [h] at hw; cases hw
  exact ⟨hX, fun h => by
    unfold waysE at hw
    rw [if_pos hX, if_pos h] at hw
    cases hw⟩
def usum (ne : Nat) (fs : List Nat) (e j : Nat) : Nat := ((List.range j).map fun c => shareL ne fs c e).sum
theorem usum_s (ne : Nat) (fs : List Nat) (e j : Nat) : usum ne fs e (j + 1) = usum ne fs e j + shareL ne fs j e := by
  unfold usum
  rw [List.range_succ, List.map_append, List.sum_append]
  simp
theorem share_bd {ne : Nat} {fs : List Nat} (h1 : ne ≤ 12) (h2 : fs.length ≤ 8) (c e : Nat) : shareL ne fs c e ≤ 429981696 := cnt_bd h1 (by rw [setC_len]; exact h2) 0
theorem usum_le {ne : Nat} {fs : List Nat} {B : Nat} (hB : ∀ c e, shareL ne fs c e ≤ B) (e j : Nat) : usum ne fs e j ≤ j * B := by
  induction j with
  | zero => simp [usum]
  | succ j ih =>
    have b := hB j e
    rw [usum_s, Nat.succ_mul]
    omega
theorem usum_all (ne : Nat) (fs : List Nat) (e : Nat) : usum ne fs e fs.length = usedL ne fs e := rfl
end Go.Hp
namespace Go.Proofs.YtlhdalcipflblaaDoor
open Go Go.Eng Go.Hp Go.Pw1

theorem lost_calls (m : MxA) (hsm : MSm m) (W : World) (hM : MOk W m) : Calls Tryd.prog 27 #[m.v] W (Pure (.tuple #[.int .i64 (LostX m.pl).1.1, .int .i64 (LostX m.pl).1.2, .int .i64 (LostX m.pl).2]) W) := by
  by_cases hw : waysE m.pl = 0
  · obtain ⟨hX, h0⟩ := ways_ok hw
    obtain ⟨h4, h8, h12⟩ := mixed_ok hX
    have hfl := fs_len m
    have hcs := cnt_small m hX
    have e : LostX m.pl = (((lostX m.pl : Int), (canX m.pl : Int)), 0) := by unfold LostX; rw [if_pos hw]
    rw [e]
    have hall : cntL (esX m).length (fsX m.pl) 0 = cntX m.pl := rfl
    refine calls_start Tryd.func27 rfl rfl ?_
    refine RunC.seq ?_
    refine RunC.region ?_
    refine RunL.new (New.box rfl) rfl rfl rfl (fun b1 => ?_)
    iterate 3 refine RunL.val (Val.pure rfl) rfl rfl rfl ?_
    refine RunL.nil ?_
    refine RunE.next ?_
    refine RunC.seq ?_
    refine RunC.region ?_
    refine RunL.val (Val.load_agg rfl (.head _) ty_25 rfl) rfl rfl rfl ?_
    refine RunL.callNT (isCall_func rfl ent_55) rfl rfl rfl (fun w hm => ways_calls m hsm w (hM.mono0 hm) hw) (fun z12 => ?_)
    obtain ⟨⟨⟨bh12, bm12, x12, y12⟩, l12⟩, hx12, hy12, hg12⟩ := z12
    dsimp only
    iterate 5 refine RunL.val (Val.pure rfl) rfl rfl rfl ?_
    refine RunL.nil ?_
    refine RunE.next ?_
    refine RunC.seq ?_
    refine RunC.seq ?_
    refine RunC.region ?_
    refine RunL.val (Val.pure rfl) rfl rfl rfl ?_
    refine RunL.val (Val.pure rfl) rfl rfl rfl ?_
    refine RunL.nil ?_
    refine RunE.next ?_
    refine RunC.cond rfl (fun h => absurd h (by simp)) ?_
    intro c0
    clear c0
    refine RunC.skip ?_
    refine RunE.next ?_
    refine RunC.seq ?_
    refine RunC.region ?_
    refine RunL.val (Val.pure rfl) rfl rfl rfl ?_
    refine RunL.callN (isCall_func rfl ent_51) rfl rfl rfl (fun w hm => count0_calls bh12 w) (fun b19 => ?_)
    refine RunL.callZ (isCall_value rfl rfl ent_68) rfl rfl rfl (fun _ => (.there (.there (.there (.there .here))))) (fun w hm => on_calls (fsX m.pl).length 0 m (esX m).length _ _ (fsX m.pl) _ _ _ (by omega) 0 (by decide) l12 hg12 bh12 bm12 b19.1 b19.2 w (hp_at hX (hm.at (.tail _ (.tail _ (.tail _ (.head _))))) hy12 (fun b o h => hm.at (.tail _ (.tail _ (.tail _ (.tail _ (.tail _ ((by first | exact List.mem_append_left _ h | exact List.mem_append_right _ (List.mem_append_left _ h)))))))))) (hm.at (.tail _ (.tail _ (.tail _ (.tail _ (.head _)))))) (hm.at (.tail _ (.head _))) (hm.at (.head _))) (fun x20 hx20 => ?_)
    refine RunL.val (Val.pure rfl) rfl rfl rfl ?_
    refine RunL.nil ?_
    refine RunE.next ?_
    refine RunC.seq ?_
    refine RunC.seq ?_
    refine RunC.region ?_
    refine RunL.val (Val.pure rfl) rfl rfl rfl ?_
    refine RunL.val (Val.pure rfl) rfl rfl rfl ?_
    refine RunL.val (Val.fieldAddr rfl fld_73_1) rfl rfl rfl ?_
    refine RunL.val (Val.load_one rfl (.tail _ (.tail _ (.tail _ (.head _)))) ty_69 rfl) rfl rfl rfl ?_
    refine RunL.val (Val.len_sl rfl sl_69) rfl rfl rfl ?_
    refine RunL.val (Val.pure rfl) rfl rfl rfl ?_
    refine RunL.nil ?_
    refine RunE.next ?_
    refine RunC.block ?_
    refine RunC.loopK ((esX m).length) (fun k q => (26, .int .i64 (k : Int)) :: (2, .int .i64 ((setOf (fun e => decide (usedL (esX m).length (fsX m.pl) e = 0)) k : Nat) : Int)) :: (3, .int .i64 ((setOf (fun e => decide (usedL (esX m).length (fsX m.pl) e < cntX m.pl)) k : Nat) : Int)) :: q) (fun _ => _) (fun _ => []) (fun _ => True) trivial rfl (Sub.consE (t := 26) rfl rfl (Sub.consE (t := 2) rfl rfl (Sub.consE (t := 3) rfl rfl (Sub.cons (t := 5) rfl (Sub.cons (t := 6) rfl (Sub.cons (t := 25) rfl (Sub.nil _))))))) (.cons (.there (.there (.there .here))) rfl (.cons (.there (.there (.there .here))) rfl (Pick.skip (Pick.skip (Pick.skip (Pick.refl _)))))) ?_
    intro k kN kI
    clear kI
    refine RunC.seq ?_
    refine RunC.region ?_
    refine RunL.val (Val.pure rfl) rfl rfl rfl ?_
    refine RunL.nil ?_
    refine RunE.next ?_
    refine RunC.seq ?_
    refine RunC.cond rfl ?_ ?_
    · intro c1
      have c1' := c1; clear c1
      try simp only [decide_eq_true_eq, decide_eq_false_iff_not, Bool.not_eq_true', Bool.not_eq_false', Bool.and_eq_true, Bool.or_eq_true, Bool.and_eq_false_iff, Bool.or_eq_false_iff, Int.not_le, Int.not_lt] at c1'
      have hk : k < (esX m).length := by omega
      have hs3 := setOf_lt (fun e => decide (usedL (esX m).length (fsX m.pl) e = 0)) k
      have hs4 := setOf_lt (fun e => decide (usedL (esX m).length (fsX m.pl) e < cntX m.pl)) k
      have h2k : 2 ^ k < 2 ^ 12 := Nat.pow_lt_pow_right (by decide) (by omega)
      have ho3 : setOf (fun e => decide (usedL (esX m).length (fsX m.pl) e = 0)) k ||| 2 ^ k < 2 ^ 12 := Nat.or_lt_two_pow (by omega) h2k
      have ho4 : setOf (fun e => decide (usedL (esX m).length (fsX m.pl) e < cntX m.pl)) k ||| 2 ^ k < 2 ^ 12 := Nat.or_lt_two_pow (by omega) h2k
      refine RunC.skip ?_
      refine RunE.next ?_
      refine RunC.seq ?_
      refine RunC.block ?_
      refine RunC.seq ?_
      refine RunC.region ?_
      refine RunL.val (Val.pure rfl) rfl rfl rfl ?_
      refine RunL.val (Val.pure rfl) rfl rfl rfl ?_
      refine RunL.nil ?_
      refine RunE.next ?_
      refine RunC.seq ?_
      refine RunC.region ?_
      refine RunL.val (Val.pure rfl) rfl rfl rfl ?_
      refine RunL.nil ?_
      refine RunE.next ?_
      refine RunC.seq ?_
      refine RunC.seq ?_
      refine RunC.region ?_
      refine RunL.val (Val.pure rfl) rfl rfl rfl ?_
      refine RunL.val (Val.pure rfl) rfl rfl rfl ?_
      refine RunL.val (Val.fieldAddr rfl fld_73_0) rfl rfl rfl ?_
      refine RunL.val (Val.fieldAddr rfl fld_25_1) rfl rfl rfl ?_
      refine RunL.val (Val.load_one rfl (.head _) ty_23 rfl) rfl rfl rfl ?_
      refine RunL.val (Val.len_sl rfl sl_23) rfl rfl rfl ?_
      refine RunL.val (Val.pure rfl) rfl rfl rfl ?_
      refine RunL.nil ?_
      refine RunE.next ?_
      refine RunC.block ?_
      refine RunC.loopK (m.cards.length) (fun j q => (35, .int .i64 (j : Int)) :: (8, .int .i64 ((usum (esX m).length (fsX m.pl) k j : Nat) : Int)) :: q) (fun _ => _) (fun _ => []) (fun _ => True) trivial rfl (Sub.consE (t := 35) rfl rfl (Sub.consE (t := 8) rfl rfl (Sub.cons (t := 5) rfl (Sub.cons (t := 6) rfl (Sub.cons (t := 25) rfl (Sub.cons (t := 26) rfl (Sub.cons (t := 2) rfl (Sub.cons (t := 3) rfl (Sub.cons (t := 7) rfl (Sub.cons (t := 34) rfl (Sub.nil _))))))))))) (.cons .here rfl (.cons .here rfl (Pick.refl _))) ?_
      intro j jN jI
      clear jI
      refine RunC.seq ?_
      refine RunC.region ?_
      refine RunL.val (Val.pure rfl) rfl rfl rfl ?_
      refine RunL.nil ?_
      refine RunE.next ?_
      refine RunC.seq ?_
      refine RunC.cond rfl ?_ ?_
      · intro c2
        have c2' := c2; clear c2
        try simp only [decide_eq_true_eq, decide_eq_false_iff_not, Bool.not_eq_true', Bool.not_eq_false', Bool.and_eq_true, Bool.or_eq_true, Bool.and_eq_false_iff, Bool.or_eq_false_iff, Int.not_le, Int.not_lt] at c2'
        have hj : j < m.cards.length := by omega
        have hu := usum_le (share_bd h12 (by omega : (fsX m.pl).length ≤ 8)) k j
        have hsb := share_bd h12 (by omega : (fsX m.pl).length ≤ 8) j k
        refine RunC.skip ?_
        refine RunE.next ?_
        refine RunC.seq ?_
        refine RunC.block ?_
        refine RunC.seq ?_
        refine RunC.region ?_
        refine RunL.val (Val.pure rfl) rfl rfl rfl ?_
        refine RunL.val (Val.pure rfl) rfl rfl rfl ?_
        refine RunL.nil ?_
        refine RunE.next ?_
        refine RunC.region ?_
        iterate 4 refine RunL.val (Val.pure rfl) rfl rfl rfl ?_
        refine RunL.callP (isCall_func rfl ent_54) rfl rfl rfl (fun w hm => share_calls m (esX m).length _ _ (fsX m.pl) _ _ _ j k (by omega) hk bh12 bm12 w (hp_at hX (hm.at (.head _)) hy12 (fun b o h => hm.at (.tail _ (.tail _ ((by first | exact List.mem_append_left _ h | exact List.mem_append_right _ (List.mem_append_left _ h)))))))) ?_
        refine RunL.val (Val.addN (a := usum (esX m).length (fsX m.pl) k j) (b := shareL (esX m).length (fsX m.pl) j k) (usum (esX m).length (fsX m.pl) k j + shareL (esX m).length (fsX m.pl) j k) rfl rfl rfl (i64_inN (by omega))) rfl rfl rfl ?_
        refine RunL.val (Val.pure rfl) rfl rfl rfl ?_
        refine RunL.nil ?_
        refine RunE.block_normal ?_
        refine RunE.next ?_
        refine RunC.region ?_
        refine RunL.val (Val.add rfl rfl (IntWalk.i64_in _ ⟨by omega, by omega⟩)) rfl rfl rfl ?_
        refine RunL.val (Val.pure rfl) rfl rfl rfl ?_
        refine RunL.nil ?_
        exact RunE.round (by omega) trivial rfl (Sub.consE (t := 35) rfl rfl (Sub.consE (t := 8) rfl (by rw [usum_s]) (Sub.cons (t := 5) rfl (Sub.cons (t := 6) rfl (Sub.cons (t := 25) rfl (Sub.cons (t := 26) rfl (Sub.cons (t := 2) rfl (Sub.cons (t := 3) rfl (Sub.cons (t := 7) rfl (Sub.cons (t := 34) rfl (Sub.nil _))))))))))) (.cons .here rfl (.cons .here rfl (Pick.refl _)))
      · intro c2
        have c2' := c2; clear c2
        try simp only [decide_eq_true_eq, decide_eq_false_iff_not, Bool.not_eq_true', Bool.not_eq_false', Bool.and_eq_true, Bool.or_eq_true, Bool.and_eq_false_iff, Bool.or_eq_false_iff, Int.not_le, Int.not_lt] at c2'
        have hjn : j = (fsX m.pl).length := by omega
        have hu0 : usum (esX m).length (fsX m.pl) k j = usedL (esX m).length (fsX m.pl) k := by (rw [hjn, usum_all])
        rw [hu0]
        clear hu0
        refine RunC.exit ?_
        refine RunE.pass_exit ?_
        refine RunE.pass_exit ?_
        refine RunE.block_here ?_
        refine RunE.next ?_
        refine RunC.seq ?_
        refine RunC.seq ?_
        refine RunC.region ?_
        refine RunL.val (Val.pure rfl) rfl rfl rfl ?_
        refine RunL.val (Val.pure rfl) rfl rfl rfl ?_
        refine RunL.nil ?_
        refine RunE.next ?_
        refine RunC.cond rfl ?_ ?_
        · intro c3
          have c3' := c3; clear c3
          try simp only [decide_eq_true_eq, decide_eq_false_iff_not, Bool.not_eq_true', Bool.not_eq_false', Bool.and_eq_true, Bool.or_eq_true, Bool.and_eq_false_iff, Bool.or_eq_false_iff, Int.not_le, Int.not_lt] at c3'
          have q3 : setOf (fun e => decide (usedL (esX m).length (fsX m.pl) e = 0)) (k + 1) = setOf (fun e => decide (usedL (esX m).length (fsX m.pl) e = 0)) k ||| 2 ^ k := if_pos (by simpa using c3')
          refine RunC.region ?_
          refine RunL.val (Val.pure rfl) rfl rfl rfl ?_
          refine RunL.val (Val.pure rfl) rfl rfl rfl ?_
          refine RunL.val (Val.shl1 (b := k) rfl rfl (by show k ≤ 64; omega) (i64_inN (by omega))) rfl rfl rfl ?_
          refine RunL.val (Val.or (a := setOf (fun e => decide (usedL (esX m).length (fsX m.pl) e = 0)) k) (b := 2 ^ k) rfl rfl (by show _ < 18446744073709551616; omega) (by show _ < 18446744073709551616; omega) (i64_inN (by omega))) rfl rfl rfl ?_
          refine RunL.val (Val.pure rfl) rfl rfl rfl ?_
          refine RunL.nil ?_
          refine RunE.next ?_
          refine RunC.seq ?_
          refine RunC.region ?_
          iterate 3 refine RunL.val (Val.pure rfl) rfl rfl rfl ?_
          refine RunL.nil ?_
          refine RunE.next ?_
          refine RunC.cond rfl ?_ ?_
          · intro c4
            have c4' := c4; clear c4
            try simp only [decide_eq_true_eq, decide_eq_false_iff_not, Bool.not_eq_true', Bool.not_eq_false', Bool.and_eq_true, Bool.or_eq_true, Bool.and_eq_false_iff, Bool.or_eq_false_iff, Int.not_le, Int.not_lt] at c4'
            have q4 : setOf (fun e => decide (usedL (esX m).length (fsX m.pl) e < cntX m.pl)) (k + 1) = setOf (fun e => decide (usedL (esX m).length (fsX m.pl) e < cntX m.pl)) k ||| 2 ^ k := if_pos (by simpa [hall] using c4')
            refine RunC.region ?_
            refine RunL.val (Val.pure rfl) rfl rfl rfl ?_
            refine RunL.val (Val.pure rfl) rfl rfl rfl ?_
            refine RunL.val (Val.shl1 (b := k) rfl rfl (by show k ≤ 64; omega) (i64_inN (by omega))) rfl rfl rfl ?_
            refine RunL.val (Val.or (a := setOf (fun e => decide (usedL (esX m).length (fsX m.pl) e < cntX m.pl)) k) (b := 2 ^ k) rfl rfl (by show _ < 18446744073709551616; omega) (by show _ < 18446744073709551616; omega) (i64_inN (by omega))) rfl rfl rfl ?_
            refine RunL.val (Val.pure rfl) rfl rfl rfl ?_
            refine RunL.nil ?_
            refine RunE.block_normal ?_
            refine RunE.next ?_
            refine RunC.region ?_
            refine RunL.val (Val.add rfl rfl (IntWalk.i64_in _ ⟨by omega, by omega⟩)) rfl rfl rfl ?_
            refine RunL.val (Val.pure rfl) rfl rfl rfl ?_
            refine RunL.nil ?_
            exact RunE.round (by omega) trivial rfl (Sub.consE (t := 26) rfl rfl (Sub.consE (t := 2) rfl (by rw [q3]) (Sub.consE (t := 3) rfl (by rw [q4]) (Sub.cons (t := 5) rfl (Sub.cons (t := 6) rfl (Sub.cons (t := 25) rfl (Sub.nil _))))))) (.cons .here rfl (.cons .here rfl (Pick.refl _)))
          · intro c4
            have c4' := c4; clear c4
            try simp only [decide_eq_true_eq, decide_eq_false_iff_not, Bool.not_eq_true', Bool.not_eq_false', Bool.and_eq_true, Bool.or_eq_true, Bool.and_eq_false_iff, Bool.or_eq_false_iff, Int.not_le, Int.not_lt] at c4'
            have q4 : setOf (fun e => decide (usedL (esX m).length (fsX m.pl) e < cntX m.pl)) (k + 1) = setOf (fun e => decide (usedL (esX m).length (fsX m.pl) e < cntX m.pl)) k := if_neg (by simpa [hall] using c4')
            refine RunC.skip ?_
            refine RunE.block_normal ?_
            refine RunE.next ?_
            refine RunC.region ?_
            refine RunL.val (Val.add rfl rfl (IntWalk.i64_in _ ⟨by omega, by omega⟩)) rfl rfl rfl ?_
            refine RunL.val (Val.pure rfl) rfl rfl rfl ?_
            refine RunL.nil ?_
            exact RunE.round (by omega) trivial rfl (Sub.consE (t := 26) rfl rfl (Sub.consE (t := 2) rfl (by rw [q3]) (Sub.consE (t := 3) rfl (by rw [q4]) (Sub.cons (t := 5) rfl (Sub.cons (t := 6) rfl (Sub.cons (t := 25) rfl (Sub.nil _))))))) (.cons .here rfl (.cons .here rfl (Pick.refl _)))
        · intro c3
          have c3' := c3; clear c3
          try simp only [decide_eq_true_eq, decide_eq_false_iff_not, Bool.not_eq_true', Bool.not_eq_false', Bool.and_eq_true, Bool.or_eq_true, Bool.and_eq_false_iff, Bool.or_eq_false_iff, Int.not_le, Int.not_lt] at c3'
          have q3 : setOf (fun e => decide (usedL (esX m).length (fsX m.pl) e = 0)) (k + 1) = setOf (fun e => decide (usedL (esX m).length (fsX m.pl) e = 0)) k := if_neg (by simpa using c3')
          refine RunC.skip ?_
          refine RunE.next ?_
          refine RunC.seq ?_
          refine RunC.region ?_
          iterate 3 refine RunL.val (Val.pure rfl) rfl rfl rfl ?_
          refine RunL.nil ?_
          refine RunE.next ?_
          refine RunC.cond rfl ?_ ?_
          · intro c4
            have c4' := c4; clear c4
            try simp only [decide_eq_true_eq, decide_eq_false_iff_not, Bool.not_eq_true', Bool.not_eq_false', Bool.and_eq_true, Bool.or_eq_true, Bool.and_eq_false_iff, Bool.or_eq_false_iff, Int.not_le, Int.not_lt] at c4'
            have q4 : setOf (fun e => decide (usedL (esX m).length (fsX m.pl) e < cntX m.pl)) (k + 1) = setOf (fun e => decide (usedL (esX m).length (fsX m.pl) e < cntX m.pl)) k ||| 2 ^ k := if_pos (by simpa [hall] using c4')
            refine RunC.region ?_
            refine RunL.val (Val.pure rfl) rfl rfl rfl ?_
            refine RunL.val (Val.pure rfl) rfl rfl rfl ?_
            refine RunL.val (Val.shl1 (b := k) rfl rfl (by show k ≤ 64; omega) (i64_inN (by omega))) rfl rfl rfl ?_
            refine RunL.val (Val.or (a := setOf (fun e => decide (usedL (esX m).length (fsX m.pl) e < cntX m.pl)) k) (b := 2 ^ k) rfl rfl (by show _ < 18446744073709551616; omega) (by show _ < 18446744073709551616; omega) (i64_inN (by omega))) rfl rfl rfl ?_
            refine RunL.val (Val.pure rfl) rfl rfl rfl ?_
            refine RunL.nil ?_
            refine RunE.block_normal ?_
            refine RunE.next ?_
            refine RunC.region ?_
            refine RunL.val (Val.add rfl rfl (IntWalk.i64_in _ ⟨by omega, by omega⟩)) rfl rfl rfl ?_
            refine RunL.val (Val.pure rfl) rfl rfl rfl ?_
            refine RunL.nil ?_
            exact RunE.round (by omega) trivial rfl (Sub.consE (t := 26) rfl rfl (Sub.consE (t := 2) rfl (by rw [q3]) (Sub.consE (t := 3) rfl (by rw [q4]) (Sub.cons (t := 5) rfl (Sub.cons (t := 6) rfl (Sub.cons (t := 25) rfl (Sub.nil _))))))) (.cons .here rfl (.cons .here rfl (Pick.refl _)))
          · intro c4
            have c4' := c4; clear c4
            try simp only [decide_eq_true_eq, decide_eq_false_iff_not, Bool.not_eq_true', Bool.not_eq_false', Bool.and_eq_true, Bool.or_eq_true, Bool.and_eq_false_iff, Bool.or_eq_false_iff, Int.not_le, Int.not_lt] at c4'
            have q4 : setOf (fun e => decide (usedL (esX m).length (fsX m.pl) e < cntX m.pl)) (k + 1) = setOf (fun e => decide (usedL (esX m).length (fsX m.pl) e < cntX m.pl)) k := if_neg (by simpa [hall] using c4')
            refine RunC.skip ?_
            refine RunE.block_normal ?_
            refine RunE.next ?_
            refine RunC.region ?_
            refine RunL.val (Val.add rfl rfl (IntWalk.i64_in _ ⟨by omega, by omega⟩)) rfl rfl rfl ?_
            refine RunL.val (Val.pure rfl) rfl rfl rfl ?_
            refine RunL.nil ?_
            exact RunE.round (by omega) trivial rfl (Sub.consE (t := 26) rfl rfl (Sub.consE (t := 2) rfl (by rw [q3]) (Sub.consE (t := 3) rfl (by rw [q4]) (Sub.cons (t := 5) rfl (Sub.cons (t := 6) rfl (Sub.cons (t := 25) rfl (Sub.nil _))))))) (.cons .here rfl (.cons .here rfl (Pick.refl _)))
    · intro c1
      have c1' := c1; clear c1
      try simp only [decide_eq_true_eq, decide_eq_false_iff_not, Bool.not_eq_true', Bool.not_eq_false', Bool.and_eq_true, Bool.or_eq_true, Bool.and_eq_false_iff, Bool.or_eq_false_iff, Int.not_le, Int.not_lt] at c1'
      have hkn : k = (esX m).length := by omega
      simp only [hkn]
      refine RunC.exit ?_
      refine RunE.pass_exit ?_
      refine RunE.pass_exit ?_
      refine RunE.block_here ?_
      refine RunE.next ?_
      refine RunC.seq ?_
      refine RunC.region ?_
      iterate 5 refine RunL.val (Val.pure rfl) rfl rfl rfl ?_
      refine RunL.nil ?_
      refine RunE.next ?_
      refine RunC.ret ?_
      exact RunE.retP (.r3 rfl (.tmp rfl) (.tmp rfl) (.tmp rfl)) (by first | rfl | simp)
  · have e : LostX m.pl = ((0, 0), waysE m.pl) := by unfold LostX; rw [if_neg hw]
    rw [e]
    refine calls_start Tryd.func27 rfl rfl ?_
    refine RunC.seq ?_
    refine RunC.region ?_
    refine RunL.new (New.box rfl) rfl rfl rfl (fun b1 => ?_)
    iterate 3 refine RunL.val (Val.pure rfl) rfl rfl rfl ?_
    refine RunL.nil ?_
    refine RunE.next ?_
    refine RunC.seq ?_
    refine RunC.region ?_
    refine RunL.val (Val.load_agg rfl (.head _) ty_25 rfl) rfl rfl rfl ?_
    refine RunL.callP (isCall_func rfl ent_55) rfl rfl rfl (fun w hm => ways_err m hsm w (hM.mono0 hm) hw) ?_
    iterate 5 refine RunL.val (Val.pure rfl) rfl rfl rfl ?_
    refine RunL.nil ?_
    refine RunE.next ?_
    refine RunC.seq ?_
    refine RunC.seq ?_
    refine RunC.region ?_
    refine RunL.val (Val.pure rfl) rfl rfl rfl ?_
    refine RunL.val (Val.pure rfl) rfl rfl rfl ?_
    refine RunL.nil ?_
    refine RunE.next ?_
    refine RunC.cond rfl ?_ (fun h => absurd h (by simpa using hw))
    intro c0
    clear c0
    refine RunC.seq ?_
    refine RunC.region ?_
    iterate 4 refine RunL.val (Val.pure rfl) rfl rfl rfl ?_
    refine RunL.nil ?_
    refine RunE.next ?_
    refine RunC.ret ?_
    refine RunE.pass_ret ?_
    exact RunE.retP (.r3 rfl (.tmp rfl) (.tmp rfl) (.tmp rfl)) (by first | rfl | simp)
end Go.Proofs.YtlhdalcipflblaaDoor
/- The facts on the tables of types and on the entries of functions that the walks use. Written by program. -/
set_option linter.unusedSimpArgs false
set_option linter.unusedVariables false
namespace Go.Proofs.YtlhdalcipflblaaDoor
open Go Go.Eng
theorem ap_34 : apB Tryd.prog 34 = some (3, 1, 8) := by kernel_rfl
theorem ent_57 : Enters Tryd.prog 57 := enters_of Tryd.func57 (by kernel_rfl) rfl
theorem sl_34 : slB Tryd.prog 34 = some (3, 1) := by kernel_rfl
theorem zero_64 : zeroB Tryd.prog 64 = some [.pointer none] := by kernel_rfl
end Go.Proofs.YtlhdalcipflblaaDoor
/- Walks of package heap: Sure. -/
set_option linter.unusedSimpArgs false
set_option linter.unusedVariables false
namespace Go.Hp
open Go Go.Eng Go.Pw1
def intsW (l : List Int) : List (List Value) := l.map fun x => [.int .i64 x]
theorem ints_fl (l : List Int) : (intsW l).flatten.length = l.length * 1 := flat_len (f := fun (x : Int) => [Value.int .i64 x]) (fun _ => rfl) l
theorem ints_snoc (l : List Int) (a : Int) : (intsW (l ++ [a])).flatten = (intsW l).flatten ++ [.int .i64 a] := by simp [intsW]
theorem paste_int {l : List Int} {a v : Int} {t : List Value} : paste ((intsW (l ++ [a])).flatten ++ t) l.length [.int .i64 v] = some ((intsW (l ++ [v])).flatten ++ t) := by
  have := paste_row (f := fun (x : Int) => [Value.int .i64 x]) (sz := 1) (fun _ => rfl) (a' := v) (j := 0) (vs := [.int .i64 v]) (t := t) (l := l ++ [a]) (i := l.length) (by simp) rfl
  simpa [intsW] using this
theorem own_put {sz n : Nat} {x : Eng.Own} {xs ys : List Value} (h : OwnOk sz x n xs) (hl : ys.length = xs.length) : OwnOk sz x n ys :=
  ⟨by rw [hl]; exact h.len, h.nil, fun b c r e => by
    have := h.cap b c r e
    rw [List.length_append] at this ⊢
    rw [hl]; exact this⟩
abbrev IO (l : List Int) := { x : Eng.Own // OwnOk 1 x l.length (intsW l).flatten }
end Go.Hp
namespace Go.Proofs.YtlhdalcipflblaaDoor
open Go Go.Eng Go.Hp Go.Pw1

theorem one_calls (m : MxA) (nE : Nat) (qe : Option Addr) (ce : Nat) (fs : List Nat) (qf : Option Addr) (bf cf : Nat) (c e a : Nat) (hc : c < fs.length) (he : e < nE) (bh bk b4 b6 b5 : Nat) (W : World) (hH : HpAt W bh bk m nE qe ce fs qf bf cf)
    (h4 : W.heap[b4]? = some (.cells [.pointer (some ⟨bh, 0, none⟩)].toArray 64 (0, 0))) (h6 : W.heap[b6]? = some (.cells [.int .i64 (c : Int)].toArray 3 (0, 0))) (h5 : W.heap[b5]? = some (.cells [.int .i64 (a : Int)].toArray 3 (0, 0))) :
    Calls Tryd.prog 57 #[.int .i64 (e : Int), .pointer (some ⟨b4, 0, none⟩), .pointer (some ⟨b6, 0, none⟩), .pointer (some ⟨b5, 0, none⟩)] W (Pure (.bool (decide (((shareL nE fs c e : Nat) : Int) = (a : Int)))) W) := by
  have hv := hH.v
  refine calls_start Tryd.func57 rfl rfl ?_
  refine RunC.seq ?_
  refine RunC.region ?_
  refine RunL.val (Val.pure rfl) rfl rfl rfl ?_
  refine RunL.nil ?_
  refine RunE.next ?_
  refine RunC.seq ?_
  refine RunC.draw 5 fol_ .nil ?_
  refine RunA.val (i := 0) rfl (by kernel_rfl) (by kernel_rfl) (Val.oload_one rfl h4 (by simp) ty_64 rfl) rfl rfl rfl (fun _ _ _ h => h) .nil rfl ?_
  refine RunA.val (i := 1) rfl (by kernel_rfl) (by kernel_rfl) (Val.oload_one rfl h6 (by simp) ty_3 rfl) rfl rfl rfl (fun _ _ _ h => h) .nil rfl ?_
  refine RunA.val (i := 2) rfl (by kernel_rfl) (by kernel_rfl) (Val.pure rfl) rfl rfl rfl (fun _ _ _ h => h) .nil rfl ?_
  refine RunA.val (i := 4) rfl (by kernel_rfl) (by kernel_rfl) (Val.oload_one rfl h5 (by simp) ty_3 rfl) rfl rfl rfl (fun _ _ _ h => h) .nil rfl ?_
  refine RunA.one (i := 3) (by kernel_rfl) (by kernel_rfl) ?_
  refine RunI.callP rfl (isCall_func rfl ent_54) rfl rfl rfl (fun w hm => share_calls m nE qe ce fs qf bf cf c e hc he bh bk w ⟨hm.old_at hv (by simp), hH.sl.mono (by decide) hm (by simp), hH.len, hH.le, hH.ne, hH.lt⟩) (RunK.toA .nil .nil rfl ?_)
  refine RunA.toB (by kernel_rfl) ?_
  refine RunB.one (i := 5) (by kernel_rfl) ?_
  refine RunI.val rfl (Val.pure rfl) rfl rfl rfl (RunK.toB ?_)
  refine RunB.one (i := 6) (by kernel_rfl) ?_
  refine RunI.val rfl (Val.pure rfl) rfl rfl rfl (RunK.toB ?_)
  refine RunB.done (by kernel_rfl) ?_
  refine RunE.next ?_
  refine RunC.ret ?_
  exact RunE.retP (.r1 rfl (.tmp rfl)) (by first | rfl | simp)
theorem sure_err (m : MxA) (hsm : MSm m) (W : World) (hM : MOk W m) (hw : waysE m.pl ≠ 0) : Calls Tryd.prog 25 #[m.v] W (Pure (.tuple #[.slice none 0 0, .int .i64 (waysE m.pl)]) W) := by
  refine calls_start Tryd.func25 rfl rfl ?_
  refine RunC.seq ?_
  refine RunC.region ?_
  refine RunL.new (New.box rfl) rfl rfl rfl (fun b1 => ?_)
  refine RunL.val (Val.pure rfl) rfl rfl rfl ?_
  refine RunL.val (Val.pure rfl) rfl rfl rfl ?_
  refine RunL.nil ?_
  refine RunE.next ?_
  refine RunC.seq ?_
  refine RunC.region ?_
  refine RunL.val (Val.load_agg rfl (.head _) ty_25 rfl) rfl rfl rfl ?_
  refine RunL.callP (isCall_func rfl ent_55) rfl rfl rfl (fun w hm => ways_err m hsm w (hM.mono0 hm) hw) ?_
  iterate 3 refine RunL.val (Val.pure rfl) rfl rfl rfl ?_
  refine RunL.new (New.alloc zero_64) rfl rfl rfl (fun b4 => ?_)
  refine RunL.sto (Sto.store rfl rfl .here ty_64 rfl rfl) rfl rfl ?_
  refine RunL.val (Val.pure rfl) rfl rfl rfl ?_
  refine RunL.nil ?_
  refine RunE.next ?_
  refine RunC.seq ?_
  refine RunC.seq ?_
  refine RunC.region ?_
  refine RunL.val (Val.pure rfl) rfl rfl rfl ?_
  refine RunL.val (Val.pure rfl) rfl rfl rfl ?_
  refine RunL.nil ?_
  refine RunE.next ?_
  refine RunC.cond rfl ?_ (fun h => absurd h (by simpa using hw))
  intro c0
  clear c0
  refine RunC.seq ?_
  refine RunC.region ?_
  iterate 3 refine RunL.val (Val.pure rfl) rfl rfl rfl ?_
  refine RunL.nil ?_
  refine RunE.next ?_
  refine RunC.ret ?_
  refine RunE.pass_ret ?_
  exact RunE.retP (.r2 rfl (.tmp rfl) (.tmp rfl)) (by first | rfl | simp)
theorem sure_calls (m : MxA) (hsm : MSm m) (W : World) (hM : MOk W m) (hw : waysE m.pl = 0) : Calls Tryd.prog 25 #[m.v] W
    (News (fun z : IO (SureX m.pl).1 => .tuple #[ownV z.1 (SureX m.pl).1.length, .int .i64 0]) (fun z => ownB 3 z.1 (intsW (SureX m.pl).1).flatten ++ []) W) := by
  obtain ⟨hX, h0⟩ := ways_ok hw
  obtain ⟨h4, h8, h12⟩ := mixed_ok hX
  have hfl := fs_len m
  have e : (SureX m.pl).1 = (List.range m.cards.length).map (sureC m.pl) := by unfold SureX; rw [if_pos hw]; rfl
  have hall : cntL (esX m).length (fsX m.pl) 0 = cntX m.pl := rfl
  rw [e]
  refine calls_start Tryd.func25 rfl rfl ?_
  refine RunC.seq ?_
  refine RunC.region ?_
  refine RunL.new (New.box rfl) rfl rfl rfl (fun b1 => ?_)
  refine RunL.val (Val.pure rfl) rfl rfl rfl ?_
  refine RunL.val (Val.pure rfl) rfl rfl rfl ?_
  refine RunL.nil ?_
  refine RunE.next ?_
  refine RunC.seq ?_
  refine RunC.region ?_
  refine RunL.val (Val.load_agg rfl (.head _) ty_25 rfl) rfl rfl rfl ?_
  refine RunL.callNT (isCall_func rfl ent_55) rfl rfl rfl (fun w hm => ways_calls m hsm w (hM.mono0 hm) hw) (fun z11 => ?_)
  obtain ⟨⟨⟨bh11, bm11, x11, y11⟩, l11⟩, hx11, hy11, hg11⟩ := z11
  dsimp only
  iterate 3 refine RunL.val (Val.pure rfl) rfl rfl rfl ?_
  refine RunL.new (New.alloc zero_64) rfl rfl rfl (fun b4 => ?_)
  refine RunL.sto (Sto.store rfl rfl .here ty_64 rfl rfl) rfl rfl ?_
  refine RunL.val (Val.pure rfl) rfl rfl rfl ?_
  refine RunL.nil ?_
  refine RunE.next ?_
  refine RunC.seq ?_
  refine RunC.seq ?_
  refine RunC.region ?_
  refine RunL.val (Val.pure rfl) rfl rfl rfl ?_
  refine RunL.val (Val.pure rfl) rfl rfl rfl ?_
  refine RunL.nil ?_
  refine RunE.next ?_
  refine RunC.cond rfl (fun h => absurd h (by simp)) ?_
  intro c0
  clear c0
  refine RunC.skip ?_
  refine RunE.next ?_
  refine RunC.seq ?_
  refine RunC.region ?_
  refine RunL.val (Val.load_one rfl (.head _) ty_64 rfl) rfl rfl rfl ?_
  refine RunL.callN (isCall_func rfl ent_51) rfl rfl rfl (fun w hm => count0_calls bh11 w) (fun b18 => ?_)
  refine RunL.callZ (isCall_value rfl rfl ent_68) rfl rfl rfl (fun _ => (.there (.there (.there (.there (.there .here)))))) (fun w hm => on_calls (fsX m.pl).length 0 m (esX m).length _ _ (fsX m.pl) _ _ _ (by omega) 0 (by decide) l11 hg11 bh11 bm11 b18.1 b18.2 w (hp_at hX (hm.at (.tail _ (.tail _ (.tail _ (.tail _ (.head _)))))) hy11 (fun b o h => hm.at (.tail _ (.tail _ (.tail _ (.tail _ (.tail _ (.tail _ ((by first | exact List.mem_append_left _ h | exact List.mem_append_right _ (List.mem_append_left _ h))))))))))) (hm.at (.tail _ (.tail _ (.tail _ (.tail _ (.tail _ (.head _))))))) (hm.at (.tail _ (.head _))) (hm.at (.head _))) (fun x19 hx19 => ?_)
  refine RunL.new (New.alloc zero_3) rfl rfl rfl (fun b5 => ?_)
  refine RunL.sto (Sto.store rfl rfl .here ty_3 rfl rfl) rfl rfl ?_
  refine RunL.nil ?_
  refine RunE.next ?_
  refine RunC.seq ?_
  refine RunC.seq ?_
  refine RunC.region ?_
  refine RunL.val (Val.load_one rfl (.tail _ (.tail _ (.tail _ (.head _)))) ty_64 rfl) rfl rfl rfl ?_
  refine RunL.val (Val.pure rfl) rfl rfl rfl ?_
  refine RunL.val (Val.fieldAddr rfl fld_73_0) rfl rfl rfl ?_
  refine RunL.val (Val.fieldAddr rfl fld_25_1) rfl rfl rfl ?_
  refine RunL.val (Val.load_one rfl (.tail _ (.tail _ (.tail _ (.tail _ (.tail _ (.head _)))))) ty_23 rfl) rfl rfl rfl ?_
  refine RunL.val (Val.len_sl rfl sl_23) rfl rfl rfl ?_
  refine RunL.val (Val.pure rfl) rfl rfl rfl ?_
  refine RunL.nil ?_
  refine RunE.next ?_
  refine RunC.block ?_
  refine RunC.loopX (X := Eng.Own) (n0 := [(b4, _), (b5, _), (bh11, _), (bm11, _)]) (m.cards.length) (fun k x q => (26, .int .i64 (k : Int)) :: (2, ownV x k) :: q) (fun _ _ => _) (fun k x => []) (fun k x => ownB 3 x (intsW ((List.range k).map (sureC m.pl))).flatten ++ (ownB 68 y11 (setsV (fsX m.pl)).flatten ++ (ownB 95 x11 ((esX m).map En.cells).flatten ++ []))) (fun k x => OwnOk 1 x k (intsW ((List.range k).map (sureC m.pl))).flatten) none OwnOk.start rfl (Sub.consE (t := 26) rfl rfl (Sub.consE (t := 2) rfl rfl (Sub.cons (t := 4) rfl (Sub.cons (t := 5) rfl (Sub.cons (t := 25) rfl (Sub.nil _)))))) (.cons (.there (.there (.there .here))) rfl (.cons .here rfl (.cons (.there (.there (.there .here))) rfl (.cons (.there (.there (.there .here))) rfl (Pick.skip (Pick.skip (Pick.skip (Pick.same rfl)))))))) ?_
  intro k x kN kI
  have hx1 := kI
  refine RunC.seq ?_
  refine RunC.region ?_
  refine RunL.val (Val.pure rfl) rfl rfl rfl ?_
  refine RunL.nil ?_
  refine RunE.next ?_
  refine RunC.seq ?_
  refine RunC.cond rfl ?_ ?_
  · intro c1
    have c1' := c1; clear c1
    try simp only [decide_eq_true_eq, decide_eq_false_iff_not, Bool.not_eq_true', Bool.not_eq_false', Bool.and_eq_true, Bool.or_eq_true, Bool.and_eq_false_iff, Bool.or_eq_false_iff, Int.not_le, Int.not_lt] at c1'
    have hk : k < m.cards.length := by omega
    refine RunC.skip ?_
    refine RunE.next ?_
    refine RunC.seq ?_
    refine RunC.block ?_
    refine RunC.seq ?_
    refine RunC.region ?_
    refine RunL.val (Val.pure rfl) rfl rfl rfl ?_
    refine RunL.new (New.alloc zero_3) rfl rfl rfl (fun b6 => ?_)
    refine RunL.sto (Sto.store rfl rfl .here ty_3 rfl rfl) rfl rfl ?_
    refine RunL.nil ?_
    refine RunE.next ?_
    refine RunC.seq ?_
    refine RunC.region ?_
    refine RunL.val (Val.pure rfl) rfl rfl rfl ?_
    refine RunL.val (Val.pure rfl) rfl rfl rfl ?_
    refine RunL.nil ?_
    refine RunE.next ?_
    refine RunC.seq ?_
    refine RunC.region ?_
    refine RunL.val (Val.pure rfl) rfl rfl rfl ?_
    refine RunL.new (New.buildSlice (parts := [(0, .const (.int .i64 (-1)))]) rfl sl_34 zero_3 rfl rfl rfl rfl) rfl rfl rfl (fun b31 => ?_)
    refine RunL.append (A := [(b31, _), (b6, _), (b4, _), (b5, _), (bh11, _), (bm11, _)]) (B := _) (x := x) (ys := [.int .i64 (-1)]) ap_34 rfl rfl rfl hx1 rfl (fun h => by cases h) (fun w hm => src_blk (hm.at (.head _))) (one_of rfl) (by simp only [maxLen]; omega) (by omega) rfl (fun z32 hz32 => ?_)
    refine RunL.val (Val.pure rfl) rfl rfl rfl ?_
    refine RunL.nil ?_
    refine RunE.next ?_
    refine RunC.seq ?_
    refine RunC.region ?_
    refine RunL.val (Val.load_one rfl (.tail _ (.tail _ (.head _))) ty_64 rfl) rfl rfl rfl ?_
    refine RunL.val (Val.pure rfl) rfl rfl rfl ?_
    refine RunL.val (Val.fieldAddr rfl fld_73_1) rfl rfl rfl ?_
    refine RunL.val (Val.load_one rfl (.tail _ (.tail _ (.tail _ (.tail _ (.head _))))) ty_69 rfl) rfl rfl rfl ?_
    refine RunL.val (Val.len_sl rfl sl_69) rfl rfl rfl ?_
    refine RunL.val (Val.pure rfl) rfl rfl rfl ?_
    refine RunL.nil ?_
    refine RunE.next ?_
    refine RunC.block ?_
    refine RunC.loopX (X := Eng.Own) (n0 := [(b4, _), (b5, _), (b6, _), (bh11, _), (bm11, _)]) ((esX m).length) (fun j y q => (38, .int .i64 (j : Int)) :: (2, ownV y (k + 1)) :: q) (fun _ _ => _) (fun j y => []) (fun j y => ownB 3 y (intsW ((List.range k).map (sureC m.pl) ++ [lastP (sureP m.pl k) j])).flatten ++ (ownB 68 y11 (setsV (fsX m.pl)).flatten ++ (ownB 95 x11 ((esX m).map En.cells).flatten ++ []))) (fun j y => OwnOk 1 y (k + 1) (intsW ((List.range k).map (sureC m.pl) ++ [lastP (sureP m.pl k) j])).flatten) z32 (by rw [ints_snoc]; exact hz32) rfl (Sub.consE (t := 38) rfl rfl (Sub.consE (t := 2) rfl rfl (Sub.cons (t := 4) rfl (Sub.cons (t := 5) rfl (Sub.cons (t := 25) rfl (Sub.cons (t := 26) rfl (Sub.cons (t := 6) rfl (Sub.cons (t := 7) rfl (Sub.cons (t := 37) rfl (Sub.nil _)))))))))) (.cons (.there (.there .here)) rfl (.cons (.there (.there .here)) rfl (.cons (.there .here) rfl (.cons (.there .here) rfl (.cons (.there .here) rfl (Pick.skip (Pick.same (by rw [ints_snoc]; rfl)))))))) ?_
    intro j y jN jI
    have hx1 := jI
    refine RunC.seq ?_
    refine RunC.region ?_
    refine RunL.val (Val.pure rfl) rfl rfl rfl ?_
    refine RunL.nil ?_
    refine RunE.next ?_
    refine RunC.seq ?_
    refine RunC.cond rfl ?_ ?_
    · intro c2
      have c2' := c2; clear c2
      try simp only [decide_eq_true_eq, decide_eq_false_iff_not, Bool.not_eq_true', Bool.not_eq_false', Bool.and_eq_true, Bool.or_eq_true, Bool.and_eq_false_iff, Bool.or_eq_false_iff, Int.not_le, Int.not_lt] at c2'
      have hj : j < (esX m).length := by omega
      refine RunC.skip ?_
      refine RunE.next ?_
      refine RunC.seq ?_
      refine RunC.block ?_
      refine RunC.seq ?_
      refine RunC.region ?_
      refine RunL.val (Val.pure rfl) rfl rfl rfl ?_
      refine RunL.val (Val.pure rfl) rfl rfl rfl ?_
      refine RunL.nil ?_
      refine RunE.next ?_
      refine RunC.seq ?_
      refine RunC.region ?_
      refine RunL.val (Val.pure rfl) rfl rfl rfl ?_
      refine RunL.val (Val.pure rfl) rfl rfl rfl ?_
      refine RunL.callP (isCall_value rfl rfl ent_57) rfl rfl rfl (fun w hm => one_calls m (esX m).length _ _ (fsX m.pl) _ _ _ k j (cntX m.pl) (by omega) hj bh11 bm11 b4 b6 b5 w (hp_at hX (hm.at (.tail _ (.tail _ (.tail _ (.head _))))) hy11 (fun b o h => hm.at (.tail _ (.tail _ (.tail _ (.tail _ (.tail _ ((by first | exact List.mem_append_right _ (List.mem_append_left _ h) | exact List.mem_append_right _ (List.mem_append_right _ (List.mem_append_left _ h))))))))))) (hm.at (.head _)) (hm.at (.tail _ (.tail _ (.head _)))) (hm.at (.tail _ (.head _)))) ?_
      refine RunL.nil ?_
      refine RunE.next ?_
      refine RunC.cond rfl ?_ ?_
      · intro c3
        have c3' := c3; clear c3
        try simp only [decide_eq_true_eq, decide_eq_false_iff_not, Bool.not_eq_true', Bool.not_eq_false', Bool.and_eq_true, Bool.or_eq_true, Bool.and_eq_false_iff, Bool.or_eq_false_iff, Int.not_le, Int.not_lt] at c3'
        have q3 : lastP (sureP m.pl k) (j + 1) = (j : Int) := if_pos (decide_eq_true (Int.ofNat_inj.1 (by (show ((shareL (esX m).length (fsX m.pl) k j : Nat) : Int) = ((cntX m.pl : Nat) : Int); simpa using c3'))))
        have hv2 := hx1
        refine RunC.region ?_
        refine RunL.val (Val.pure rfl) rfl rfl rfl ?_
        refine RunL.val (Val.load_one rfl (.tail _ (.tail _ (.head _))) ty_3 rfl) rfl rfl rfl ?_
        refine RunL.val (Val.pure rfl) rfl rfl rfl ?_
        obtain ⟨bx1, cx1, rx1, rfl, lx11, lx12, lx13⟩ := hx1.has (by omega)
        refine RunL.val (Val.indexAddr_sl rfl rfl sl_34 (by omega) (by omega)) rfl rfl rfl ?_
        refine RunL.sto (Sto.store (cs := (intsW ((List.range k).map (sureC m.pl) ++ [lastP (sureP m.pl k) j])).flatten ++ rx1) (cs' := (intsW ((List.range k).map (sureC m.pl) ++ [(j : Int)])).flatten ++ rx1) rfl rfl (.there (.there (.there (.there (.there .here))))) ty_3 rfl (by have h9 := paste_int (l := (List.range k).map (sureC m.pl)) (a := lastP (sureP m.pl k) j) (v := (j : Int)) (t := rx1); rw [List.length_map, List.length_range] at h9; rw [Nat.zero_add, Int.toNat_natCast, Nat.mul_one]; exact h9)) rfl rfl ?_
        refine RunL.nil ?_
        refine RunE.block_normal ?_
        refine RunE.next ?_
        refine RunC.region ?_
        refine RunL.val (Val.add rfl rfl (IntWalk.i64_in _ ⟨by omega, by omega⟩)) rfl rfl rfl ?_
        refine RunL.val (Val.pure rfl) rfl rfl rfl ?_
        refine RunL.nil ?_
        exact RunE.roundX (some (bx1, cx1, rx1)) (by omega) (by rw [q3]; exact own_put hv2 (by simp [intsW])) rfl (Sub.consE (t := 38) rfl rfl (Sub.consE (t := 2) rfl rfl (Sub.cons (t := 4) rfl (Sub.cons (t := 5) rfl (Sub.cons (t := 25) rfl (Sub.cons (t := 26) rfl (Sub.cons (t := 6) rfl (Sub.cons (t := 7) rfl (Sub.cons (t := 37) rfl (Sub.nil _)))))))))) (.cons .here rfl (.cons .here rfl (.cons .here rfl (.cons .here rfl (.cons .here rfl (.cons .here (by rw [q3]) (Pick.refl _)))))))
      · intro c3
        have c3' := c3; clear c3
        try simp only [decide_eq_true_eq, decide_eq_false_iff_not, Bool.not_eq_true', Bool.not_eq_false', Bool.and_eq_true, Bool.or_eq_true, Bool.and_eq_false_iff, Bool.or_eq_false_iff, Int.not_le, Int.not_lt] at c3'
        have q3 : lastP (sureP m.pl k) (j + 1) = lastP (sureP m.pl k) j := if_neg (fun h9 => absurd (congrArg (fun (n : Nat) => (n : Int)) (of_decide_eq_true h9)) (by (show ¬ ((shareL (esX m).length (fsX m.pl) k j : Nat) : Int) = ((cntX m.pl : Nat) : Int); simpa using c3')))
        have hv2 := hx1
        refine RunC.skip ?_
        refine RunE.block_normal ?_
        refine RunE.next ?_
        refine RunC.region ?_
        refine RunL.val (Val.add rfl rfl (IntWalk.i64_in _ ⟨by omega, by omega⟩)) rfl rfl rfl ?_
        refine RunL.val (Val.pure rfl) rfl rfl rfl ?_
        refine RunL.nil ?_
        exact RunE.roundX y (by omega) (by rw [q3]; exact hv2) rfl (Sub.consE (t := 38) rfl rfl (Sub.consE (t := 2) rfl rfl (Sub.cons (t := 4) rfl (Sub.cons (t := 5) rfl (Sub.cons (t := 25) rfl (Sub.cons (t := 26) rfl (Sub.cons (t := 6) rfl (Sub.cons (t := 7) rfl (Sub.cons (t := 37) rfl (Sub.nil _)))))))))) (.cons .here rfl (.cons .here rfl (.cons .here rfl (.cons .here rfl (.cons .here rfl (Pick.same (by rw [q3])))))))
    · intro c2
      have c2' := c2; clear c2
      try simp only [decide_eq_true_eq, decide_eq_false_iff_not, Bool.not_eq_true', Bool.not_eq_false', Bool.and_eq_true, Bool.or_eq_true, Bool.and_eq_false_iff, Bool.or_eq_false_iff, Int.not_le, Int.not_lt] at c2'
      have hjn : j = (esX m).length := by omega
      have hS2 : (List.range (k + 1)).map (sureC m.pl) = (List.range k).map (sureC m.pl) ++ [lastP (sureP m.pl k) j] := by (rw [List.range_succ, List.map_append, hjn]; rfl)
      refine RunC.exit ?_
      refine RunE.pass_exit ?_
      refine RunE.pass_exit ?_
      refine RunE.block_here ?_
      refine RunE.block_normal ?_
      refine RunE.next ?_
      refine RunC.region ?_
      refine RunL.val (Val.add rfl rfl (IntWalk.i64_in _ ⟨by omega, by omega⟩)) rfl rfl rfl ?_
      refine RunL.val (Val.pure rfl) rfl rfl rfl ?_
      refine RunL.nil ?_
      exact RunE.roundX y (by omega) (by rw [hS2]; exact hx1) rfl (Sub.consE (t := 26) rfl rfl (Sub.consE (t := 2) rfl rfl (Sub.cons (t := 4) rfl (Sub.cons (t := 5) rfl (Sub.cons (t := 25) rfl (Sub.nil _)))))) (.cons .here rfl (.cons .here rfl (.cons (.there .here) rfl (.cons (.there .here) rfl (Pick.skip (Pick.same (by rw [hS2])))))))
  · intro c1
    have c1' := c1; clear c1
    try simp only [decide_eq_true_eq, decide_eq_false_iff_not, Bool.not_eq_true', Bool.not_eq_false', Bool.and_eq_true, Bool.or_eq_true, Bool.and_eq_false_iff, Bool.or_eq_false_iff, Int.not_le, Int.not_lt] at c1'
    have hkn : k = m.cards.length := by omega
    subst hkn
    refine RunC.exit ?_
    refine RunE.pass_exit ?_
    refine RunE.pass_exit ?_
    refine RunE.block_here ?_
    refine RunE.next ?_
    refine RunC.seq ?_
    refine RunC.region ?_
    iterate 3 refine RunL.val (Val.pure rfl) rfl rfl rfl ?_
    refine RunL.nil ?_
    refine RunE.next ?_
    refine RunC.ret ?_
    exact RunE.ret (chg := []) (.r2 rfl (.tmp rfl) (.tmp rfl)) (fun _ hm => ⟨⟨x, by simpa using hx1⟩, by simp, hm.pick (Pick.skip (Pick.skip (Pick.skip (Pick.skip (Pick.app .nil _)))))⟩)
end Go.Proofs.YtlhdalcipflblaaDoor
/- The facts on the tables of types and on the entries of functions that the walks use. Written by program. -/
set_option linter.unusedSimpArgs false
set_option linter.unusedVariables false
namespace Go.Proofs.YtlhdalcipflblaaDoor
open Go Go.Eng

end Go.Proofs.YtlhdalcipflblaaDoor
/- Walks of package heap: First. -/
set_option linter.unusedSimpArgs false
set_option linter.unusedVariables false
namespace Go.Hp
open Go Go.Eng Go.Pw1
def natI (l : List Nat) : List Int := l.map fun (x : Nat) => (x : Int)
theorem nat_snoc (l : List Nat) (j : Nat) : (intsW (natI (l ++ [j]))).flatten = (intsW (natI l)).flatten ++ [.int .i64 (j : Int)] := by
  unfold natI
  rw [List.map_append]
  exact ints_snoc _ _
def canP (ne f : Nat) (fs : List Nat) (u i : Nat) : Bool := free f u i && decide (0 < cntL ne fs (u ||| 2 ^ i))
theorem first_some {ne f u j : Nat} {fs : List Nat} (h : ∀ i, i < j → canP ne f fs u i = false) (hj : canP ne f fs u j = true) (hn : j < ne) : firstL ne (f :: fs) u = j :: firstL ne fs (u ||| 2 ^ j) := by
  have e : (List.range ne).find? (fun i => free f u i && decide (0 < cntL ne fs (u ||| 2 ^ i))) = some j := by
    rw [List.find?_range_eq_some]
    exact ⟨hj, List.mem_range.2 hn, fun i hi => by have := h i hi; unfold canP at this; rw [this]; rfl⟩
  show (match (List.range ne).find? (fun i => free f u i && decide (0 < cntL ne fs (u ||| 2 ^ i))) with | some i => i :: firstL ne fs (u ||| 2 ^ i) | none => firstL ne fs u) = _
  rw [e]
theorem first_none {ne f u : Nat} {fs : List Nat} (h : ∀ i, i < ne → canP ne f fs u i = false) : firstL ne (f :: fs) u = firstL ne fs u := by
  have e : (List.range ne).find? (fun i => free f u i && decide (0 < cntL ne fs (u ||| 2 ^ i))) = none := by
    rw [List.find?_range_eq_none]
    exact fun i hi => by have := h i hi; unfold canP at this; rw [this]; rfl
  show (match (List.range ne).find? (fun i => free f u i && decide (0 < cntL ne fs (u ||| 2 ^ i))) with | some i => i :: firstL ne fs (u ||| 2 ^ i) | none => firstL ne fs u) = _
  rw [e]
theorem step_none {p : Nat → Bool} {j : Nat} (h : ∀ i, i < j → p i = false) (hj : p j = false) : ∀ i, i < j + 1 → p i = false := fun i hi => by
  by_cases e : i = j
  · rw [e]; exact hj
  · exact h i (by omega)
end Go.Hp
namespace Go.Proofs.YtlhdalcipflblaaDoor
open Go Go.Eng Go.Hp Go.Pw1

theorem first_err (m : MxA) (hsm : MSm m) (W : World) (hM : MOk W m) (hw : waysE m.pl ≠ 0) : Calls Tryd.prog 23 #[m.v] W (Pure (.tuple #[.slice none 0 0, .int .i64 (waysE m.pl)]) W) := by
  refine calls_start Tryd.func23 rfl rfl ?_
  refine RunC.seq ?_
  refine RunC.region ?_
  refine RunL.new (New.box rfl) rfl rfl rfl (fun b1 => ?_)
  refine RunL.val (Val.pure rfl) rfl rfl rfl ?_
  refine RunL.val (Val.pure rfl) rfl rfl rfl ?_
  refine RunL.nil ?_
  refine RunE.next ?_
  refine RunC.scope ?_
  refine RunC.seq ?_
  refine RunC.region ?_
  refine RunL.val (Val.load_agg rfl (.head _) ty_25 rfl) rfl rfl rfl ?_
  refine RunL.callP (isCall_func rfl ent_55) rfl rfl rfl (fun w hm => ways_err m hsm w (hM.mono0 hm) hw) ?_
  iterate 5 refine RunL.val (Val.pure rfl) rfl rfl rfl ?_
  refine RunL.nil ?_
  refine RunE.next ?_
  refine RunC.seq ?_
  refine RunC.seq ?_
  refine RunC.region ?_
  refine RunL.val (Val.pure rfl) rfl rfl rfl ?_
  refine RunL.val (Val.pure rfl) rfl rfl rfl ?_
  refine RunL.nil ?_
  refine RunE.next ?_
  refine RunC.cond rfl ?_ (fun h => absurd h (by simpa using hw))
  intro c0
  clear c0
  refine RunC.seq ?_
  refine RunC.region ?_
  iterate 3 refine RunL.val (Val.pure rfl) rfl rfl rfl ?_
  refine RunL.nil ?_
  refine RunE.next ?_
  refine RunC.ret ?_
  refine RunE.pass_ret ?_
  refine RunE.scope_ret ?_
  exact RunE.retP (.r2 rfl (.tmp rfl) (.tmp rfl)) (by first | rfl | simp)
theorem first_calls (m : MxA) (hsm : MSm m) (W : World) (hM : MOk W m) (hw : waysE m.pl = 0) : Calls Tryd.prog 23 #[m.v] W
    (News (fun z : IO (FirstX m.pl).1 => .tuple #[ownV z.1 (FirstX m.pl).1.length, .int .i64 0]) (fun z => ownB 3 z.1 (intsW (FirstX m.pl).1).flatten ++ []) W) := by
  obtain ⟨hX, h0⟩ := ways_ok hw
  obtain ⟨h4, h8, h12⟩ := mixed_ok hX
  have hfl := fs_len m
  have e : (FirstX m.pl).1 = natI (firstL (esX m).length (fsX m.pl) 0) := by unfold FirstX; rw [if_pos hw]; rfl
  rw [e]
  refine calls_start Tryd.func23 rfl rfl ?_
  refine RunC.seq ?_
  refine RunC.region ?_
  refine RunL.new (New.box rfl) rfl rfl rfl (fun b1 => ?_)
  refine RunL.val (Val.pure rfl) rfl rfl rfl ?_
  refine RunL.val (Val.pure rfl) rfl rfl rfl ?_
  refine RunL.nil ?_
  refine RunE.next ?_
  refine RunC.scope ?_
  refine RunC.seq ?_
  refine RunC.region ?_
  refine RunL.val (Val.load_agg rfl (.head _) ty_25 rfl) rfl rfl rfl ?_
  refine RunL.callNT (isCall_func rfl ent_55) rfl rfl rfl (fun w hm => ways_calls m hsm w (hM.mono0 hm) hw) (fun z11 => ?_)
  obtain ⟨⟨⟨bh11, bm11, x11, y11⟩, l11⟩, hx11, hy11, hg11⟩ := z11
  dsimp only at hg11 ⊢
  iterate 5 refine RunL.val (Val.pure rfl) rfl rfl rfl ?_
  refine RunL.nil ?_
  refine RunE.next ?_
  refine RunC.seq ?_
  refine RunC.seq ?_
  refine RunC.region ?_
  refine RunL.val (Val.pure rfl) rfl rfl rfl ?_
  refine RunL.val (Val.pure rfl) rfl rfl rfl ?_
  refine RunL.nil ?_
  refine RunE.next ?_
  refine RunC.cond rfl (fun h => absurd h (by simp)) ?_
  intro c0
  clear c0
  refine RunC.skip ?_
  refine RunE.next ?_
  refine RunC.seq ?_
  refine RunC.region ?_
  refine RunL.val (Val.pure rfl) rfl rfl rfl ?_
  refine RunL.callN (isCall_func rfl ent_51) rfl rfl rfl (fun w hm => count0_calls bh11 w) (fun b18 => ?_)
  refine RunL.val (Val.pure rfl) rfl rfl rfl ?_
  refine RunL.nil ?_
  refine RunE.next ?_
  refine RunC.seq ?_
  refine RunC.region ?_
  refine RunL.val (Val.pure rfl) rfl rfl rfl ?_
  refine RunL.nil ?_
  refine RunE.next ?_
  refine RunC.seq ?_
  refine RunC.label ?_
  refine RunE.next ?_
  refine RunC.seq ?_
  refine RunC.seq ?_
  refine RunC.region ?_
  refine RunL.val (Val.pure rfl) rfl rfl rfl ?_
  refine RunL.val (Val.pure rfl) rfl rfl rfl ?_
  refine RunL.val (Val.fieldAddr rfl fld_73_0) rfl rfl rfl ?_
  refine RunL.val (Val.fieldAddr rfl fld_25_1) rfl rfl rfl ?_
  refine RunL.val (Val.load_one rfl (.tail _ (.tail _ (.tail _ (.head _)))) ty_23 rfl) rfl rfl rfl ?_
  refine RunL.val (Val.len_sl rfl sl_23) rfl rfl rfl ?_
  refine RunL.val (Val.pure rfl) rfl rfl rfl ?_
  refine RunL.nil ?_
  refine RunE.next ?_
  refine RunC.block ?_
  refine RunC.loopX (X := Eng.Own × Nat × List Nat × List ((Nat × Nat) × Value)) (n0 := [(b18.2, _), (b18.1, _), (bh11, _)]) (m.cards.length) (fun k x q => (25, .int .i64 (k : Int)) :: (2, ownV x.1 x.2.2.1.length) :: (6, .int .u64 ((x.2.1 : Nat) : Int)) :: q) (fun _ _ => _) (fun k x => [(bm11, mapG x.2.2.2)]) (fun k x => ownB 3 x.1 (intsW (natI x.2.2.1)).flatten ++ (ownB 68 y11 (setsV (fsX m.pl)).flatten ++ (ownB 95 x11 ((esX m).map En.cells).flatten ++ []))) (fun k x => OwnOk 1 x.1 x.2.2.1.length (intsW (natI x.2.2.1)).flatten ∧ x.2.1 < 2 ^ 12 ∧ GoodM (esX m).length (fsX m.pl) x.2.2.2 ∧ firstL (esX m).length (fsX m.pl) 0 = x.2.2.1 ++ firstL (esX m).length ((fsX m.pl).drop k) x.2.1 ∧ x.2.2.1.length ≤ k) (none, 0, [], l11) ⟨OwnOk.start, (by show (0 : Nat) < 2 ^ 12; decide), hg11, rfl, Nat.le_refl _⟩ rfl (Sub.consE (t := 25) rfl rfl (Sub.consE (t := 2) rfl rfl (Sub.consE (t := 6) rfl rfl (Sub.cons (t := 4) rfl (Sub.cons (t := 5) rfl (Sub.cons (t := 24) rfl (Sub.nil _))))))) (.cons (.there (.there (.there (.there .here)))) rfl (.cons .here rfl (.cons .here rfl (.cons (.there .here) rfl (Pick.skip (Pick.same rfl)))))) ?_
  intro k x kN kI
  obtain ⟨X1, u, l, lm⟩ := x
  obtain ⟨hx1, hu, hgm, hfe, hll⟩ := kI
  dsimp only at hx1 hu hgm hfe hll ⊢
  refine RunC.seq ?_
  refine RunC.region ?_
  refine RunL.val (Val.pure rfl) rfl rfl rfl ?_
  refine RunL.nil ?_
  refine RunE.next ?_
  refine RunC.seq ?_
  refine RunC.cond rfl ?_ ?_
  · intro c1
    have c1' := c1; clear c1
    try simp only [decide_eq_true_eq, decide_eq_false_iff_not, Bool.not_eq_true', Bool.not_eq_false', Bool.and_eq_true, Bool.or_eq_true, Bool.and_eq_false_iff, Bool.or_eq_false_iff, Int.not_le, Int.not_lt] at c1'
    have hk : k < m.cards.length := by omega
    have hk2 : k < (fsX m.pl).length := by omega
    obtain ⟨f, hf⟩ : ∃ f, (fsX m.pl)[k] = f := ⟨_, rfl⟩
    have hdr : (fsX m.pl).drop k = f :: (fsX m.pl).drop (k + 1) := by rw [drop_at hk2, hf]
    have hfl2 := fs_lt m f (hf ▸ List.getElem_mem hk2)
    have hfl3 : 2 ^ (esX m).length ≤ 2 ^ 12 := Nat.pow_le_pow_right (by decide) h12
    have hal := andN_le f u
    refine RunC.skip ?_
    refine RunE.next ?_
    refine RunC.seq ?_
    refine RunC.block ?_
    refine RunC.seq ?_
    refine RunC.region ?_
    refine RunL.val (Val.pure rfl) rfl rfl rfl ?_
    refine RunL.val (Val.pure rfl) rfl rfl rfl ?_
    refine RunL.nil ?_
    refine RunE.next ?_
    refine RunC.seq ?_
    refine RunC.region ?_
    refine RunL.val (Val.pure rfl) rfl rfl rfl ?_
    refine RunL.val (Val.pure rfl) rfl rfl rfl ?_
    refine RunL.val (Val.fieldAddr rfl fld_73_1) rfl rfl rfl ?_
    refine RunL.val (Val.load_one rfl (.tail _ (.tail _ (.tail _ (.head _)))) ty_69 rfl) rfl rfl rfl ?_
    refine RunL.val (Val.len_sl rfl sl_69) rfl rfl rfl ?_
    refine RunL.val (Val.pure rfl) rfl rfl rfl ?_
    refine RunL.nil ?_
    refine RunE.next ?_
    refine RunC.block ?_
    refine RunC.loopX (X := List ((Nat × Nat) × Value)) (n0 := [(b18.2, _), (b18.1, _), (bh11, _)]) ((esX m).length) (fun j y q => (33, .int .i64 (j : Int)) :: q) (fun _ _ => _) (fun j y => [(bm11, mapG y)]) (fun j y => ownB 3 X1 (intsW (natI l)).flatten ++ (ownB 68 y11 (setsV (fsX m.pl)).flatten ++ (ownB 95 x11 ((esX m).map En.cells).flatten ++ []))) (fun j y => GoodM (esX m).length (fsX m.pl) y ∧ ∀ i, i < j → canP (esX m).length f ((fsX m.pl).drop (k + 1)) u i = false) lm ⟨hgm, fun i hi => absurd hi (Nat.not_lt_zero i)⟩ rfl (Sub.consE (t := 33) rfl rfl (Sub.cons (t := 4) rfl (Sub.cons (t := 5) rfl (Sub.cons (t := 24) rfl (Sub.cons (t := 25) rfl (Sub.cons (t := 2) rfl (Sub.cons (t := 6) rfl (Sub.cons (t := 7) rfl (Sub.cons (t := 32) rfl (Sub.nil _)))))))))) (.cons .here rfl (.cons .here rfl (.cons .here rfl (.cons .here rfl (Pick.same rfl))))) ?_
    intro j y jN jI
    refine RunC.seq ?_
    refine RunC.region ?_
    refine RunL.val (Val.pure rfl) rfl rfl rfl ?_
    refine RunL.nil ?_
    refine RunE.next ?_
    refine RunC.seq ?_
    refine RunC.cond rfl ?_ ?_
    · intro c2
      have c2' := c2; clear c2
      try simp only [decide_eq_true_eq, decide_eq_false_iff_not, Bool.not_eq_true', Bool.not_eq_false', Bool.and_eq_true, Bool.or_eq_true, Bool.and_eq_false_iff, Bool.or_eq_false_iff, Int.not_le, Int.not_lt] at c2'
      have hj : j < (esX m).length := by omega
      have h2j : 2 ^ j < 2 ^ 12 := Nat.pow_lt_pow_right (by decide) (by omega)
      have huj := Nat.or_lt_two_pow hu h2j
      refine RunC.skip ?_
      refine RunE.next ?_
      refine RunC.seq ?_
      refine RunC.block ?_
      refine RunC.seq ?_
      refine RunC.region ?_
      refine RunL.val (Val.pure rfl) rfl rfl rfl ?_
      refine RunL.val (Val.pure rfl) rfl rfl rfl ?_
      refine RunL.nil ?_
      refine RunE.next ?_
      refine RunC.seq ?_
      refine RunC.region ?_
      refine RunL.val (Val.pure rfl) rfl rfl rfl ?_
      refine RunL.val (Val.pure rfl) rfl rfl rfl ?_
      refine RunL.val (Val.fieldAddr rfl fld_73_2) rfl rfl rfl ?_
      refine RunL.val (Val.load_one rfl (.tail _ (.tail _ (.tail _ (.head _)))) ty_70 rfl) rfl rfl rfl ?_
      refine RunL.val (Val.pure rfl) rfl rfl rfl ?_
      refine RunL.val (Val.indexAddr_slp rfl rfl sl_70 (by omega) (by omega) (own_ptr hy11 (by omega))) rfl rfl rfl ?_
      refine RunL.val (Val.load_gen rfl (fun w hm => (sets_sl hy11 (fun b o h => hm.at (.tail _ (.tail _ (.tail _ (.tail _ ((by first | exact List.mem_append_right _ (List.mem_append_left _ h) | exact List.mem_append_right _ (List.mem_append_right _ (List.mem_append_left _ h)))))))))).loadM1 (by decide) (Mem.refl w) (by simp) ty_68 hk2 (v := .int .u64 (f : Int)) (by simp [hf]))) rfl rfl rfl ?_
      refine RunL.val (Val.pure rfl) rfl rfl rfl ?_
      refine RunL.val (Val.andNot (a := f) (b := u) rfl rfl (by show _ < 18446744073709551616; omega) (by show _ < 18446744073709551616; omega) (u64_in (by omega))) rfl rfl rfl ?_
      refine RunL.val (Val.pure rfl) rfl rfl rfl ?_
      refine RunL.callP (isCall_func rfl ent_45) rfl rfl rfl (fun w hm => has_calls (andN f u) j (by omega) (by omega) w) ?_
      refine RunL.val (Val.pure rfl) rfl rfl rfl ?_
      refine RunL.ways (dj := 47) rfl ?_ ?_
      · intro g47
        have g47' := g47; clear g47
        try simp only [decide_eq_true_eq, decide_eq_false_iff_not, Bool.not_eq_true', Bool.not_eq_false', Bool.and_eq_true, Bool.or_eq_true, Bool.and_eq_false_iff, Bool.or_eq_false_iff, Int.not_le, Int.not_lt] at g47'
        have hfr : free f u j = true := by (rw [andN_bit] at g47'; exact g47')
        refine RunL.val (Val.pure rfl) rfl rfl rfl ?_
        refine RunL.val (Val.pure rfl) rfl rfl rfl ?_
        refine RunL.val (Val.add rfl rfl (IntWalk.i64_in _ ⟨by omega, by omega⟩)) rfl rfl rfl ?_
        refine RunL.val (Val.pure rfl) rfl rfl rfl ?_
        refine RunL.val (Val.pure rfl) rfl rfl rfl ?_
        refine RunL.val (Val.shl1 (b := j) rfl rfl (by show j ≤ 64; omega) (u64_in (n := 2 ^ j) (by omega))) rfl rfl rfl ?_
        refine RunL.new (New.buildSlice (parts := [(0, .tmp 51), (1, .tmp 53)]) rfl sl_70 zero_68 rfl rfl rfl rfl) rfl rfl rfl (fun b54 => ?_)
        refine RunL.callP (isCall_func rfl ent_46) rfl rfl rfl (fun w hm => union2_calls u (2 ^ j) hu h2j b54 w (hm.at (.head _))) ?_
        refine RunL.callZ (isCall_value rfl rfl ent_68) rfl rfl rfl (fun _ => (.there .here)) (fun w hm => on_calls ((fsX m.pl).length - (k + 1)) (k + 1) m (esX m).length _ _ (fsX m.pl) _ _ _ (by omega) (u ||| 2 ^ j) huj y jI.1 bh11 bm11 b18.1 b18.2 w (hp_at hX (hm.at (.tail _ (.tail _ (.tail _ (.tail _ (.head _)))))) hy11 (fun b o h => hm.at (.tail _ (.tail _ (.tail _ (.tail _ (.tail _ ((by first | exact List.mem_append_right _ (List.mem_append_left _ h) | exact List.mem_append_right _ (List.mem_append_right _ (List.mem_append_left _ h))))))))))) (hm.at (.tail _ (.head _))) (hm.at (.tail _ (.tail _ (.tail _ (.head _))))) (hm.at (.tail _ (.tail _ (.head _))))) (fun x56 hx56 => ?_)
        refine RunL.val (Val.pure rfl) rfl rfl rfl ?_
        have hfr := g47'
        rw [andN_bit] at hfr
        refine RunL.val (Val.pure rfl) rfl rfl rfl ?_
        refine RunL.nil ?_
        refine RunE.next ?_
        refine RunC.cond rfl ?_ ?_
        · intro c3
          have c3' := c3; clear c3
          try simp only [decide_eq_true_eq, decide_eq_false_iff_not, Bool.not_eq_true', Bool.not_eq_false', Bool.and_eq_true, Bool.or_eq_true, Bool.and_eq_false_iff, Bool.or_eq_false_iff, Int.not_le, Int.not_lt] at c3'
          have hcp : canP (esX m).length f ((fsX m.pl).drop (k + 1)) u j = true := by (unfold canP; rw [show free f u j = true from hfr, Bool.true_and]; exact decide_eq_true (by simpa using c3'))
          refine RunC.seq ?_
          refine RunC.drawX (X := Eng.Own) 8 (n0 := [(b54, _), (bm11, _), (b18.2, _), (b18.1, _), (bh11, _)]) (fun z q => (2, ownV z (l.length + 1)) :: (6, .int .u64 ((u ||| 2 ^ j : Nat) : Int)) :: q) (fun z => []) (fun z => []) (fun z => ownB 3 z (intsW (natI (l ++ [j]))).flatten ++ (ownB 68 y11 (setsV (fsX m.pl)).flatten ++ (ownB 95 x11 ((esX m).map En.cells).flatten ++ []))) (fun z => OwnOk 1 z (l.length + 1) (intsW (natI (l ++ [j]))).flatten) fol_ (.cons .here rfl (.cons .here rfl (.cons .here rfl (.cons .here rfl (.cons .here rfl .nil))))) (Sub.cons (t := 4) rfl (Sub.cons (t := 5) rfl (Sub.cons (t := 24) rfl (Sub.cons (t := 25) rfl (Sub.nil _))))) (.cons .here rfl (.cons .here rfl (.cons .here rfl (.cons .here rfl (.cons .here rfl .nil))))) ?_ ?_
          · refine RunA.val (i := 0) rfl (by kernel_rfl) (by kernel_rfl) (Val.pure rfl) rfl rfl rfl (fun _ _ _ h => h) (.cons .here rfl (.cons .here rfl (.cons .here rfl (.cons .here rfl (.cons .here rfl .nil))))) rfl ?_
            refine RunA.val (i := 1) rfl (by kernel_rfl) (by kernel_rfl) (Val.pure rfl) rfl rfl rfl (fun _ _ _ h => h) (.cons .here rfl (.cons .here rfl (.cons .here rfl (.cons .here rfl (.cons .here rfl .nil))))) rfl ?_
            refine RunA.val (i := 4) rfl (by kernel_rfl) (by kernel_rfl) (Val.pure rfl) rfl rfl rfl (fun _ _ _ h => h) (.cons .here rfl (.cons .here rfl (.cons .here rfl (.cons .here rfl (.cons .here rfl .nil))))) rfl ?_
            refine RunA.val (i := 5) rfl (by kernel_rfl) (by kernel_rfl) (Val.pure rfl) rfl rfl rfl (fun _ _ _ h => h) (.cons .here rfl (.cons .here rfl (.cons .here rfl (.cons .here rfl (.cons .here rfl .nil))))) rfl ?_
            refine RunA.val (i := 6) rfl (by kernel_rfl) (by kernel_rfl) (Val.shl1 (b := j) rfl rfl (by show j ≤ 64; omega) (u64_in (n := 2 ^ j) (by omega))) rfl rfl rfl (fun _ _ _ h => h) (.cons .here rfl (.cons .here rfl (.cons .here rfl (.cons .here rfl (.cons .here rfl .nil))))) rfl ?_
            refine RunA.all (rs := [2, 7]) (by kernel_rfl) (by simp) (by kernel_rfl) (fun m hm => ?_)
            simp only [List.mem_cons, List.not_mem_nil, or_false] at hm
            rcases hm with rfl | rfl
            · refine RunI.new rfl (New.buildSlice (parts := [(0, .tmp 60)]) rfl sl_34 zero_3 rfl rfl rfl rfl) rfl rfl rfl (fun b61 => (RunK.toA (.cons .here rfl (.cons .here rfl (.cons .here rfl (.cons .here rfl (.cons .here rfl (.cons .here rfl .nil)))))) (.cons (.there .here) rfl (.cons (.there .here) rfl (.cons (.there .here) rfl (.cons (.there .here) rfl (.cons (.there .here) rfl .nil))))) rfl ?_))
              refine RunA.all (rs := [3, 7]) (by kernel_rfl) (by simp) (by kernel_rfl) (fun m hm => ?_)
              simp only [List.mem_cons, List.not_mem_nil, or_false] at hm
              rcases hm with rfl | rfl
              · refine RunI.append (A := [(b61, _), (b54, _), (bm11, _), (b18.2, _), (b18.1, _), (bh11, _)]) (B := _) (x := X1) (ys := [.int .i64 (j : Int)]) rfl ap_34 rfl rfl rfl hx1 rfl (fun h => by cases h) (fun w hm => src_blk (hm.at (.head _))) (one_of rfl) (by simp only [maxLen]; omega) (by omega) rfl (fun z62 hz62 => (RunK.toA (.cons .here rfl (.cons .here rfl (.cons .here rfl (.cons .here rfl (.cons .here rfl (.cons .here rfl .nil)))))) (.cons .here rfl (.cons .here rfl (.cons .here rfl (.cons .here rfl (.cons .here rfl (.cons .here rfl .nil)))))) rfl ?_))
                refine RunA.one (i := 7) (by kernel_rfl) (by kernel_rfl) ?_
                refine RunI.new rfl (New.buildSlice (parts := [(0, .tmp 63), (1, .tmp 65)]) rfl sl_70 zero_68 rfl rfl rfl rfl) rfl rfl rfl (fun b66 => (RunK.toA (.cons .here rfl (.cons .here rfl (.cons .here rfl (.cons .here rfl (.cons .here rfl (.cons .here rfl (.cons .here rfl .nil))))))) (.cons (.there .here) rfl (.cons (.there .here) rfl (.cons (.there .here) rfl (.cons (.there .here) rfl (.cons (.there .here) rfl (.cons (.there .here) rfl .nil)))))) rfl ?_))
                refine RunA.toB (by kernel_rfl) ?_
                refine RunB.one (i := 8) (by kernel_rfl) ?_
                refine RunI.callP rfl (isCall_func rfl ent_46) rfl rfl rfl (fun w hm => union2_calls u (2 ^ j) hu h2j b66 w (hm.at (.head _))) (RunK.toB ?_)
                refine RunB.one (i := 9) (by kernel_rfl) ?_
                refine RunI.val rfl (Val.pure rfl) rfl rfl rfl (RunK.toB ?_)
                refine RunB.one (i := 10) (by kernel_rfl) ?_
                refine RunI.val rfl (Val.pure rfl) rfl rfl rfl (RunK.toB ?_)
                refine RunB.done (by kernel_rfl) ?_
                exact RunE.joinX z62 (by rw [nat_snoc]; exact hz62) rfl (Sub.consE (t := 2) rfl rfl (Sub.consE (t := 6) rfl rfl (Sub.cons (t := 4) rfl (Sub.cons (t := 5) rfl (Sub.cons (t := 24) rfl (Sub.cons (t := 25) rfl (Sub.nil _))))))) (.cons (.there (.there .here)) rfl (.cons (.there (.there .here)) rfl (.cons (.there (.there .here)) rfl (.cons (.there (.there .here)) rfl (.cons (.there (.there .here)) rfl (Pick.skip (Pick.skip (Pick.same (by rw [nat_snoc])))))))))
              · refine RunI.new rfl (New.buildSlice (parts := [(0, .tmp 63), (1, .tmp 65)]) rfl sl_70 zero_68 rfl rfl rfl rfl) rfl rfl rfl (fun b66 => (RunK.toA (.cons .here rfl (.cons .here rfl (.cons .here rfl (.cons .here rfl (.cons .here rfl (.cons .here rfl (.cons .here rfl .nil))))))) (.cons (.there .here) rfl (.cons (.there .here) rfl (.cons (.there .here) rfl (.cons (.there .here) rfl (.cons (.there .here) rfl (.cons (.there .here) rfl .nil)))))) rfl ?_))
                refine RunA.one (i := 3) (by kernel_rfl) (by kernel_rfl) ?_
                refine RunI.append (A := [(b66, _), (b61, _), (b54, _), (bm11, _), (b18.2, _), (b18.1, _), (bh11, _)]) (B := _) (x := X1) (ys := [.int .i64 (j : Int)]) rfl ap_34 rfl rfl rfl hx1 rfl (fun h => by cases h) (fun w hm => src_blk (hm.at (.tail _ (.head _)))) (one_of rfl) (by simp only [maxLen]; omega) (by omega) rfl (fun z62 hz62 => (RunK.toA (.cons .here rfl (.cons .here rfl (.cons .here rfl (.cons .here rfl (.cons .here rfl (.cons .here rfl (.cons .here rfl .nil))))))) (.cons .here rfl (.cons .here rfl (.cons .here rfl (.cons .here rfl (.cons .here rfl (.cons .here rfl (.cons .here rfl .nil))))))) rfl ?_))
                refine RunA.toB (by kernel_rfl) ?_
                refine RunB.one (i := 8) (by kernel_rfl) ?_
                refine RunI.callP rfl (isCall_func rfl ent_46) rfl rfl rfl (fun w hm => union2_calls u (2 ^ j) hu h2j b66 w (hm.at (.head _))) (RunK.toB ?_)
                refine RunB.one (i := 9) (by kernel_rfl) ?_
                refine RunI.val rfl (Val.pure rfl) rfl rfl rfl (RunK.toB ?_)
                refine RunB.one (i := 10) (by kernel_rfl) ?_
                refine RunI.val rfl (Val.pure rfl) rfl rfl rfl (RunK.toB ?_)
                refine RunB.done (by kernel_rfl) ?_
                exact RunE.joinX z62 (by rw [nat_snoc]; exact hz62) rfl (Sub.consE (t := 2) rfl rfl (Sub.consE (t := 6) rfl rfl (Sub.cons (t := 4) rfl (Sub.cons (t := 5) rfl (Sub.cons (t := 24) rfl (Sub.cons (t := 25) rfl (Sub.nil _))))))) (.cons (.there (.there .here)) rfl (.cons (.there (.there .here)) rfl (.cons (.there (.there .here)) rfl (.cons (.there (.there .here)) rfl (.cons (.there (.there .here)) rfl (Pick.skip (Pick.skip (Pick.same (by rw [nat_snoc])))))))))
            · refine RunI.new rfl (New.buildSlice (parts := [(0, .tmp 63), (1, .tmp 65)]) rfl sl_70 zero_68 rfl rfl rfl rfl) rfl rfl rfl (fun b66 => (RunK.toA (.cons .here rfl (.cons .here rfl (.cons .here rfl (.cons .here rfl (.cons .here rfl (.cons .here rfl .nil)))))) (.cons (.there .here) rfl (.cons (.there .here) rfl (.cons (.there .here) rfl (.cons (.there .here) rfl (.cons (.there .here) rfl .nil))))) rfl ?_))
              refine RunA.one (i := 2) (by kernel_rfl) (by kernel_rfl) ?_
              refine RunI.new rfl (New.buildSlice (parts := [(0, .tmp 60)]) rfl sl_34 zero_3 rfl rfl rfl rfl) rfl rfl rfl (fun b61 => (RunK.toA (.cons .here rfl (.cons .here rfl (.cons .here rfl (.cons .here rfl (.cons .here rfl (.cons .here rfl (.cons .here rfl .nil))))))) (.cons (.there .here) rfl (.cons (.there .here) rfl (.cons (.there .here) rfl (.cons (.there .here) rfl (.cons (.there .here) rfl (.cons (.there .here) rfl .nil)))))) rfl ?_))
              refine RunA.one (i := 3) (by kernel_rfl) (by kernel_rfl) ?_
              refine RunI.append (A := [(b61, _), (b66, _), (b54, _), (bm11, _), (b18.2, _), (b18.1, _), (bh11, _)]) (B := _) (x := X1) (ys := [.int .i64 (j : Int)]) rfl ap_34 rfl rfl rfl hx1 rfl (fun h => by cases h) (fun w hm => src_blk (hm.at (.head _))) (one_of rfl) (by simp only [maxLen]; omega) (by omega) rfl (fun z62 hz62 => (RunK.toA (.cons .here rfl (.cons .here rfl (.cons .here rfl (.cons .here rfl (.cons .here rfl (.cons .here rfl (.cons .here rfl .nil))))))) (.cons .here rfl (.cons .here rfl (.cons .here rfl (.cons .here rfl (.cons .here rfl (.cons .here rfl (.cons .here rfl .nil))))))) rfl ?_))
              refine RunA.toB (by kernel_rfl) ?_
              refine RunB.one (i := 8) (by kernel_rfl) ?_
              refine RunI.callP rfl (isCall_func rfl ent_46) rfl rfl rfl (fun w hm => union2_calls u (2 ^ j) hu h2j b66 w (hm.at (.tail _ (.head _)))) (RunK.toB ?_)
              refine RunB.one (i := 9) (by kernel_rfl) ?_
              refine RunI.val rfl (Val.pure rfl) rfl rfl rfl (RunK.toB ?_)
              refine RunB.one (i := 10) (by kernel_rfl) ?_
              refine RunI.val rfl (Val.pure rfl) rfl rfl rfl (RunK.toB ?_)
              refine RunB.done (by kernel_rfl) ?_
              exact RunE.joinX z62 (by rw [nat_snoc]; exact hz62) rfl (Sub.consE (t := 2) rfl rfl (Sub.consE (t := 6) rfl rfl (Sub.cons (t := 4) rfl (Sub.cons (t := 5) rfl (Sub.cons (t := 24) rfl (Sub.cons (t := 25) rfl (Sub.nil _))))))) (.cons (.there (.there .here)) rfl (.cons (.there (.there .here)) rfl (.cons (.there (.there .here)) rfl (.cons (.there (.there .here)) rfl (.cons (.there (.there .here)) rfl (Pick.skip (Pick.skip (Pick.same (by rw [nat_snoc])))))))))
          · intro z zI
            have hx1 := zI
            refine RunE.next ?_
            refine RunC.exit ?_
            refine RunE.block_other rfl ?_
            refine RunE.pass_exit ?_
            refine RunE.pass_exit ?_
            refine RunE.block_other rfl ?_
            refine RunE.block_here ?_
            refine RunE.next ?_
            refine RunC.region ?_
            refine RunL.val (Val.add rfl rfl (IntWalk.i64_in _ ⟨by omega, by omega⟩)) rfl rfl rfl ?_
            refine RunL.val (Val.pure rfl) rfl rfl rfl ?_
            refine RunL.nil ?_
            exact RunE.roundX (z, u ||| 2 ^ j, l ++ [j], x56) (by omega) ⟨(by rw [List.length_append]; exact hx1), huj, hx56.1, (by rw [hfe, hdr, first_some jI.2 hcp hj, List.append_assoc]; rfl), (by simp; omega)⟩ rfl (Sub.consE (t := 25) rfl rfl (Sub.consE (t := 2) rfl (by first | rfl | simp) (Sub.consE (t := 6) rfl rfl (Sub.cons (t := 4) rfl (Sub.cons (t := 5) rfl (Sub.cons (t := 24) rfl (Sub.nil _))))))) (.cons (.there .here) rfl (.cons (.there .here) rfl (.cons (.there .here) rfl (.cons (.there .here) rfl (Pick.skip (Pick.refl _))))))
        · intro c3
          have c3' := c3; clear c3
          try simp only [decide_eq_true_eq, decide_eq_false_iff_not, Bool.not_eq_true', Bool.not_eq_false', Bool.and_eq_true, Bool.or_eq_true, Bool.and_eq_false_iff, Bool.or_eq_false_iff, Int.not_le, Int.not_lt] at c3'
          have hc3 : ¬ 0 < cntL (esX m).length ((fsX m.pl).drop (k + 1)) (u ||| 2 ^ j) := by simpa using c3'
          refine RunC.skip ?_
          refine RunE.block_normal ?_
          refine RunE.next ?_
          refine RunC.region ?_
          refine RunL.val (Val.add rfl rfl (IntWalk.i64_in _ ⟨by omega, by omega⟩)) rfl rfl rfl ?_
          refine RunL.val (Val.pure rfl) rfl rfl rfl ?_
          refine RunL.nil ?_
          exact RunE.roundX x56 (by omega) ⟨hx56.1, step_none jI.2 (by unfold canP; rw [decide_eq_false hc3, Bool.and_false])⟩ rfl (Sub.consE (t := 33) rfl rfl (Sub.cons (t := 4) rfl (Sub.cons (t := 5) rfl (Sub.cons (t := 24) rfl (Sub.cons (t := 25) rfl (Sub.cons (t := 2) rfl (Sub.cons (t := 6) rfl (Sub.cons (t := 7) rfl (Sub.cons (t := 32) rfl (Sub.nil _)))))))))) (.cons (.there .here) rfl (.cons (.there .here) rfl (.cons (.there .here) rfl (.cons (.there .here) rfl (Pick.skip (Pick.refl _))))))
      · intro g47
        have g47' := g47; clear g47
        try simp only [decide_eq_true_eq, decide_eq_false_iff_not, Bool.not_eq_true', Bool.not_eq_false', Bool.and_eq_true, Bool.or_eq_true, Bool.and_eq_false_iff, Bool.or_eq_false_iff, Int.not_le, Int.not_lt] at g47'
        iterate 10 refine RunL.no rfl rfl rfl ?_
        have hfr := g47'
        rw [andN_bit] at hfr
        refine RunL.val (Val.pure rfl) rfl rfl rfl ?_
        refine RunL.nil ?_
        refine RunE.next ?_
        refine RunC.cond_false rfl ?_
        refine RunC.skip ?_
        refine RunE.block_normal ?_
        refine RunE.next ?_
        refine RunC.region ?_
        refine RunL.val (Val.add rfl rfl (IntWalk.i64_in _ ⟨by omega, by omega⟩)) rfl rfl rfl ?_
        refine RunL.val (Val.pure rfl) rfl rfl rfl ?_
        refine RunL.nil ?_
        exact RunE.roundX y (by omega) ⟨jI.1, step_none jI.2 (by unfold canP; rw [show free f u j = false from hfr, Bool.false_and])⟩ rfl (Sub.consE (t := 33) rfl rfl (Sub.cons (t := 4) rfl (Sub.cons (t := 5) rfl (Sub.cons (t := 24) rfl (Sub.cons (t := 25) rfl (Sub.cons (t := 2) rfl (Sub.cons (t := 6) rfl (Sub.cons (t := 7) rfl (Sub.cons (t := 32) rfl (Sub.nil _)))))))))) (.cons .here rfl (.cons .here rfl (.cons .here rfl (.cons .here rfl (Pick.refl _)))))
    · intro c2
      have c2' := c2; clear c2
      try simp only [decide_eq_true_eq, decide_eq_false_iff_not, Bool.not_eq_true', Bool.not_eq_false', Bool.and_eq_true, Bool.or_eq_true, Bool.and_eq_false_iff, Bool.or_eq_false_iff, Int.not_le, Int.not_lt] at c2'
      have hjn : j = (esX m).length := by omega
      refine RunC.exit ?_
      refine RunE.pass_exit ?_
      refine RunE.pass_exit ?_
      refine RunE.block_here ?_
      refine RunE.block_normal ?_
      refine RunE.next ?_
      refine RunC.region ?_
      refine RunL.val (Val.add rfl rfl (IntWalk.i64_in _ ⟨by omega, by omega⟩)) rfl rfl rfl ?_
      refine RunL.val (Val.pure rfl) rfl rfl rfl ?_
      refine RunL.nil ?_
      exact RunE.roundX (X1, u, l, y) (by omega) ⟨hx1, hu, jI.1, (by rw [hfe, hdr, first_none (fun i hi => jI.2 i (by omega))]), Nat.le_succ_of_le hll⟩ rfl (Sub.consE (t := 25) rfl rfl (Sub.consE (t := 2) rfl (by first | rfl | simp) (Sub.consE (t := 6) rfl rfl (Sub.cons (t := 4) rfl (Sub.cons (t := 5) rfl (Sub.cons (t := 24) rfl (Sub.nil _))))))) (.cons .here rfl (.cons .here rfl (.cons .here rfl (.cons .here rfl (Pick.refl _)))))
  · intro c1
    have c1' := c1; clear c1
    try simp only [decide_eq_true_eq, decide_eq_false_iff_not, Bool.not_eq_true', Bool.not_eq_false', Bool.and_eq_true, Bool.or_eq_true, Bool.and_eq_false_iff, Bool.or_eq_false_iff, Int.not_le, Int.not_lt] at c1'
    have hkn : k = (fsX m.pl).length := by omega
    rw [hkn, List.drop_length] at hfe
    have hfe2 : firstL (esX m).length (fsX m.pl) 0 = l := by (rw [hfe]; simp [firstL])
    rw [hfe2]
    refine RunC.exit ?_
    refine RunE.pass_exit ?_
    refine RunE.pass_exit ?_
    refine RunE.block_here ?_
    refine RunE.next ?_
    refine RunC.seq ?_
    refine RunC.region ?_
    iterate 3 refine RunL.val (Val.pure rfl) rfl rfl rfl ?_
    refine RunL.nil ?_
    refine RunE.next ?_
    refine RunC.ret ?_
    refine RunE.scope_ret ?_
    exact RunE.ret (chg := []) (.r2 rfl (.tmp rfl) (.tmp rfl)) (fun _ hm => ⟨⟨X1, by simpa [natI] using hx1⟩, by simp [natI], hm.pick (Pick.skip (Pick.skip (Pick.skip (Pick.skip (Pick.app .nil _)))))⟩)
end Go.Proofs.YtlhdalcipflblaaDoor
/- The facts on the tables of types and on the entries of functions that the walks use. Written by program. -/
set_option linter.unusedSimpArgs false
set_option linter.unusedVariables false
namespace Go.Proofs.YtlhdalcipflblaaDoor
open Go Go.Eng
theorem ent_47 : Enters Tryd.prog 47 := enters_of Tryd.func47 (by kernel_rfl) rfl
theorem ent_66 : Enters Tryd.prog 66 := enters_of Tryd.func66 (by kernel_rfl) rfl
theorem ent_85 : Enters Tryd.prog 85 := enters_of Tryd.func85 (by kernel_rfl) rfl
theorem und_122 : Tryd.prog.underlying 122 = some (.int .u64) := by kernel_rfl
end Go.Proofs.YtlhdalcipflblaaDoor
/- Walks of package heap: how many are in a set, and all sets. -/
set_option linter.unusedSimpArgs false
set_option linter.unusedVariables false
namespace Go.Hp
open Go Go.Eng Go.Pw1
def isK (k s : Nat) : Bool := decide (0 < s) && decide (pc s 12 = k)
def setsP (n k : Nat) : List Nat := ((List.range k).map (· + 1)).flatMap fun k => (List.range (2 ^ n)).filter (isK k)
theorem setsP_all (n : Nat) : setsL n = setsP n n := rfl
theorem setsP_s (n k : Nat) : setsP n (k + 1) = setsP n k ++ (List.range (2 ^ n)).filter (isK (k + 1)) := by
  unfold setsP
  rw [List.range_succ, List.map_append, List.flatMap_append]
  simp
theorem setsP_len (n k : Nat) : (setsP n k).length ≤ k * 2 ^ n := by
  induction k with
  | zero => simp [setsP]
  | succ k ih =>
    rw [setsP_s, List.length_append, Nat.succ_mul]
    have := List.length_filter_le (isK (k + 1)) (List.range (2 ^ n))
    rw [List.length_range] at this
    omega
theorem fil_len (k j : Nat) : ((List.range j).filter (isK k)).length ≤ j := by
  have := List.length_filter_le (isK k) (List.range j)
  rwa [List.length_range] at this
theorem fil_yes {k j : Nat} (h : pc (j + 1) 12 = k) : (List.range (j + 2)).filter (isK k) = (List.range (j + 1)).filter (isK k) ++ [j + 1] := by
  rw [List.range_succ, List.filter_append]
  have : isK k (j + 1) = true := by unfold isK; rw [h]; simp
  simp [this]
theorem fil_no {k j : Nat} (h : ¬ pc (j + 1) 12 = k) : (List.range (j + 2)).filter (isK k) = (List.range (j + 1)).filter (isK k) := by
  rw [List.range_succ, List.filter_append]
  have : isK k (j + 1) = false := by unfold isK; rw [decide_eq_false h, Bool.and_false]
  simp [this]
theorem fil_0 (k : Nat) : (List.range (0 + 1)).filter (isK k) = [] := by simp [isK]
theorem setsP_pre {n k : Nat} (hk : k < n) : ∃ r, setsL n = setsP n (k + 1) ++ r := by
  refine ⟨((List.range (n - (k + 1))).map (fun i => k + 1 + i + 1)).flatMap fun k => (List.range (2 ^ n)).filter (isK k), ?_⟩
  rw [setsP_all]
  unfold setsP
  rw [← List.flatMap_append]
  congr 1
  have : List.range n = List.range (k + 1) ++ (List.range (n - (k + 1))).map (k + 1 + ·) := by rw [← List.range_add, show k + 1 + (n - (k + 1)) = n by omega]
  rw [this, List.map_append, List.map_map]
  rfl
theorem sets_pre {n k j : Nat} (hk : k < n) (hj : j + 1 < 2 ^ n) (h : pc (j + 1) 12 = k + 1) : ∃ r, setsP n k ++ (List.range (j + 1)).filter (isK (k + 1)) ++ [j + 1] ++ r = setsL n := by
  obtain ⟨r, hr⟩ := setsP_pre hk
  have : List.range (2 ^ n) = List.range (j + 2) ++ (List.range (2 ^ n - (j + 2))).map (j + 2 + ·) := by rw [← List.range_add, show j + 2 + (2 ^ n - (j + 2)) = 2 ^ n by omega]
  rw [setsP_s, this, List.filter_append, fil_yes h] at hr
  exact ⟨_, by rw [hr]; simp only [List.append_assoc]; rfl⟩
end Go.Hp
namespace Go.Proofs.YtlhdalcipflblaaDoor
open Go Go.Eng Go.Hp Go.Pw1

theorem ones64_calls (s : Nat) (hs : s < 4096) (W : World) : Calls Tryd.prog 85 #[.int .u64 (s : Int)] W (Pure (.int .i64 (oc s : Int)) W) := by
  have b1 := oc1_le s
  have b2' := oc2_le s
  have b3 := oc3a_le s
  have b3' := oc3_le s
  have b4 := oc4_le s
  have b5 := oc5_le s
  have b6 := oc6_le s
  have h1 := Nat.shiftRight_le s 1
  have h2 := Nat.shiftRight_le (oc1 s) 2
  refine calls_start Tryd.func85 rfl rfl ?_
  refine RunC.seq ?_
  refine RunC.region ?_
  refine RunL.val (Val.pure rfl) rfl rfl rfl ?_
  refine RunL.nil ?_
  refine RunE.next ?_
  refine RunC.seq ?_
  refine RunC.region ?_
  refine RunL.val (Val.pure rfl) rfl rfl rfl ?_
  refine RunL.val (Val.shrN (a := s) (b := 1) rfl rfl (by decide)) rfl rfl rfl ?_
  refine RunL.val (Val.and (a := s >>> 1) (b := 6148914691236517205) rfl rfl (by show _ < 18446744073709551616; omega) (by decide) (u64_in (by have := Nat.and_le_right (n := s >>> 1) (m := 6148914691236517205); omega))) rfl rfl rfl ?_
  refine RunL.val (Val.pure rfl) rfl rfl rfl ?_
  refine RunL.val (Val.and (a := s) (b := 6148914691236517205) rfl rfl (by show _ < 18446744073709551616; omega) (by decide) (u64_in (by have := Nat.and_le_right (n := s) (m := 6148914691236517205); omega))) rfl rfl rfl ?_
  refine RunL.val (Val.addN (oc1 s) rfl rfl rfl (u64_in (by omega))) rfl rfl rfl ?_
  refine RunL.val (Val.pure rfl) rfl rfl rfl ?_
  refine RunL.nil ?_
  refine RunE.next ?_
  refine RunC.seq ?_
  refine RunC.region ?_
  refine RunL.val (Val.pure rfl) rfl rfl rfl ?_
  refine RunL.val (Val.shrN (a := oc1 s) (b := 2) rfl rfl (by decide)) rfl rfl rfl ?_
  refine RunL.val (Val.and (a := oc1 s >>> 2) (b := 3689348814741910323) rfl rfl (by show _ < 18446744073709551616; omega) (by decide) (u64_in (by have := Nat.and_le_right (n := oc1 s >>> 2) (m := 3689348814741910323); omega))) rfl rfl rfl ?_
  refine RunL.val (Val.pure rfl) rfl rfl rfl ?_
  refine RunL.val (Val.and (a := oc1 s) (b := 3689348814741910323) rfl rfl (by show _ < 18446744073709551616; omega) (by decide) (u64_in (by have := Nat.and_le_right (n := oc1 s) (m := 3689348814741910323); omega))) rfl rfl rfl ?_
  refine RunL.val (Val.addN (oc2 s) rfl rfl rfl (u64_in (by omega))) rfl rfl rfl ?_
  refine RunL.val (Val.pure rfl) rfl rfl rfl ?_
  refine RunL.nil ?_
  refine RunE.next ?_
  refine RunC.seq ?_
  refine RunC.region ?_
  refine RunL.val (Val.pure rfl) rfl rfl rfl ?_
  refine RunL.val (Val.shrN (a := oc2 s) (b := 4) rfl rfl (by decide)) rfl rfl rfl ?_
  refine RunL.val (Val.pure rfl) rfl rfl rfl ?_
  refine RunL.val (Val.addN (oc3a s) rfl rfl rfl (u64_in (by omega))) rfl rfl rfl ?_
  refine RunL.val (Val.and (a := oc3a s) (b := 1085102592571150095) rfl rfl (by show _ < 18446744073709551616; omega) (by decide) (u64_in (by have := Nat.and_le_right (n := oc3a s) (m := 1085102592571150095); omega))) rfl rfl rfl ?_
  refine RunL.val (Val.pure rfl) rfl rfl rfl ?_
  refine RunL.nil ?_
  refine RunE.next ?_
  refine RunC.seq ?_
  refine RunC.region ?_
  refine RunL.val (Val.pure rfl) rfl rfl rfl ?_
  refine RunL.val (Val.pure rfl) rfl rfl rfl ?_
  refine RunL.val (Val.shrN (a := oc3 s) (b := 8) rfl rfl (by decide)) rfl rfl rfl ?_
  refine RunL.val (Val.addN (oc4 s) rfl rfl rfl (u64_in (by omega))) rfl rfl rfl ?_
  refine RunL.val (Val.pure rfl) rfl rfl rfl ?_
  refine RunL.nil ?_
  refine RunE.next ?_
  refine RunC.seq ?_
  refine RunC.region ?_
  refine RunL.val (Val.pure rfl) rfl rfl rfl ?_
  refine RunL.val (Val.pure rfl) rfl rfl rfl ?_
  refine RunL.val (Val.shrN (a := oc4 s) (b := 16) rfl rfl (by decide)) rfl rfl rfl ?_
  refine RunL.val (Val.addN (oc5 s) rfl rfl rfl (u64_in (by omega))) rfl rfl rfl ?_
  refine RunL.val (Val.pure rfl) rfl rfl rfl ?_
  refine RunL.nil ?_
  refine RunE.next ?_
  refine RunC.seq ?_
  refine RunC.region ?_
  refine RunL.val (Val.pure rfl) rfl rfl rfl ?_
  refine RunL.val (Val.pure rfl) rfl rfl rfl ?_
  refine RunL.val (Val.shrN (a := oc5 s) (b := 32) rfl rfl (by decide)) rfl rfl rfl ?_
  refine RunL.val (Val.addN (oc6 s) rfl rfl rfl (u64_in (by omega))) rfl rfl rfl ?_
  refine RunL.val (Val.pure rfl) rfl rfl rfl ?_
  refine RunL.nil ?_
  refine RunE.next ?_
  refine RunC.seq ?_
  refine RunC.region ?_
  refine RunL.val (Val.pure rfl) rfl rfl rfl ?_
  refine RunL.val (Val.convInt rfl und_122 und_3 (IntWalk.i64_in _ ⟨by omega, by omega⟩)) rfl rfl rfl ?_
  refine RunL.val (Val.and (a := oc6 s) (b := 127) rfl rfl (by show _ < 18446744073709551616; omega) (by decide) (i64_inN (by have := Nat.and_le_right (n := oc6 s) (m := 127); omega))) rfl rfl rfl ?_
  refine RunL.val (Val.pure rfl) rfl rfl rfl ?_
  refine RunL.nil ?_
  refine RunE.next ?_
  refine RunC.ret ?_
  exact RunE.retP (.r1 rfl (.tmp rfl)) (by first | rfl | simp)
theorem ones_calls (s : Nat) (hs : s < 4096) (W : World) : Calls Tryd.prog 66 #[.int .u64 (s : Int)] W (Pure (.int .i64 (pc s 12 : Int)) W) := by
  rw [← oc_eq hs]
  refine calls_start Tryd.func66 rfl rfl ?_
  refine RunC.seq ?_
  refine RunC.region ?_
  refine RunL.val (Val.pure rfl) rfl rfl rfl ?_
  refine RunL.nil ?_
  refine RunE.next ?_
  refine RunC.seq ?_
  refine RunC.cond_false rfl ?_
  refine RunC.skip ?_
  refine RunE.next ?_
  refine RunC.seq ?_
  refine RunC.region ?_
  refine RunL.val (Val.pure rfl) rfl rfl rfl ?_
  refine RunL.callP (isCall_func rfl ent_85) rfl rfl rfl (fun w hm => ones64_calls s hs w) ?_
  refine RunL.val (Val.pure rfl) rfl rfl rfl ?_
  refine RunL.nil ?_
  refine RunE.next ?_
  refine RunC.ret ?_
  exact RunE.retP (.r1 rfl (.tmp rfl)) (by first | rfl | simp)
theorem size_calls (s : Nat) (hs : s < 4096) (W : World) : Calls Tryd.prog 47 #[.int .u64 (s : Int)] W (Pure (.int .i64 (pc s 12 : Int)) W) := by
  refine calls_start Tryd.func47 rfl rfl ?_
  refine RunC.seq ?_
  refine RunC.region ?_
  refine RunL.val (Val.pure rfl) rfl rfl rfl ?_
  refine RunL.nil ?_
  refine RunE.next ?_
  refine RunC.seq ?_
  refine RunC.region ?_
  refine RunL.val (Val.pure rfl) rfl rfl rfl ?_
  refine RunL.callP (isCall_func rfl ent_66) rfl rfl rfl (fun w hm => ones_calls s hs w) ?_
  refine RunL.val (Val.pure rfl) rfl rfl rfl ?_
  refine RunL.nil ?_
  refine RunE.next ?_
  refine RunC.ret ?_
  exact RunE.retP (.r1 rfl (.tmp rfl)) (by first | rfl | simp)
abbrev nCell (n : Nat) : Obj := .cells [.int .i64 (n : Int)].toArray 3 (0, 0)
set_option maxHeartbeats 2000000 in
theorem sets_stops (n : Nat) (hn : n ≤ 8) (b1 : Nat) (w0 : World) (nm : List Nat) (h0 : w0.heap[b1]? = some (nCell n)) (hs : b1 < w0.heap.size ∧ b1 ∉ nm) :
    SeqStopsK (Fr none) 8 Tryd.prog 65 #[.pointer (some ⟨b1, 0, none⟩)] (fun x : Nat => #[.int .u64 ((x % 4096 : Nat) : Int)]) (KpX w0.heap.size nm) (fun xs => xs = setsL n) (fun pre => ∃ r, pre ++ r = setsL n) 5000 w0 := by
  unfold SeqStopsK
  intro l J Jx W hW hJ hJx hY hJ0
  have h2n : 2 ^ n ≤ 2 ^ 8 := Nat.pow_le_pow_right (by decide) hn
  have h2p : 0 < 2 ^ n := Nat.two_pow_pos n
  have hSn : W.heap[b1]? = some (nCell n) := (hW.block b1 hs.1).trans h0
  have hJm : ∀ {s : List Nat} {A C : World} {news : Blks}, J s A → Mem A [] news C → J s C := fun h hm => hJ _ _ _ none h hm.grown (fun r e => by cases e)
  have hJxm : ∀ {s : List Nat} {A C : World} {news : Blks}, Jx s A → Mem A [] news C → Jx s C := fun h hm => hJx _ _ _ none h hm.grown (fun r e => by cases e)
  have hYY : ∀ (pre : List Nat) (x : Nat) (A : World), J pre A → pre.length < 5000 → A.heap[b1]? = some (nCell n) → YieldAt (Fr none) 8 Tryd.prog l #[.int .u64 ((x % 4096 : Nat) : Int)] A (fun e w' => ∃ y, e = .returned (.bool y) ∧ ((y = true ∧ J (pre ++ [x]) w' ∧ w'.heap[b1]? = some (nCell n)) ∨ (y = false ∧ Jx (pre ++ [x]) w'))) := fun pre x A h1 h2 h3 =>
    yieldAt_any (hY pre x A h1 h2) (fun e w' hh => by
      rcases hh with ⟨rfl, hh, hk⟩ | ⟨rfl, hh⟩
      · exact ⟨true, rfl, .inl ⟨rfl, hh, (hk b1 hs.1 hs.2).trans h3⟩⟩
      · exact ⟨false, rfl, .inr ⟨rfl, hh⟩⟩)
  refine callsIn_start (vs := [.func (.yield l) #[] #[], .pointer (some ⟨b1, 0, none⟩)]) Tryd.func65 rfl rfl ?_ 8
  refine RunCR.seq ?_
  refine RunCR.region ?_
  refine RunLR.val (Val.pure rfl) rfl rfl rfl ?_
  refine RunLR.nil ?_
  refine RunER.next ?_
  refine RunCR.block ?_
  refine RunCR.loopW (n) (fun k q => (3, .int .i64 ((k + 1 : Nat) : Int)) :: q) (fun k Wk => J (setsP n k) Wk ∧ Wk.heap[b1]? = some (nCell n)) (fun w hm => ⟨hJm hJ0 hm, hm.old_at hSn (by simp)⟩) (Sub.consE (t := 3) rfl rfl (Sub.cons (t := 0) rfl (Sub.cons (t := 1) rfl (Sub.nil _)))) ?_
  intro k Wk kN kI
  obtain ⟨hJk, hSk⟩ := kI
  refine RunCR.seq ?_
  refine RunCR.seq ?_
  refine RunCR.region ?_
  refine RunLR.val (Val.pure rfl) rfl rfl rfl ?_
  refine RunLR.val (Val.oload_one rfl hSk (by simp) ty_3 rfl) rfl rfl rfl ?_
  refine RunLR.val (Val.pure rfl) rfl rfl rfl ?_
  refine RunLR.nil ?_
  refine RunER.next ?_
  refine RunCR.cond rfl ?_ ?_
  · intro c0
    have c0' := c0; clear c0
    try simp only [decide_eq_true_eq, decide_eq_false_iff_not, Bool.not_eq_true', Bool.not_eq_false', Bool.and_eq_true, Bool.or_eq_true, Bool.and_eq_false_iff, Bool.or_eq_false_iff, Int.not_le, Int.not_lt] at c0'
    have hk : k < n := by omega
    have hpl := setsP_len n k
    have hpl2 : k * 2 ^ n ≤ 8 * 2 ^ 8 := Nat.mul_le_mul (by omega) h2n
    refine RunCR.skip ?_
    refine RunER.next ?_
    refine RunCR.seq ?_
    refine RunCR.block ?_
    refine RunCR.seq ?_
    refine RunCR.region ?_
    refine RunLR.val (Val.pure rfl) rfl rfl rfl ?_
    refine RunLR.nil ?_
    refine RunER.next ?_
    refine RunCR.block ?_
    refine RunCR.loopW (2 ^ n - 1) (fun j q => (4, .int .u64 ((j + 1 : Nat) : Int)) :: q) (fun j Wj => J (setsP n k ++ (List.range (j + 1)).filter (isK (k + 1))) Wj ∧ Wj.heap[b1]? = some (nCell n)) (fun w hm => ⟨by rw [fil_0, List.append_nil]; exact hJm hJk hm, hm.old_at hSk (by simp)⟩) (Sub.consE (t := 4) rfl rfl (Sub.cons (t := 0) rfl (Sub.cons (t := 1) rfl (Sub.cons (t := 3) rfl (Sub.nil _))))) ?_
    intro j Wj jN jI
    obtain ⟨hJj, hSj⟩ := jI
    refine RunCR.seq ?_
    refine RunCR.seq ?_
    refine RunCR.region ?_
    refine RunLR.val (Val.pure rfl) rfl rfl rfl ?_
    refine RunLR.val (Val.oload_one rfl hSj (by simp) ty_3 rfl) rfl rfl rfl ?_
    refine RunLR.val (Val.shl1 (b := n) rfl rfl (by show n ≤ 64; omega) (u64_in (n := 2 ^ n) (by omega))) rfl rfl rfl ?_
    refine RunLR.val (Val.pure rfl) rfl rfl rfl ?_
    refine RunLR.nil ?_
    refine RunER.next ?_
    refine RunCR.cond rfl ?_ ?_
    · intro c1
      have c1' := c1; clear c1
      try simp only [decide_eq_true_eq, decide_eq_false_iff_not, Bool.not_eq_true', Bool.not_eq_false', Bool.and_eq_true, Bool.or_eq_true, Bool.and_eq_false_iff, Bool.or_eq_false_iff, Int.not_le, Int.not_lt] at c1'
      have hj : j + 1 < 2 ^ n := by omega
      have hfl := fil_len (k + 1) (j + 1)
      refine RunCR.skip ?_
      refine RunER.next ?_
      refine RunCR.seq ?_
      refine RunCR.block ?_
      refine RunCR.seq ?_
      refine RunCR.region ?_
      refine RunLR.val (Val.pure rfl) rfl rfl rfl ?_
      refine RunLR.callP (isCall_func rfl ent_47) rfl rfl rfl (fun w hm => size_calls (j + 1) (by omega) w) ?_
      iterate 3 refine RunLR.val (Val.pure rfl) rfl rfl rfl ?_
      refine RunLR.ways (dj := 20) rfl ?_ ?_
      · intro g20
        have g20' := g20; clear g20
        try simp only [decide_eq_true_eq, decide_eq_false_iff_not, Bool.not_eq_true', Bool.not_eq_false', Bool.and_eq_true, Bool.or_eq_true, Bool.and_eq_false_iff, Bool.or_eq_false_iff, Int.not_le, Int.not_lt] at g20'
        refine RunLR.val (Val.pure rfl) rfl rfl rfl ?_
        refine RunLR.val (Val.pure rfl) rfl rfl rfl ?_
        refine RunLR.yield (RY := fun y w' => (y = true ∧ J (setsP n k ++ (List.range (j + 1)).filter (isK (k + 1)) ++ [j + 1]) w' ∧ w'.heap[b1]? = some (nCell n)) ∨ (y = false ∧ Jx (setsP n k ++ (List.range (j + 1)).filter (isK (k + 1)) ++ [j + 1]) w')) (isYield_value rfl rfl) rfl rfl rfl (fun w hm => (by have h9 := hYY _ (j + 1) w (hJm hJj hm) (by rw [List.length_append]; omega) (hm.old_at hSj (by simp)); rw [Nat.mod_eq_of_lt (show j + 1 < 4096 by omega)] at h9; exact h9)) ?_
        intro y23 W23 h23
        refine RunLR.val (Val.pure rfl) rfl rfl rfl ?_
        refine RunLR.val (Val.pure rfl) rfl rfl rfl ?_
        refine RunLR.nil ?_
        refine RunER.next ?_
        refine RunCR.cond rfl ?_ ?_
        · intro c2
          have c2' := c2; clear c2
          try simp only [decide_eq_true_eq, decide_eq_false_iff_not, Bool.not_eq_true', Bool.not_eq_false', Bool.and_eq_true, Bool.or_eq_true, Bool.and_eq_false_iff, Bool.or_eq_false_iff, Int.not_le, Int.not_lt] at c2'
          refine RunCR.ret ?_
          refine RunE.block_ret ?_
          refine RunE.pass_ret ?_
          refine RunE.pass_ret ?_
          refine RunE.block_ret ?_
          refine RunE.block_ret ?_
          refine RunE.pass_ret ?_
          refine RunE.pass_ret ?_
          refine RunE.block_ret ?_
          intro a w2 s
          rcases h23 with ⟨h, _⟩ | ⟨_, hX2⟩
          · rw [h] at c2'; cases c2'
          · exact ⟨s.defers, _, results_none rfl _ _ _, ⟨_, rfl⟩, .inr ⟨_, sets_pre hk hj (by omega), hJxm hX2 s.mem⟩⟩
        · intro c2
          have c2' := c2; clear c2
          try simp only [decide_eq_true_eq, decide_eq_false_iff_not, Bool.not_eq_true', Bool.not_eq_false', Bool.and_eq_true, Bool.or_eq_true, Bool.and_eq_false_iff, Bool.or_eq_false_iff, Int.not_le, Int.not_lt] at c2'
          refine RunCR.skip ?_
          refine RunE.block_normal ?_
          refine RunER.next ?_
          refine RunCR.region ?_
          refine RunLR.val (Val.pure rfl) rfl rfl rfl ?_
          refine RunLR.val (Val.addN (a := j + 1) (b := 1) (j + 1 + 1) rfl rfl rfl (u64_in (by omega))) rfl rfl rfl ?_
          refine RunLR.val (Val.pure rfl) rfl rfl rfl ?_
          refine RunLR.nil ?_
          exact RunE.roundW (by omega) (fun w hm => (by first | exact ⟨by rw [fil_no (by omega)]; exact hJm hJj hm, hm.old_at hSj (by simp)⟩ | (rcases h23 with ⟨_, hJ2, hS2⟩ | ⟨h, _⟩; exact ⟨by rw [fil_yes (by omega), ← List.append_assoc]; exact hJm hJ2 hm, hm.old_at hS2 (by simp)⟩; rw [h] at c2'; cases c2'))) (Sub.consE (t := 4) rfl rfl (Sub.cons (t := 0) rfl (Sub.cons (t := 1) rfl (Sub.cons (t := 3) rfl (Sub.nil _)))))
      · intro g20
        have g20' := g20; clear g20
        try simp only [decide_eq_true_eq, decide_eq_false_iff_not, Bool.not_eq_true', Bool.not_eq_false', Bool.and_eq_true, Bool.or_eq_true, Bool.and_eq_false_iff, Bool.or_eq_false_iff, Int.not_le, Int.not_lt] at g20'
        iterate 4 refine RunLR.no rfl rfl rfl ?_
        refine RunLR.val (Val.pure rfl) rfl rfl rfl ?_
        refine RunLR.nil ?_
        refine RunER.next ?_
        refine RunCR.cond_false rfl ?_
        refine RunCR.skip ?_
        refine RunE.block_normal ?_
        refine RunER.next ?_
        refine RunCR.region ?_
        refine RunLR.val (Val.pure rfl) rfl rfl rfl ?_
        refine RunLR.val (Val.addN (a := j + 1) (b := 1) (j + 1 + 1) rfl rfl rfl (u64_in (by omega))) rfl rfl rfl ?_
        refine RunLR.val (Val.pure rfl) rfl rfl rfl ?_
        refine RunLR.nil ?_
        exact RunE.roundW (by omega) (fun w hm => (by first | exact ⟨by rw [fil_no (by omega)]; exact hJm hJj hm, hm.old_at hSj (by simp)⟩ | (rcases h23 with ⟨_, hJ2, hS2⟩ | ⟨h, _⟩; exact ⟨by rw [fil_yes (by omega), ← List.append_assoc]; exact hJm hJ2 hm, hm.old_at hS2 (by simp)⟩; rw [h] at c2'; cases c2'))) (Sub.consE (t := 4) rfl rfl (Sub.cons (t := 0) rfl (Sub.cons (t := 1) rfl (Sub.cons (t := 3) rfl (Sub.nil _)))))
    · intro c1
      have c1' := c1; clear c1
      try simp only [decide_eq_true_eq, decide_eq_false_iff_not, Bool.not_eq_true', Bool.not_eq_false', Bool.and_eq_true, Bool.or_eq_true, Bool.and_eq_false_iff, Bool.or_eq_false_iff, Int.not_le, Int.not_lt] at c1'
      have hjn : j + 1 = 2 ^ n := by omega
      have hall : setsP n (k + 1) = setsP n k ++ (List.range (j + 1)).filter (isK (k + 1)) := by rw [setsP_s, hjn]
      refine RunCR.exit ?_
      refine RunE.pass_exit ?_
      refine RunE.pass_exit ?_
      refine RunE.block_here ?_
      refine RunE.block_normal ?_
      refine RunER.next ?_
      refine RunCR.region ?_
      refine RunLR.val (Val.pure rfl) rfl rfl rfl ?_
      refine RunLR.val (Val.addN (a := k + 1) (b := 1) (k + 1 + 1) rfl rfl rfl (i64_inN (by omega))) rfl rfl rfl ?_
      refine RunLR.val (Val.pure rfl) rfl rfl rfl ?_
      refine RunLR.nil ?_
      exact RunE.roundW (by omega) (fun w hm => ⟨by rw [hall]; exact hJm hJj hm, hm.old_at hSj (by simp)⟩) (Sub.consE (t := 3) rfl rfl (Sub.cons (t := 0) rfl (Sub.cons (t := 1) rfl (Sub.nil _))))
  · intro c0
    have c0' := c0; clear c0
    try simp only [decide_eq_true_eq, decide_eq_false_iff_not, Bool.not_eq_true', Bool.not_eq_false', Bool.and_eq_true, Bool.or_eq_true, Bool.and_eq_false_iff, Bool.or_eq_false_iff, Int.not_le, Int.not_lt] at c0'
    obtain rfl : k = n := by omega
    refine RunCR.exit ?_
    refine RunE.pass_exit ?_
    refine RunE.pass_exit ?_
    refine RunE.block_here ?_
    intro a w2 s
    exact ⟨s.defers, _, results_none rfl _ _ _, ⟨_, rfl⟩, .inl ⟨_, rfl, hJm hJk s.mem⟩⟩
theorem sets_calls (n : Nat) (W : World) : Calls Tryd.prog 44 #[.int .i64 (n : Int)] W (News (fun b => .func (.func 65) #[] #[.pointer (some ⟨b, 0, none⟩)]) (fun b => [(b, nCell n)]) W) := by
  refine calls_start Tryd.func44 rfl rfl ?_
  refine RunC.seq ?_
  refine RunC.region ?_
  refine RunL.new (New.box rfl) rfl rfl rfl (fun b1 => ?_)
  refine RunL.val (Val.pure rfl) rfl rfl rfl ?_
  refine RunL.nil ?_
  refine RunE.next ?_
  refine RunC.seq ?_
  refine RunC.region ?_
  refine RunL.val (Val.pure rfl) rfl rfl rfl ?_
  refine RunL.val (Val.pure rfl) rfl rfl rfl ?_
  refine RunL.nil ?_
  refine RunE.next ?_
  refine RunC.ret ?_
  exact RunE.ret (chg := []) (.r1 rfl (.tmp rfl)) (fun _ hm => ⟨b1, rfl, hm⟩)
end Go.Proofs.YtlhdalcipflblaaDoor
/- The facts on the tables of types and on the entries of functions that the walks use. Written by program. -/
set_option linter.unusedSimpArgs false
set_option linter.unusedVariables false
namespace Go.Proofs.YtlhdalcipflblaaDoor
open Go Go.Eng
theorem ent_44 : Enters Tryd.prog 44 := enters_of Tryd.func44 (by kernel_rfl) rfl
theorem ent_65 : Enters Tryd.prog 65 := enters_of Tryd.func65 (by kernel_rfl) rfl
theorem ty_28 : tyB Tryd.prog 28 = some (false, 1) := by kernel_rfl
theorem zero_28 : zeroB Tryd.prog 28 = some [.int .i64 0] := by kernel_rfl
end Go.Proofs.YtlhdalcipflblaaDoor
/- Walks of package heap: Why. -/
set_option linter.unusedSimpArgs false
set_option linter.unusedVariables false
namespace Go.Hp
open Go Go.Eng Go.Pw1
theorem union_snoc (s : Nat) : ∀ (l : List Nat) (i f : Nat), unionL s i (l ++ [f]) = unionL s i l ||| (if s.testBit (i + l.length) then f else 0)
  | [], i, f => by simp [unionL]
  | g :: l, i, f => by
    simp only [List.cons_append, unionL, union_snoc s l (i + 1) f, List.length_cons]
    rw [show i + 1 + l.length = i + (l.length + 1) by omega, Nat.or_assoc]
theorem union_lt {s : Nat} {l : List Nat} (h : ∀ f ∈ l, f < 2 ^ 12) : ∀ i, unionL s i l < 2 ^ 12 := by
  induction l with
  | nil => intro i; exact (by decide : (0 : Nat) < 2 ^ 12)
  | cons f l ih =>
    intro i
    unfold unionL
    refine Nat.or_lt_two_pow ?_ (ih (fun f hf => h f (List.mem_cons_of_mem _ hf)) (i + 1))
    split
    · exact h f (List.mem_cons_self ..)
    · decide
theorem union_step {s k f : Nat} {l : List Nat} (hk : k < l.length) (hf : l[k] = f) : unionL s 0 (l.take (k + 1)) = unionL s 0 (l.take k) ||| (if s.testBit k then f else 0) := by
  rw [List.take_succ_eq_append_getElem hk, hf, union_snoc, List.length_take, Nat.min_eq_left (Nat.le_of_lt hk), Nat.zero_add]
theorem union_yes {s k f : Nat} {l : List Nat} (hk : k < l.length) (hf : l[k] = f) (h : s.testBit k = true) : unionL s 0 (l.take (k + 1)) = unionL s 0 (l.take k) ||| f := by rw [union_step hk hf, if_pos h]
theorem union_no {s k f : Nat} {l : List Nat} (hk : k < l.length) (hf : l[k] = f) (h : s.testBit k = false) : unionL s 0 (l.take (k + 1)) = unionL s 0 (l.take k) := by rw [union_step hk hf, if_neg (by simp [h]), Nat.or_zero]
theorem iv_snoc {fs pre : List Nat} {x : Nat} (h : ∀ s ∈ pre, shortX fs (s % 4096) = false) (hx : shortX fs (x % 4096) = false) : ∀ s ∈ pre ++ [x], shortX fs (s % 4096) = false := fun s hs => by
  rcases List.mem_append.1 hs with hs | hs
  · exact h s hs
  · rw [List.mem_singleton.1 hs]; exact hx
theorem sets_lt {n s : Nat} (hn : n ≤ 8) (h : s ∈ setsL n) : s % 4096 = s := by
  unfold setsL at h
  obtain ⟨k, _, h⟩ := List.mem_flatMap.1 h
  have h1 := List.mem_range.1 (List.mem_filter.1 h).1
  have h2 : 2 ^ n ≤ 2 ^ 8 := Nat.pow_le_pow_right (by decide) hn
  exact Nat.mod_eq_of_lt (by omega)
theorem why_none {m : MxA} (hX : mixedX m.pl = true) (h8 : m.cards.length ≤ 8) (h : ∀ s ∈ setsL m.cards.length, shortX (fsX m.pl) (s % 4096) = false) : WhyX m.pl = (0, 0) := by
  have e : whyL (fsX m.pl) = none := by
    unfold whyL
    rw [fs_len, List.find?_eq_none]
    intro s hs
    have := h s hs
    rw [sets_lt h8 hs] at this
    simp [this]
  unfold WhyX
  rw [if_pos hX, e]
theorem why_some {m : MxA} {pre rest : List Nat} {x : Nat} (hX : mixedX m.pl = true) (h8 : m.cards.length ≤ 8) (hr : pre ++ [x] ++ rest = setsL m.cards.length) (h : ∀ s ∈ pre, shortX (fsX m.pl) (s % 4096) = false) (hx : shortX (fsX m.pl) (x % 4096) = true) : WhyX m.pl = (((x % 4096 : Nat) : Int), 11) := by
  have hxm : x % 4096 = x := sets_lt h8 (by rw [← hr]; simp)
  have e : whyL (fsX m.pl) = some x := by
    unfold whyL
    rw [fs_len, ← hr, List.append_assoc, List.find?_append]
    have h1 : pre.find? (shortX (fsX m.pl)) = none := by
      rw [List.find?_eq_none]
      intro s hs
      have := h s hs
      rw [sets_lt h8 (by rw [← hr]; simp [hs])] at this
      simp [this]
    rw [hxm] at hx
    rw [h1]
    simp [hx]
  unfold WhyX
  rw [if_pos hX, e, hxm]
end Go.Hp
namespace Go.Proofs.YtlhdalcipflblaaDoor
open Go Go.Eng Go.Hp Go.Pw1

set_option maxHeartbeats 1000000 in
theorem why0_calls (m : MxA) (hsm : MSm m) (W : World) (hM : MOk W m) (hX : mixedX m.pl = true) (hc0 : m.cards.length = 0) : Calls Tryd.prog 16 #[m.v] W (Pure (.tuple #[.int .i64 (WhyX m.pl).1, .int .i64 (WhyX m.pl).2]) W) := by
  obtain ⟨h4, h8, h12⟩ := mixed_ok hX
  have hfl := fs_len m
  have hall12 : ∀ f ∈ (fsX m.pl), f < 2 ^ 12 := fun f hf => Nat.lt_of_lt_of_le (fs_lt m f hf) (Nat.pow_le_pow_right (by decide) h12)
  refine calls_start_marks Tryd.func16 rfl rfl ?_
  refine RunC.seq ?_
  refine RunC.region ?_
  refine RunL.new (New.box rfl) rfl rfl rfl (fun b1 => ?_)
  refine RunL.new (New.alloc zero_3) rfl rfl rfl (fun b2 => ?_)
  refine RunL.new (New.alloc zero_28) rfl rfl rfl (fun b3 => ?_)
  refine RunL.nil ?_
  refine RunE.next ?_
  refine RunC.seq ?_
  refine RunC.region ?_
  refine RunL.val (Val.load_agg rfl (.tail _ (.tail _ (.head _))) ty_25 rfl) rfl rfl rfl ?_
  refine RunL.callNT (isCall_func rfl ent_39) rfl rfl rfl (fun w hm => openH_calls m hsm w (hM.mono0 hm) hX) (fun z11 => ?_)
  obtain ⟨⟨bh11, bm11, x11, y11⟩, hx11, hy11⟩ := z11
  dsimp only
  iterate 3 refine RunL.val (Val.pure rfl) rfl rfl rfl ?_
  refine RunL.new (New.alloc zero_64) rfl rfl rfl (fun b4 => ?_)
  refine RunL.sto (Sto.store rfl rfl .here ty_64 rfl rfl) rfl rfl ?_
  refine RunL.sto (Sto.store rfl rfl (.there .here) ty_28 rfl rfl) rfl rfl ?_
  refine RunL.nil ?_
  refine RunE.next ?_
  refine RunC.seq ?_
  refine RunC.seq ?_
  refine RunC.region ?_
  refine RunL.val (Val.load_one rfl (.tail _ (.head _)) ty_28 rfl) rfl rfl rfl ?_
  refine RunL.val (Val.pure rfl) rfl rfl rfl ?_
  refine RunL.nil ?_
  refine RunE.next ?_
  refine RunC.cond rfl (fun h => absurd h (by simp)) ?_
  intro c0
  clear c0
  refine RunC.skip ?_
  refine RunE.next ?_
  refine RunC.seq ?_
  refine RunC.seq ?_
  refine RunC.region ?_
  refine RunL.val (Val.load_one rfl (.head _) ty_64 rfl) rfl rfl rfl ?_
  refine RunL.val (Val.pure rfl) rfl rfl rfl ?_
  refine RunL.val (Val.fieldAddr rfl fld_73_0) rfl rfl rfl ?_
  refine RunL.val (Val.fieldAddr rfl fld_25_1) rfl rfl rfl ?_
  refine RunL.val (Val.load_one rfl (.tail _ (.tail _ (.tail _ (.tail _ (.head _))))) ty_23 rfl) rfl rfl rfl ?_
  refine RunL.val (Val.len_sl rfl sl_23) rfl rfl rfl ?_
  refine RunL.callN (isCall_func rfl ent_44) rfl rfl rfl (fun w hm => sets_calls m.cards.length w) (fun b23 => ?_)
  refine RunL.nil ?_
  refine RunE.next ?_
  refine RunC.block ?_
  refine RunC.rangeHI (α := Nat) (Y := Unit) (N := 5000) (S := fun xs => xs = setsL m.cards.length) (Sp := fun pre => ∃ r, pre ++ r = setsL m.cards.length) [(b23, _), (b4, _), (b1, _), (bh11, _), (bm11, _)] (fun x => [.int .u64 ((x % 4096 : Nat) : Int)]) (fun pre => [(b2, .cells [.int .i64 0].toArray 3 (0, 0)), (b3, .cells [.int .i64 0].toArray 28 (0, 0))]) (fun x y q => (5, .int .u64 ((x % 4096 : Nat) : Int)) :: q) (fun x y => []) (fun e pre V => e = .ret ∧ ∃ pre0 x, pre = pre0 ++ [x] ∧ (∀ s ∈ pre0, shortX (fsX m.pl) (s % 4096) = false) ∧ shortX (fsX m.pl) (x % 4096) = true ∧ V = [(b2, .cells [.int .i64 ((x % 4096 : Nat) : Int)].toArray 3 (0, 0)), (b3, .cells [.int .i64 11].toArray 28 (0, 0))]) (fun pre => ∀ s ∈ pre, shortX (fsX m.pl) (s % 4096) = false) (fun s hs => by cases hs) (Sub.cons (t := 2) rfl (Sub.cons (t := 3) rfl (Sub.cons (t := 4) rfl (Sub.nil _)))) (.cons (.there (.there (.there .here))) rfl (.cons (.there (.there .here)) rfl (.cons .here rfl (.cons .here rfl (.cons .here rfl (.cons .here rfl (.cons .here rfl .nil))))))) (fun _ => rfl) (fun _ _ _ hb => by simp only [List.mem_cons, List.not_mem_nil, or_false, Prod.mk.injEq] at hb; rcases hb with ⟨_, rfl⟩ | ⟨_, rfl⟩ <;> rfl) (fun _ _ _ _ hb => by cases hb) (fun _ => rfl) rfl rfl ent_65 (fun w hm => sets_stops m.cards.length h8 b23 w _ (hm.at (.tail _ (.tail _ (.head _)))) (hm.apart (.head _))) ?_ ?_ ?_ ?_
  · intro l1 pre x V1 hV1
    refine RunCR.regionP ?_
    refine RunL.val (Val.pure rfl) rfl rfl rfl ?_
    refine RunL.nil ?_
    exact RunE.asg () rfl (Sub.consE (t := 5) rfl rfl (Sub.cons (t := 2) rfl (Sub.cons (t := 3) rfl (Sub.cons (t := 4) rfl (Sub.nil _))))) .nil
  · intro l1 pre x y W1 hlen1 hIv1 hI1 hL1 hAp1
    have hv1_b23 := hI1.at (.tail _ (.tail _ (.head _)))
    have hn1_b23 := hAp1 _ (.inl ⟨_, (.head _)⟩)
    have hv1_b4 := hI1.at (.tail _ (.tail _ (.tail _ (.head _))))
    have hn1_b4 := hAp1 _ (.inl ⟨_, (.tail _ (.head _))⟩)
    have hv1_b1 := hI1.at (.tail _ (.tail _ (.tail _ (.tail _ (.head _)))))
    have hn1_b1 := hAp1 _ (.inl ⟨_, (.tail _ (.tail _ (.head _)))⟩)
    have hv1_bh11 := hI1.at (.tail _ (.tail _ (.tail _ (.tail _ (.tail _ (.head _))))))
    have hn1_bh11 := hAp1 _ (.inl ⟨_, (.tail _ (.tail _ (.tail _ (.head _))))⟩)
    have hv1_bm11 := hI1.at (.tail _ (.tail _ (.tail _ (.tail _ (.tail _ (.tail _ (.head _)))))))
    have hn1_bm11 := hAp1 _ (.inl ⟨_, (.tail _ (.tail _ (.tail _ (.tail _ (.head _)))))⟩)
    obtain ⟨s, hsx⟩ : ∃ s, x % 4096 = s := ⟨_, rfl⟩
    have hs4 : s < 4096 := by omega
    have hua := union_lt (s := s) hall12 0
    rw [hsx]
    refine RunCR.block ?_
    refine RunCR.seq ?_
    refine RunCR.regionP ?_
    refine RunL.val (Val.pure rfl) rfl rfl rfl ?_
    refine RunL.nil ?_
    refine RunER.next ?_
    refine RunCR.seq ?_
    refine RunCR.seq ?_
    refine RunCR.regionP ?_
    refine RunL.val (Val.oload_one rfl hv1_b4 (notin_of rfl hn1_b4) ty_64 rfl) rfl rfl rfl ?_
    refine RunL.val (Val.pure rfl) rfl rfl rfl ?_
    refine RunL.val (Val.fieldAddr rfl fld_73_2) rfl rfl rfl ?_
    refine RunL.val (Val.oload_one rfl hv1_bh11 (notin_of rfl hn1_bh11) ty_70 rfl) rfl rfl rfl ?_
    refine RunL.val (Val.len_sl rfl sl_70) rfl rfl rfl ?_
    refine RunL.val (Val.pure rfl) rfl rfl rfl ?_
    refine RunL.nil ?_
    refine RunER.next ?_
    refine RunCR.block ?_
    refine RunCR.loopK ((fsX m.pl).length) (fun k q => (30, .int .i64 (k : Int)) :: (6, .int .u64 ((unionL s 0 ((fsX m.pl).take k) : Nat) : Int)) :: q) (fun _ => _) (fun _ => []) (fun _ => True) trivial rfl (Sub.consE (t := 30) rfl rfl (Sub.consE (t := 6) rfl rfl (Sub.cons (t := 2) rfl (Sub.cons (t := 3) rfl (Sub.cons (t := 4) rfl (Sub.cons (t := 5) rfl (Sub.cons (t := 28) rfl (Sub.cons (t := 29) rfl (Sub.nil _))))))))) .nil ?_
    intro k kN kI
    clear kI
    refine RunCR.seq ?_
    refine RunCR.regionP ?_
    refine RunL.val (Val.pure rfl) rfl rfl rfl ?_
    refine RunL.nil ?_
    refine RunER.next ?_
    refine RunCR.seq ?_
    refine RunCR.cond rfl (fun h => absurd h (by simp; omega)) ?_
    intro c1
    clear c1
    have hkn : k = (fsX m.pl).length := by omega
    simp only [hkn, List.take_length]
    refine RunCR.exit ?_
    refine RunE.pass_exit ?_
    refine RunE.pass_exit ?_
    refine RunE.block_here ?_
    refine RunER.next ?_
    refine RunCR.seq ?_
    refine RunCR.regionP ?_
    refine RunL.val (Val.pure rfl) rfl rfl rfl ?_
    refine RunL.callP (isCall_func rfl ent_47) rfl rfl rfl (fun w hm => size_calls (unionL s 0 (fsX m.pl)) hua w) ?_
    refine RunL.val (Val.pure rfl) rfl rfl rfl ?_
    refine RunL.callP (isCall_func rfl ent_47) rfl rfl rfl (fun w hm => size_calls s hs4 w) ?_
    refine RunL.val (Val.pure rfl) rfl rfl rfl ?_
    refine RunL.nil ?_
    refine RunER.next ?_
    refine RunCR.cond rfl ?_ ?_
    · intro c3
      have c3' := c3; clear c3
      try simp only [decide_eq_true_eq, decide_eq_false_iff_not, Bool.not_eq_true', Bool.not_eq_false', Bool.and_eq_true, Bool.or_eq_true, Bool.and_eq_false_iff, Bool.or_eq_false_iff, Int.not_le, Int.not_lt] at c3'
      have hsh : shortX (fsX m.pl) (x % 4096) = true := by (rw [hsx]; exact decide_eq_true (by omega))
      refine RunCR.seq ?_
      refine RunCR.regionP ?_
      refine RunL.val (Val.pure rfl) rfl rfl rfl ?_
      refine RunL.val (Val.convInt rfl und_68 und_3 (IntWalk.i64_in _ ⟨by omega, by omega⟩)) rfl rfl rfl ?_
      refine RunL.sto (Sto.store_chg rfl rfl .here ty_3 rfl rfl) rfl rfl ?_
      refine RunL.sto (Sto.store_chg rfl rfl (.there .here) ty_28 rfl rfl) rfl rfl ?_
      refine RunL.nil ?_
      refine RunER.next ?_
      refine RunCR.ret ?_
      refine RunE.block_ret ?_
      refine RunE.bodyI_ret ?_
      exact RunE.bodyX_ret [(b2, _), (b3, _)] [] ⟨rfl, pre, x, rfl, hIv1, hsh, (by rw [hsx])⟩ rfl
    · intro c3
      have c3' := c3; clear c3
      try simp only [decide_eq_true_eq, decide_eq_false_iff_not, Bool.not_eq_true', Bool.not_eq_false', Bool.and_eq_true, Bool.or_eq_true, Bool.and_eq_false_iff, Bool.or_eq_false_iff, Int.not_le, Int.not_lt] at c3'
      have hsh : shortX (fsX m.pl) (x % 4096) = false := by (rw [hsx]; exact decide_eq_false (by omega))
      refine RunCR.skip ?_
      refine RunE.block_normal ?_
      refine RunE.bodyI (iv_snoc hIv1 hsh) ?_
      exact RunE.bodyX [] rfl
  · intro xs bD0 hXS hXI
    obtain rfl := hXS
    have e9 : WhyX m.pl = (0, 0) := why_none hX h8 hXI
    rw [e9]
    refine RunE.block_normal ?_
    refine RunE.next ?_
    refine RunC.seq ?_
    refine RunC.region ?_
    refine RunL.sto (Sto.store rfl rfl (.there .here) ty_3 rfl rfl) rfl rfl ?_
    refine RunL.sto (Sto.store rfl rfl (.there (.there .here)) ty_28 rfl rfl) rfl rfl ?_
    refine RunL.nil ?_
    refine RunE.next ?_
    refine RunC.ret ?_
    exact RunE.outM [bD0] (.cons .here rfl (.cons .here rfl (.cons .here rfl (.cons .here rfl (.cons .here rfl (.cons .here rfl (.cons .here rfl (.cons .here rfl .nil)))))))) (.r2 rfl (.one rfl (.head _) ty_3 rfl) (.one rfl (.tail _ (.head _)) ty_28 rfl)) (out_pure (by rfl))
  · intro c pre V' bD0 hSp hNm hSt
    obtain ⟨rfl, pre0, x, rfl, hbef, hsh, rfl⟩ := hSt
    obtain ⟨rest, hrest⟩ := hSp
    have e9 : WhyX m.pl = (((x % 4096 : Nat) : Int), 11) := why_some hX h8 hrest hbef hsh
    rw [e9]
    refine RunC.ret ?_
    refine RunE.block_ret ?_
    refine RunE.pass_ret ?_
    exact RunE.outM [bD0] (.cons .here rfl (.cons .here rfl (.cons .here rfl (.cons .here rfl (.cons .here rfl (.cons .here rfl (.cons .here rfl (.cons .here rfl .nil)))))))) (.r2 rfl (.one rfl (.head _) ty_3 rfl) (.one rfl (.tail _ (.head _)) ty_28 rfl)) (out_pure (by rfl))
set_option maxHeartbeats 1000000 in
theorem why1_calls (m : MxA) (hsm : MSm m) (W : World) (hM : MOk W m) (hX : mixedX m.pl = true) (hc0 : 0 < m.cards.length) : Calls Tryd.prog 16 #[m.v] W (Pure (.tuple #[.int .i64 (WhyX m.pl).1, .int .i64 (WhyX m.pl).2]) W) := by
  obtain ⟨h4, h8, h12⟩ := mixed_ok hX
  have hfl := fs_len m
  have hall12 : ∀ f ∈ (fsX m.pl), f < 2 ^ 12 := fun f hf => Nat.lt_of_lt_of_le (fs_lt m f hf) (Nat.pow_le_pow_right (by decide) h12)
  refine calls_start_marks Tryd.func16 rfl rfl ?_
  refine RunC.seq ?_
  refine RunC.region ?_
  refine RunL.new (New.box rfl) rfl rfl rfl (fun b1 => ?_)
  refine RunL.new (New.alloc zero_3) rfl rfl rfl (fun b2 => ?_)
  refine RunL.new (New.alloc zero_28) rfl rfl rfl (fun b3 => ?_)
  refine RunL.nil ?_
  refine RunE.next ?_
  refine RunC.seq ?_
  refine RunC.region ?_
  refine RunL.val (Val.load_agg rfl (.tail _ (.tail _ (.head _))) ty_25 rfl) rfl rfl rfl ?_
  refine RunL.callNT (isCall_func rfl ent_39) rfl rfl rfl (fun w hm => openH_calls m hsm w (hM.mono0 hm) hX) (fun z11 => ?_)
  obtain ⟨⟨bh11, bm11, x11, y11⟩, hx11, hy11⟩ := z11
  obtain ⟨bf11, cf11, rf11, e11, -, -, -⟩ := OwnOk.has hy11 (by omega)
  dsimp only at e11
  subst e11
  dsimp only
  iterate 3 refine RunL.val (Val.pure rfl) rfl rfl rfl ?_
  refine RunL.new (New.alloc zero_64) rfl rfl rfl (fun b4 => ?_)
  refine RunL.sto (Sto.store rfl rfl .here ty_64 rfl rfl) rfl rfl ?_
  refine RunL.sto (Sto.store rfl rfl (.there .here) ty_28 rfl rfl) rfl rfl ?_
  refine RunL.nil ?_
  refine RunE.next ?_
  refine RunC.seq ?_
  refine RunC.seq ?_
  refine RunC.region ?_
  refine RunL.val (Val.load_one rfl (.tail _ (.head _)) ty_28 rfl) rfl rfl rfl ?_
  refine RunL.val (Val.pure rfl) rfl rfl rfl ?_
  refine RunL.nil ?_
  refine RunE.next ?_
  refine RunC.cond rfl (fun h => absurd h (by simp)) ?_
  intro c0
  clear c0
  refine RunC.skip ?_
  refine RunE.next ?_
  refine RunC.seq ?_
  refine RunC.seq ?_
  refine RunC.region ?_
  refine RunL.val (Val.load_one rfl (.head _) ty_64 rfl) rfl rfl rfl ?_
  refine RunL.val (Val.pure rfl) rfl rfl rfl ?_
  refine RunL.val (Val.fieldAddr rfl fld_73_0) rfl rfl rfl ?_
  refine RunL.val (Val.fieldAddr rfl fld_25_1) rfl rfl rfl ?_
  refine RunL.val (Val.load_one rfl (.tail _ (.tail _ (.tail _ (.tail _ (.head _))))) ty_23 rfl) rfl rfl rfl ?_
  refine RunL.val (Val.len_sl rfl sl_23) rfl rfl rfl ?_
  refine RunL.callN (isCall_func rfl ent_44) rfl rfl rfl (fun w hm => sets_calls m.cards.length w) (fun b23 => ?_)
  refine RunL.nil ?_
  refine RunE.next ?_
  refine RunC.block ?_
  refine RunC.rangeHI (α := Nat) (Y := Unit) (N := 5000) (S := fun xs => xs = setsL m.cards.length) (Sp := fun pre => ∃ r, pre ++ r = setsL m.cards.length) [(b23, _), (b4, _), (b1, _), (bh11, _), (bm11, _), (bf11, _)] (fun x => [.int .u64 ((x % 4096 : Nat) : Int)]) (fun pre => [(b2, .cells [.int .i64 0].toArray 3 (0, 0)), (b3, .cells [.int .i64 0].toArray 28 (0, 0))]) (fun x y q => (5, .int .u64 ((x % 4096 : Nat) : Int)) :: q) (fun x y => []) (fun e pre V => e = .ret ∧ ∃ pre0 x, pre = pre0 ++ [x] ∧ (∀ s ∈ pre0, shortX (fsX m.pl) (s % 4096) = false) ∧ shortX (fsX m.pl) (x % 4096) = true ∧ V = [(b2, .cells [.int .i64 ((x % 4096 : Nat) : Int)].toArray 3 (0, 0)), (b3, .cells [.int .i64 11].toArray 28 (0, 0))]) (fun pre => ∀ s ∈ pre, shortX (fsX m.pl) (s % 4096) = false) (fun s hs => by cases hs) (Sub.cons (t := 2) rfl (Sub.cons (t := 3) rfl (Sub.cons (t := 4) rfl (Sub.nil _)))) (.cons (.there (.there (.there .here))) rfl (.cons (.there (.there .here)) rfl (.cons .here rfl (.cons .here rfl (.cons .here rfl (.cons .here rfl (.cons .here rfl (.cons .here rfl .nil)))))))) (fun _ => rfl) (fun _ _ _ hb => by simp only [List.mem_cons, List.not_mem_nil, or_false, Prod.mk.injEq] at hb; rcases hb with ⟨_, rfl⟩ | ⟨_, rfl⟩ <;> rfl) (fun _ _ _ _ hb => by cases hb) (fun _ => rfl) rfl rfl ent_65 (fun w hm => sets_stops m.cards.length h8 b23 w _ (hm.at (.tail _ (.tail _ (.head _)))) (hm.apart (.head _))) ?_ ?_ ?_ ?_
  · intro l1 pre x V1 hV1
    refine RunCR.regionP ?_
    refine RunL.val (Val.pure rfl) rfl rfl rfl ?_
    refine RunL.nil ?_
    exact RunE.asg () rfl (Sub.consE (t := 5) rfl rfl (Sub.cons (t := 2) rfl (Sub.cons (t := 3) rfl (Sub.cons (t := 4) rfl (Sub.nil _))))) .nil
  · intro l1 pre x y W1 hlen1 hIv1 hI1 hL1 hAp1
    have hv1_b23 := hI1.at (.tail _ (.tail _ (.head _)))
    have hn1_b23 := hAp1 _ (.inl ⟨_, (.head _)⟩)
    have hv1_b4 := hI1.at (.tail _ (.tail _ (.tail _ (.head _))))
    have hn1_b4 := hAp1 _ (.inl ⟨_, (.tail _ (.head _))⟩)
    have hv1_b1 := hI1.at (.tail _ (.tail _ (.tail _ (.tail _ (.head _)))))
    have hn1_b1 := hAp1 _ (.inl ⟨_, (.tail _ (.tail _ (.head _)))⟩)
    have hv1_bh11 := hI1.at (.tail _ (.tail _ (.tail _ (.tail _ (.tail _ (.head _))))))
    have hn1_bh11 := hAp1 _ (.inl ⟨_, (.tail _ (.tail _ (.tail _ (.head _))))⟩)
    have hv1_bm11 := hI1.at (.tail _ (.tail _ (.tail _ (.tail _ (.tail _ (.tail _ (.head _)))))))
    have hn1_bm11 := hAp1 _ (.inl ⟨_, (.tail _ (.tail _ (.tail _ (.tail _ (.head _)))))⟩)
    have hv1_bf11 := hI1.at (.tail _ (.tail _ (.tail _ (.tail _ (.tail _ (.tail _ (.tail _ (.head _))))))))
    have hn1_bf11 := hAp1 _ (.inl ⟨_, (.tail _ (.tail _ (.tail _ (.tail _ (.tail _ (.head _))))))⟩)
    obtain ⟨s, hsx⟩ : ∃ s, x % 4096 = s := ⟨_, rfl⟩
    have hs4 : s < 4096 := by omega
    have hua := union_lt (s := s) hall12 0
    rw [hsx]
    have hSf : Sl W1 (some ⟨bf11, 0, none⟩) bf11 0 1 (setsV (fsX m.pl)) := stB_sl (z := (bf11, cf11, rf11)) hv1_bf11
    refine RunCR.block ?_
    refine RunCR.seq ?_
    refine RunCR.regionP ?_
    refine RunL.val (Val.pure rfl) rfl rfl rfl ?_
    refine RunL.nil ?_
    refine RunER.next ?_
    refine RunCR.seq ?_
    refine RunCR.seq ?_
    refine RunCR.regionP ?_
    refine RunL.val (Val.oload_one rfl hv1_b4 (notin_of rfl hn1_b4) ty_64 rfl) rfl rfl rfl ?_
    refine RunL.val (Val.pure rfl) rfl rfl rfl ?_
    refine RunL.val (Val.fieldAddr rfl fld_73_2) rfl rfl rfl ?_
    refine RunL.val (Val.oload_one rfl hv1_bh11 (notin_of rfl hn1_bh11) ty_70 rfl) rfl rfl rfl ?_
    refine RunL.val (Val.len_sl rfl sl_70) rfl rfl rfl ?_
    refine RunL.val (Val.pure rfl) rfl rfl rfl ?_
    refine RunL.nil ?_
    refine RunER.next ?_
    refine RunCR.block ?_
    refine RunCR.loopK ((fsX m.pl).length) (fun k q => (30, .int .i64 (k : Int)) :: (6, .int .u64 ((unionL s 0 ((fsX m.pl).take k) : Nat) : Int)) :: q) (fun _ => _) (fun _ => []) (fun _ => True) trivial rfl (Sub.consE (t := 30) rfl rfl (Sub.consE (t := 6) rfl rfl (Sub.cons (t := 2) rfl (Sub.cons (t := 3) rfl (Sub.cons (t := 4) rfl (Sub.cons (t := 5) rfl (Sub.cons (t := 28) rfl (Sub.cons (t := 29) rfl (Sub.nil _))))))))) .nil ?_
    intro k kN kI
    clear kI
    refine RunCR.seq ?_
    refine RunCR.regionP ?_
    refine RunL.val (Val.pure rfl) rfl rfl rfl ?_
    refine RunL.nil ?_
    refine RunER.next ?_
    refine RunCR.seq ?_
    refine RunCR.cond rfl ?_ ?_
    · intro c1
      have c1' := c1; clear c1
      try simp only [decide_eq_true_eq, decide_eq_false_iff_not, Bool.not_eq_true', Bool.not_eq_false', Bool.and_eq_true, Bool.or_eq_true, Bool.and_eq_false_iff, Bool.or_eq_false_iff, Int.not_le, Int.not_lt] at c1'
      have hk : k < (fsX m.pl).length := by omega
      obtain ⟨f, hf⟩ : ∃ f, (fsX m.pl)[k] = f := ⟨_, rfl⟩
      have hf12 := hall12 f (hf ▸ List.getElem_mem hk)
      have hu := union_lt (s := s) (fun x hx => hall12 x (List.mem_of_mem_take hx)) 0 (l := (fsX m.pl).take k)
      refine RunCR.skip ?_
      refine RunER.next ?_
      refine RunCR.seq ?_
      refine RunCR.block ?_
      refine RunCR.seq ?_
      refine RunCR.regionP ?_
      refine RunL.val (Val.pure rfl) rfl rfl rfl ?_
      refine RunL.val (Val.indexAddr_sl rfl rfl sl_70 (by omega) (by omega)) rfl rfl rfl ?_
      refine RunL.val (Val.load_gen rfl (fun w hm => hSf.loadM1 (by decide) hm (notin_of rfl hn1_bf11) ty_68 hk (v := .int .u64 (f : Int)) (by simp [hf]))) rfl rfl rfl ?_
      refine RunL.val (Val.pure rfl) rfl rfl rfl ?_
      refine RunL.val (Val.pure rfl) rfl rfl rfl ?_
      refine RunL.nil ?_
      refine RunER.next ?_
      refine RunCR.seq ?_
      refine RunCR.regionP ?_
      refine RunL.val (Val.pure rfl) rfl rfl rfl ?_
      refine RunL.val (Val.pure rfl) rfl rfl rfl ?_
      refine RunL.callP (isCall_func rfl ent_45) rfl rfl rfl (fun w hm => has_calls s k (by omega) (by omega) w) ?_
      refine RunL.nil ?_
      refine RunER.next ?_
      refine RunCR.cond rfl ?_ ?_
      · intro c2
        have c2' := c2; clear c2
        try simp only [decide_eq_true_eq, decide_eq_false_iff_not, Bool.not_eq_true', Bool.not_eq_false', Bool.and_eq_true, Bool.or_eq_true, Bool.and_eq_false_iff, Bool.or_eq_false_iff, Int.not_le, Int.not_lt] at c2'
        refine RunCR.regionP ?_
        refine RunL.val (Val.pure rfl) rfl rfl rfl ?_
        refine RunL.val (Val.pure rfl) rfl rfl rfl ?_
        refine RunL.new (New.buildSlice (parts := [(0, .tmp 38), (1, .tmp 39)]) rfl sl_70 zero_68 rfl rfl rfl rfl) rfl rfl rfl (fun b40 => ?_)
        refine RunL.callP (isCall_func rfl ent_46) rfl rfl rfl (fun w hm => union2_calls (unionL s 0 ((fsX m.pl).take k)) f hu hf12 b40 w (hm.at (.tail _ (.tail _ (.head _))))) ?_
        refine RunL.val (Val.pure rfl) rfl rfl rfl ?_
        refine RunL.nil ?_
        refine RunE.block_normal ?_
        refine RunER.next ?_
        refine RunCR.regionP ?_
        refine RunL.val (Val.add rfl rfl (IntWalk.i64_in _ ⟨by omega, by omega⟩)) rfl rfl rfl ?_
        refine RunL.val (Val.pure rfl) rfl rfl rfl ?_
        refine RunL.nil ?_
        exact RunE.round (by omega) trivial rfl (Sub.consE (t := 30) rfl rfl (Sub.consE (t := 6) rfl (by first | rw [union_yes hk hf c2'] | rw [union_no hk hf c2']) (Sub.cons (t := 2) rfl (Sub.cons (t := 3) rfl (Sub.cons (t := 4) rfl (Sub.cons (t := 5) rfl (Sub.cons (t := 28) rfl (Sub.cons (t := 29) rfl (Sub.nil _))))))))) .nil
      · intro c2
        have c2' := c2; clear c2
        try simp only [decide_eq_true_eq, decide_eq_false_iff_not, Bool.not_eq_true', Bool.not_eq_false', Bool.and_eq_true, Bool.or_eq_true, Bool.and_eq_false_iff, Bool.or_eq_false_iff, Int.not_le, Int.not_lt] at c2'
        refine RunCR.skip ?_
        refine RunE.block_normal ?_
        refine RunER.next ?_
        refine RunCR.regionP ?_
        refine RunL.val (Val.add rfl rfl (IntWalk.i64_in _ ⟨by omega, by omega⟩)) rfl rfl rfl ?_
        refine RunL.val (Val.pure rfl) rfl rfl rfl ?_
        refine RunL.nil ?_
        exact RunE.round (by omega) trivial rfl (Sub.consE (t := 30) rfl rfl (Sub.consE (t := 6) rfl (by first | rw [union_yes hk hf c2'] | rw [union_no hk hf c2']) (Sub.cons (t := 2) rfl (Sub.cons (t := 3) rfl (Sub.cons (t := 4) rfl (Sub.cons (t := 5) rfl (Sub.cons (t := 28) rfl (Sub.cons (t := 29) rfl (Sub.nil _))))))))) .nil
    · intro c1
      have c1' := c1; clear c1
      try simp only [decide_eq_true_eq, decide_eq_false_iff_not, Bool.not_eq_true', Bool.not_eq_false', Bool.and_eq_true, Bool.or_eq_true, Bool.and_eq_false_iff, Bool.or_eq_false_iff, Int.not_le, Int.not_lt] at c1'
      have hkn : k = (fsX m.pl).length := by omega
      simp only [hkn, List.take_length]
      refine RunCR.exit ?_
      refine RunE.pass_exit ?_
      refine RunE.pass_exit ?_
      refine RunE.block_here ?_
      refine RunER.next ?_
      refine RunCR.seq ?_
      refine RunCR.regionP ?_
      refine RunL.val (Val.pure rfl) rfl rfl rfl ?_
      refine RunL.callP (isCall_func rfl ent_47) rfl rfl rfl (fun w hm => size_calls (unionL s 0 (fsX m.pl)) hua w) ?_
      refine RunL.val (Val.pure rfl) rfl rfl rfl ?_
      refine RunL.callP (isCall_func rfl ent_47) rfl rfl rfl (fun w hm => size_calls s hs4 w) ?_
      refine RunL.val (Val.pure rfl) rfl rfl rfl ?_
      refine RunL.nil ?_
      refine RunER.next ?_
      refine RunCR.cond rfl ?_ ?_
      · intro c3
        have c3' := c3; clear c3
        try simp only [decide_eq_true_eq, decide_eq_false_iff_not, Bool.not_eq_true', Bool.not_eq_false', Bool.and_eq_true, Bool.or_eq_true, Bool.and_eq_false_iff, Bool.or_eq_false_iff, Int.not_le, Int.not_lt] at c3'
        have hsh : shortX (fsX m.pl) (x % 4096) = true := by (rw [hsx]; exact decide_eq_true (by omega))
        refine RunCR.seq ?_
        refine RunCR.regionP ?_
        refine RunL.val (Val.pure rfl) rfl rfl rfl ?_
        refine RunL.val (Val.convInt rfl und_68 und_3 (IntWalk.i64_in _ ⟨by omega, by omega⟩)) rfl rfl rfl ?_
        refine RunL.sto (Sto.store_chg rfl rfl .here ty_3 rfl rfl) rfl rfl ?_
        refine RunL.sto (Sto.store_chg rfl rfl (.there .here) ty_28 rfl rfl) rfl rfl ?_
        refine RunL.nil ?_
        refine RunER.next ?_
        refine RunCR.ret ?_
        refine RunE.block_ret ?_
        refine RunE.bodyI_ret ?_
        exact RunE.bodyX_ret [(b2, _), (b3, _)] [] ⟨rfl, pre, x, rfl, hIv1, hsh, (by rw [hsx])⟩ rfl
      · intro c3
        have c3' := c3; clear c3
        try simp only [decide_eq_true_eq, decide_eq_false_iff_not, Bool.not_eq_true', Bool.not_eq_false', Bool.and_eq_true, Bool.or_eq_true, Bool.and_eq_false_iff, Bool.or_eq_false_iff, Int.not_le, Int.not_lt] at c3'
        have hsh : shortX (fsX m.pl) (x % 4096) = false := by (rw [hsx]; exact decide_eq_false (by omega))
        refine RunCR.skip ?_
        refine RunE.block_normal ?_
        refine RunE.bodyI (iv_snoc hIv1 hsh) ?_
        exact RunE.bodyX [] rfl
  · intro xs bD0 hXS hXI
    obtain rfl := hXS
    have e9 : WhyX m.pl = (0, 0) := why_none hX h8 hXI
    rw [e9]
    refine RunE.block_normal ?_
    refine RunE.next ?_
    refine RunC.seq ?_
    refine RunC.region ?_
    refine RunL.sto (Sto.store rfl rfl (.there .here) ty_3 rfl rfl) rfl rfl ?_
    refine RunL.sto (Sto.store rfl rfl (.there (.there .here)) ty_28 rfl rfl) rfl rfl ?_
    refine RunL.nil ?_
    refine RunE.next ?_
    refine RunC.ret ?_
    exact RunE.outM [bD0] (.cons .here rfl (.cons .here rfl (.cons .here rfl (.cons .here rfl (.cons .here rfl (.cons .here rfl (.cons .here rfl (.cons .here rfl (.cons .here rfl .nil))))))))) (.r2 rfl (.one rfl (.head _) ty_3 rfl) (.one rfl (.tail _ (.head _)) ty_28 rfl)) (out_pure (by rfl))
  · intro c pre V' bD0 hSp hNm hSt
    obtain ⟨rfl, pre0, x, rfl, hbef, hsh, rfl⟩ := hSt
    obtain ⟨rest, hrest⟩ := hSp
    have e9 : WhyX m.pl = (((x % 4096 : Nat) : Int), 11) := why_some hX h8 hrest hbef hsh
    rw [e9]
    refine RunC.ret ?_
    refine RunE.block_ret ?_
    refine RunE.pass_ret ?_
    exact RunE.outM [bD0] (.cons .here rfl (.cons .here rfl (.cons .here rfl (.cons .here rfl (.cons .here rfl (.cons .here rfl (.cons .here rfl (.cons .here rfl (.cons .here rfl .nil))))))))) (.r2 rfl (.one rfl (.head _) ty_3 rfl) (.one rfl (.tail _ (.head _)) ty_28 rfl)) (out_pure (by rfl))
set_option maxHeartbeats 1000000 in
theorem why_calls (m : MxA) (hsm : MSm m) (W : World) (hM : MOk W m) : Calls Tryd.prog 16 #[m.v] W (Pure (.tuple #[.int .i64 (WhyX m.pl).1, .int .i64 (WhyX m.pl).2]) W) := by
  cases hX : mixedX m.pl with
  | false =>
    have e : WhyX m.pl = (0, 1) := by unfold WhyX; rw [hX]; rfl
    rw [e]
    refine calls_start_marks Tryd.func16 rfl rfl ?_
    refine RunC.seq ?_
    refine RunC.region ?_
    refine RunL.new (New.box rfl) rfl rfl rfl (fun b1 => ?_)
    refine RunL.new (New.alloc zero_3) rfl rfl rfl (fun b2 => ?_)
    refine RunL.new (New.alloc zero_28) rfl rfl rfl (fun b3 => ?_)
    refine RunL.nil ?_
    refine RunE.next ?_
    refine RunC.seq ?_
    refine RunC.region ?_
    refine RunL.val (Val.load_agg rfl (.tail _ (.tail _ (.head _))) ty_25 rfl) rfl rfl rfl ?_
    refine RunL.callP (isCall_func rfl ent_39) rfl rfl rfl (fun w hm => openH_err m hsm w (hM.mono0 hm) hX) ?_
    iterate 3 refine RunL.val (Val.pure rfl) rfl rfl rfl ?_
    refine RunL.new (New.alloc zero_64) rfl rfl rfl (fun b4 => ?_)
    refine RunL.sto (Sto.store rfl rfl .here ty_64 rfl rfl) rfl rfl ?_
    refine RunL.sto (Sto.store rfl rfl (.there .here) ty_28 rfl rfl) rfl rfl ?_
    refine RunL.nil ?_
    refine RunE.next ?_
    refine RunC.seq ?_
    refine RunC.seq ?_
    refine RunC.region ?_
    refine RunL.val (Val.load_one rfl (.tail _ (.head _)) ty_28 rfl) rfl rfl rfl ?_
    refine RunL.val (Val.pure rfl) rfl rfl rfl ?_
    refine RunL.nil ?_
    refine RunE.next ?_
    refine RunC.cond rfl ?_ (fun h => absurd h (by simp))
    intro c0
    clear c0
    refine RunC.seq ?_
    refine RunC.drawN 2 fol_ (.cons .here rfl (.cons .here rfl (.cons (.there .here) rfl .nil))) ?_
    refine RunA.val (i := 0) rfl (by kernel_rfl) (by kernel_rfl) (Val.load_one rfl (.tail _ (.head _)) ty_28 rfl) rfl rfl rfl (fun _ _ _ h => h) (.cons .here rfl (.cons .here rfl (.cons (.there .here) rfl .nil))) rfl ?_
    refine RunA.one (i := 1) (by kernel_rfl) (by kernel_rfl) ?_
    refine RunI.sto rfl (Sto.store rfl rfl (.there (.there .here)) ty_3 rfl rfl) rfl rfl (RunK.toA (.cons .here rfl (.cons .here rfl (.cons (.there .here) rfl .nil))) (.cons .here rfl (.cons .here rfl (.cons .here rfl .nil))) rfl ?_)
    refine RunA.toB (by kernel_rfl) ?_
    refine RunB.one (i := 2) (by kernel_rfl) ?_
    refine RunI.sto rfl (Sto.store rfl rfl (.there .here) ty_28 rfl rfl) rfl rfl (RunK.toB ?_)
    refine RunB.done (by kernel_rfl) ?_
    refine RunE.noPan ?_
    refine RunE.next ?_
    refine RunC.ret ?_
    refine RunE.pass_ret ?_
    exact RunE.outM [] (.cons .here rfl (.cons .here rfl (.cons .here rfl (.cons .here rfl .nil)))) (.r2 rfl (.one rfl (.tail _ (.tail _ (.head _))) ty_3 rfl) (.one rfl (.tail _ (.head _)) ty_28 rfl)) (out_pure (by first | rfl | simp))
  | true =>
    obtain ⟨h4, h8, h12⟩ := mixed_ok hX
    have hfl := fs_len m
    have hall12 : ∀ f ∈ (fsX m.pl), f < 2 ^ 12 := fun f hf => Nat.lt_of_lt_of_le (fs_lt m f hf) (Nat.pow_le_pow_right (by decide) h12)
    rcases Nat.eq_zero_or_pos m.cards.length with hc0 | hc0
    · exact why0_calls m hsm W hM hX hc0
    · exact why1_calls m hsm W hM hX hc0
end Go.Proofs.YtlhdalcipflblaaDoor
/- The facts on the tables of types and on the entries of functions that the walks use. Written by program. -/
set_option linter.unusedSimpArgs false
set_option linter.unusedVariables false
namespace Go.Proofs.YtlhdalcipflblaaDoor
open Go Go.Eng
theorem ent_48 : Enters Tryd.prog 48 := enters_of Tryd.func48 (by kernel_rfl) rfl
end Go.Proofs.YtlhdalcipflblaaDoor
/- Walks of the reference of layer 10: small functions. -/
set_option linter.unusedSimpArgs false
set_option linter.unusedVariables false
namespace Go.Proofs.YtlhdalcipflblaaDoor
open Go Go.Eng Go.Hp Go.Pw1

theorem rin_calls (a b c : Int) (W : World) : Calls Tryd.prog 42 #[.int .i64 a, .int .i64 b, .int .i64 c] W (Pure (.bool (within a b c)) W) := by
  refine calls_start Tryd.func42 rfl rfl ?_
  refine RunC.seq ?_
  refine RunC.region ?_
  refine RunL.val (Val.pure rfl) rfl rfl rfl ?_
  refine RunL.nil ?_
  refine RunE.next ?_
  refine RunC.seq ?_
  refine RunC.region ?_
  iterate 4 refine RunL.val (Val.pure rfl) rfl rfl rfl ?_
  refine RunL.andPart (dj := 10) (dp := 14) 4 rfl (fun g10 => by
    have g10' := g10
    try simp only [decide_eq_true_eq, decide_eq_false_iff_not, Bool.not_eq_true', Bool.not_eq_false', Bool.and_eq_true, Bool.or_eq_true, Bool.and_eq_false_iff, Bool.or_eq_false_iff, Int.not_le, Int.not_lt] at g10'
    iterate 4 refine RunL.val (Val.pure rfl) rfl rfl rfl ?_
    exact RunL.segEnd (Sub.cons rfl (Sub.skip rfl (Sub.skip rfl (Sub.skip rfl (Sub.skip rfl (Sub.same rfl (by rw [g10]) (Sub.refl _))))))) (List.Sublist.refl _)
  ) (fun g10 => by
    have g10' := g10
    try simp only [decide_eq_true_eq, decide_eq_false_iff_not, Bool.not_eq_true', Bool.not_eq_false', Bool.and_eq_true, Bool.or_eq_true, Bool.and_eq_false_iff, Bool.or_eq_false_iff, Int.not_le, Int.not_lt] at g10'
    iterate 3 refine RunL.no rfl rfl rfl ?_
    refine RunL.val (Val.pure rfl) rfl rfl rfl ?_
    exact RunL.segEnd (Sub.cons rfl (Sub.skip rfl (Sub.skip rfl (Sub.skip rfl (Sub.skip rfl (Sub.same rfl (by rw [g10]) (Sub.refl _))))))) (List.Sublist.refl _)
  ) ?_
  refine RunL.val (Val.pure rfl) rfl rfl rfl ?_
  refine RunL.nil ?_
  refine RunE.next ?_
  refine RunC.ret ?_
  exact RunE.retP (.r1 rfl (.tmp rfl)) (by first | rfl | (unfold within; refine congrArg Value.bool ?_; simp only [Bool.or_eq_true, Bool.and_eq_true, Bool.not_eq_true', Bool.or_eq_false_iff, Bool.and_eq_false_iff, Bool.not_eq_false', decide_eq_true_eq, decide_eq_false_iff_not, Bool.false_eq_true, true_iff, false_iff, iff_true, iff_false, and_true, true_and, Bool.and_true, Bool.true_and]; omega))
theorem rpower_calls (n : Nat) (hn : n ≤ 60) (W : World) : Calls Tryd.prog 48 #[.int .i64 (n : Int)] W (Pure (.int .i64 ((2 ^ n : Nat) : Int)) W) := by
  have h60 : 2 ^ n ≤ 2 ^ 60 := Nat.pow_le_pow_right (by decide) hn
  refine calls_start Tryd.func48 rfl rfl ?_
  refine RunC.seq ?_
  refine RunC.region ?_
  refine RunL.val (Val.pure rfl) rfl rfl rfl ?_
  refine RunL.nil ?_
  refine RunE.next ?_
  refine RunC.seq ?_
  refine RunC.region ?_
  refine RunL.val (Val.pure rfl) rfl rfl rfl ?_
  refine RunL.nil ?_
  refine RunE.next ?_
  refine RunC.seq ?_
  refine RunC.seq ?_
  refine RunC.region ?_
  refine RunL.val (Val.pure rfl) rfl rfl rfl ?_
  refine RunL.nil ?_
  refine RunE.next ?_
  refine RunC.block ?_
  refine RunC.loopK (n) (fun k q => (4, .int .i64 (k : Int)) :: (3, .int .i64 ((2 ^ k : Nat) : Int)) :: q) (fun _ => _) (fun _ => []) (fun _ => True) trivial rfl (Sub.consE (t := 4) rfl rfl (Sub.consE (t := 3) rfl rfl (Sub.cons (t := 0) rfl (Sub.nil _)))) .nil ?_
  intro k kN kI
  clear kI
  refine RunC.seq ?_
  refine RunC.seq ?_
  refine RunC.region ?_
  iterate 3 refine RunL.val (Val.pure rfl) rfl rfl rfl ?_
  refine RunL.nil ?_
  refine RunE.next ?_
  refine RunC.cond rfl ?_ ?_
  · intro c0
    have c0' := c0; clear c0
    try simp only [decide_eq_true_eq, decide_eq_false_iff_not, Bool.not_eq_true', Bool.not_eq_false', Bool.and_eq_true, Bool.or_eq_true, Bool.and_eq_false_iff, Bool.or_eq_false_iff, Int.not_le, Int.not_lt] at c0'
    have hk : k < n := by omega
    have hkp : 2 ^ (k + 1) ≤ 2 ^ 60 := Nat.pow_le_pow_right (by decide) (by omega)
    rw [Nat.pow_succ] at hkp
    refine RunC.skip ?_
    refine RunE.next ?_
    refine RunC.seq ?_
    refine RunC.block ?_
    refine RunC.region ?_
    refine RunL.val (Val.pure rfl) rfl rfl rfl ?_
    refine RunL.val (Val.mulN (a := 2) (b := 2 ^ k) (2 * 2 ^ k) rfl rfl rfl (i64_inN (by omega))) rfl rfl rfl ?_
    refine RunL.val (Val.pure rfl) rfl rfl rfl ?_
    refine RunL.nil ?_
    refine RunE.block_normal ?_
    refine RunE.next ?_
    refine RunC.region ?_
    refine RunL.val (Val.pure rfl) rfl rfl rfl ?_
    refine RunL.val (Val.add rfl rfl (IntWalk.i64_in _ ⟨by omega, by omega⟩)) rfl rfl rfl ?_
    refine RunL.val (Val.pure rfl) rfl rfl rfl ?_
    refine RunL.nil ?_
    exact RunE.round (by omega) trivial rfl (Sub.consE (t := 4) rfl rfl (Sub.consE (t := 3) rfl (by rw [Nat.pow_succ, Nat.mul_comm]) (Sub.cons (t := 0) rfl (Sub.nil _)))) .nil
  · intro c0
    have c0' := c0; clear c0
    try simp only [decide_eq_true_eq, decide_eq_false_iff_not, Bool.not_eq_true', Bool.not_eq_false', Bool.and_eq_true, Bool.or_eq_true, Bool.and_eq_false_iff, Bool.or_eq_false_iff, Int.not_le, Int.not_lt] at c0'
    obtain rfl : k = n := by omega
    refine RunC.exit ?_
    refine RunE.pass_exit ?_
    refine RunE.pass_exit ?_
    refine RunE.block_here ?_
    refine RunE.next ?_
    refine RunC.seq ?_
    refine RunC.region ?_
    refine RunL.val (Val.pure rfl) rfl rfl rfl ?_
    refine RunL.val (Val.pure rfl) rfl rfl rfl ?_
    refine RunL.nil ?_
    refine RunE.next ?_
    refine RunC.ret ?_
    exact RunE.retP (.r1 rfl (.tmp rfl)) (by first | rfl | simp)
theorem rHas_eq (s n : Nat) : decide (((s : Int).tdiv ((2 ^ n : Nat) : Int)).tmod 2 = 1) = s.testBit n := by
  have e1 : (s : Int).tdiv ((2 ^ n : Nat) : Int) = ((s / 2 ^ n : Nat) : Int) := (Int.ofNat_tdiv s (2 ^ n)).symm
  have e2 : (((s / 2 ^ n : Nat) : Int)).tmod 2 = ((s / 2 ^ n % 2 : Nat) : Int) := (Int.ofNat_tmod (s / 2 ^ n) 2).symm
  rw [e1, e2, Nat.testBit_eq_decide_div_mod_eq]
  by_cases h : s / 2 ^ n % 2 = 1
  · simp [h]
  · rw [decide_eq_false h, decide_eq_false (by omega)]
theorem rHas_calls (s n : Nat) (hs : s < 4096) (hn : n ≤ 60) (W : World) : Calls Tryd.prog 49 #[.int .i64 (s : Int), .int .i64 (n : Int)] W (Pure (.bool (s.testBit n)) W) := by
  have h2 : 0 < 2 ^ n := Nat.two_pow_pos n
  have e1 : (s : Int).tdiv ((2 ^ n : Nat) : Int) = ((s / 2 ^ n : Nat) : Int) := (Int.ofNat_tdiv s (2 ^ n)).symm
  have hle := Nat.div_le_self s (2 ^ n)
  refine calls_start Tryd.func49 rfl rfl ?_
  refine RunC.seq ?_
  refine RunC.region ?_
  refine RunL.val (Val.pure rfl) rfl rfl rfl ?_
  refine RunL.nil ?_
  refine RunE.next ?_
  refine RunC.seq ?_
  refine RunC.region ?_
  refine RunL.val (Val.pure rfl) rfl rfl rfl ?_
  refine RunL.val (Val.pure rfl) rfl rfl rfl ?_
  refine RunL.callP (isCall_func rfl ent_48) rfl rfl rfl (fun w hm => rpower_calls n hn w) ?_
  refine RunL.val (Val.quoT rfl rfl (by omega) (by rw [e1]; exact i64_inN (by omega))) rfl rfl rfl ?_
  refine RunL.val (Val.remT rfl rfl (by decide)) rfl rfl rfl ?_
  refine RunL.val (Val.pure rfl) rfl rfl rfl ?_
  refine RunL.val (Val.pure rfl) rfl rfl rfl ?_
  refine RunL.nil ?_
  refine RunE.next ?_
  refine RunC.ret ?_
  exact RunE.retP (.r1 rfl (.tmp rfl)) (by rw [rHas_eq])
theorem pc_half (s : Nat) : ∀ k, pc s (k + 1) = s % 2 + pc (s / 2) k
  | 0 => by simp [pc]
  | k + 1 => by
    have ih := pc_half s k
    show pc s (k + 1) + s / 2 ^ (k + 1) % 2 = s % 2 + (pc (s / 2) k + s / 2 / 2 ^ k % 2)
    rw [ih, Nat.div_div_eq_div_mul, Nat.pow_succ, Nat.mul_comm 2]
    omega
theorem pc_le (s : Nat) : ∀ k, pc s k ≤ k
  | 0 => Nat.le_refl _
  | k + 1 => by
    have := pc_le s k
    show pc s k + s / 2 ^ k % 2 ≤ k + 1
    omega
theorem pc_zero : ∀ k, pc 0 k = 0
  | 0 => rfl
  | k + 1 => by simp [pc, pc_zero k]
theorem pc_top {s k : Nat} (h : s / 2 ^ k = 0) : ∀ j, pc s (k + j) = pc s k
  | 0 => rfl
  | j + 1 => by
    show pc s (k + j) + s / 2 ^ (k + j) % 2 = pc s k
    rw [pc_top h j, Nat.pow_add, ← Nat.div_div_eq_div_mul, h, Nat.zero_div]
    exact Nat.add_zero _
theorem z_of {n : Nat} (h : (n : Int) ≤ 0) : n = 0 := by omega
theorem size_lt {s k : Nat} (hs : s < 4096) (hk : k ≤ 12) (h : 0 < s / 2 ^ k) : k < 12 := by
  by_cases e : k = 12
  · subst e; omega
  · omega
theorem rSize_calls (s : Nat) (hs : s < 4096) (W : World) : Calls Tryd.prog 36 #[.int .i64 (s : Int)] W (Pure (.int .i64 (pc s 12 : Int)) W) := by
  refine calls_start Tryd.func36 rfl rfl ?_
  refine RunC.seq ?_
  refine RunC.region ?_
  refine RunL.val (Val.pure rfl) rfl rfl rfl ?_
  refine RunL.nil ?_
  refine RunE.next ?_
  refine RunC.seq ?_
  refine RunC.region ?_
  refine RunL.val (Val.pure rfl) rfl rfl rfl ?_
  refine RunL.nil ?_
  refine RunE.next ?_
  refine RunC.seq ?_
  refine RunC.block ?_
  refine RunC.loopK (12) (fun k q => (0, .int .i64 ((s / 2 ^ k : Nat) : Int)) :: (3, .int .i64 ((pc s k : Nat) : Int)) :: q) (fun _ => _) (fun _ => []) (fun _ => True) trivial rfl (Sub.consE (t := 0) rfl (by simp) (Sub.consE (t := 3) rfl rfl (Sub.nil _))) .nil ?_
  intro k kN kI
  clear kI
  refine RunC.seq ?_
  refine RunC.seq ?_
  refine RunC.region ?_
  refine RunL.val (Val.pure rfl) rfl rfl rfl ?_
  refine RunL.val (Val.pure rfl) rfl rfl rfl ?_
  refine RunL.nil ?_
  refine RunE.next ?_
  refine RunC.cond rfl ?_ ?_
  · intro c0
    have c0' := c0; clear c0
    try simp only [decide_eq_true_eq, decide_eq_false_iff_not, Bool.not_eq_true', Bool.not_eq_false', Bool.and_eq_true, Bool.or_eq_true, Bool.and_eq_false_iff, Bool.or_eq_false_iff, Int.not_le, Int.not_lt] at c0'
    have hk : k < 12 := size_lt hs kN (by omega)
    have hle := Nat.div_le_self s (2 ^ k)
    have hpk := pc_le s k
    refine RunC.skip ?_
    refine RunE.next ?_
    refine RunC.block ?_
    refine RunC.seq ?_
    refine RunC.region ?_
    refine RunL.val (Val.pure rfl) rfl rfl rfl ?_
    refine RunL.val (Val.pure rfl) rfl rfl rfl ?_
    refine RunL.val (Val.remT rfl rfl (by decide)) rfl rfl rfl ?_
    refine RunL.val (Val.addN (a := pc s k) (b := s / 2 ^ k % 2) (pc s k + s / 2 ^ k % 2) rfl rfl rfl (i64_inN (by omega))) rfl rfl rfl ?_
    refine RunL.val (Val.pure rfl) rfl rfl rfl ?_
    refine RunL.nil ?_
    refine RunE.next ?_
    refine RunC.region ?_
    refine RunL.val (Val.pure rfl) rfl rfl rfl ?_
    refine RunL.val (Val.quoT rfl rfl (by decide) (i64_inN (n := s / 2 ^ k / 2) (by omega))) rfl rfl rfl ?_
    refine RunL.val (Val.pure rfl) rfl rfl rfl ?_
    refine RunL.nil ?_
    refine RunE.block_normal ?_
    exact RunE.round (by omega) trivial rfl (Sub.consE (t := 0) rfl (by rw [Nat.pow_succ, ← Nat.div_div_eq_div_mul]; rfl) (Sub.consE (t := 3) rfl (by rfl) (Sub.nil _))) .nil
  · intro c0
    have c0' := c0; clear c0
    try simp only [decide_eq_true_eq, decide_eq_false_iff_not, Bool.not_eq_true', Bool.not_eq_false', Bool.and_eq_true, Bool.or_eq_true, Bool.and_eq_false_iff, Bool.or_eq_false_iff, Int.not_le, Int.not_lt] at c0'
    have hz : s / 2 ^ k = 0 := z_of c0'
    have hpt : pc s 12 = pc s k := by (have h9 := pc_top hz (12 - k); rw [show k + (12 - k) = 12 by omega] at h9; exact h9)
    rw [hpt]
    refine RunC.exit ?_
    refine RunE.pass_exit ?_
    refine RunE.pass_exit ?_
    refine RunE.block_here ?_
    refine RunE.next ?_
    refine RunC.seq ?_
    refine RunC.region ?_
    refine RunL.val (Val.pure rfl) rfl rfl rfl ?_
    refine RunL.val (Val.pure rfl) rfl rfl rfl ?_
    refine RunL.nil ?_
    refine RunE.next ?_
    refine RunC.ret ?_
    exact RunE.retP (.r1 rfl (.tmp rfl)) (by first | rfl | simp)
end Go.Proofs.YtlhdalcipflblaaDoor
/- The facts on the tables of types and on the entries of functions that the walks use. Written by program. -/
set_option linter.unusedSimpArgs false
set_option linter.unusedVariables false
namespace Go.Proofs.YtlhdalcipflblaaDoor
open Go Go.Eng
theorem ent_42 : Enters Tryd.prog 42 := enters_of Tryd.func42 (by kernel_rfl) rfl
end Go.Proofs.YtlhdalcipflblaaDoor
