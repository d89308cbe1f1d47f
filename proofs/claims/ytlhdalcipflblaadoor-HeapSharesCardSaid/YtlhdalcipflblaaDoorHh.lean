/- Walks of package heap: counting ways. -/
import Derived.Test.YtlhdalcipflblaaDoorHg
import Derived.Test.YtlhdalcipflblaaDoorHy3
set_option linter.unusedSimpArgs false
set_option linter.unusedVariables false
namespace Go.Hp
open Go Go.Eng Go.Pw1
theorem cnt_le (ne : Nat) : ∀ (fs : List Nat) (u : Nat), cntL ne fs u ≤ ne ^ fs.length
  | [], _ => Nat.le_refl _
  | f :: fs, u => by
    unfold cntL
    have key : ∀ l : List Nat, (l.map fun i => if free f u i then cntL ne fs (u ||| 2 ^ i) else 0).sum ≤ l.length * ne ^ fs.length := by
      intro l
      induction l with
      | nil => simp
      | cons a l ih =>
        rw [List.map_cons, List.sum_cons, List.length_cons, Nat.add_mul, Nat.one_mul, Nat.add_comm]
        refine Nat.add_le_add ih ?_
        split
        · exact cnt_le ne fs _
        · exact Nat.zero_le _
    have := key (List.range ne)
    rw [List.length_range] at this
    rw [List.length_cons, Nat.pow_succ, Nat.mul_comm]
    exact this
theorem cnt_bd {ne : Nat} {fs : List Nat} (h1 : ne ≤ 12) (h2 : fs.length ≤ 8) (u : Nat) : cntL ne fs u ≤ 429981696 := by
  refine Nat.le_trans (cnt_le ne fs u) ?_
  refine Nat.le_trans (Nat.pow_le_pow_left h1 _) ?_
  exact Nat.le_trans (Nat.pow_le_pow_right (by decide) h2) (by decide)
/-- The ways with the first entries of a card. -/
def psum (ne f : Nat) (fs : List Nat) (u k : Nat) : Nat := ((List.range k).map fun i => if free f u i then cntL ne fs (u ||| 2 ^ i) else 0).sum
theorem psum_s (ne f : Nat) (fs : List Nat) (u k : Nat) : psum ne f fs u (k + 1) = psum ne f fs u k + if free f u k then cntL ne fs (u ||| 2 ^ k) else 0 := by
  unfold psum
  rw [List.range_succ, List.map_append, List.sum_append]
  simp
theorem psum_mono (ne f : Nat) (fs : List Nat) (u k : Nat) : ∀ j, psum ne f fs u k ≤ psum ne f fs u (k + j)
  | 0 => Nat.le_refl _
  | j + 1 => by
    have := psum_mono ne f fs u k j
    rw [show k + (j + 1) = (k + j) + 1 by omega, psum_s]
    omega
theorem psum_all (ne f : Nat) (fs : List Nat) (u : Nat) : psum ne f fs u ne = cntL ne (f :: fs) u := rfl
def GoodM (ne : Nat) (fs : List Nat) (l : List ((Nat × Nat) × Value)) : Prop := ∀ e ∈ l, e.2 = .int .i64 ((cntL ne (fs.drop e.1.1) e.1.2 : Nat) : Int)
def ExtM (ne : Nat) (fs : List Nat) (a : Nat) (l l' : List ((Nat × Nat) × Value)) : Prop := GoodM ne fs l' ∧ ∃ e, l' = l ++ e ∧ ∀ x ∈ e, a ≤ x.1.1
theorem ExtM.refl {ne a : Nat} {fs : List Nat} {l : List ((Nat × Nat) × Value)} (h : GoodM ne fs l) : ExtM ne fs a l l := ⟨h, [], by simp, fun x hx => by cases hx⟩
theorem ExtM.trans {ne a : Nat} {fs : List Nat} {l l' l'' : List ((Nat × Nat) × Value)} (h : ExtM ne fs a l l') (h' : ExtM ne fs a l' l'') : ExtM ne fs a l l'' := by
  obtain ⟨_, e, rfl, h2⟩ := h
  obtain ⟨g, e', rfl, h4⟩ := h'
  refine ⟨g, e ++ e', by simp, fun x hx => ?_⟩
  rcases List.mem_append.1 hx with hx | hx
  · exact h2 x hx
  · exact h4 x hx
theorem ExtM.weak {ne a b : Nat} {fs : List Nat} {l l' : List ((Nat × Nat) × Value)} (h : ExtM ne fs a l l') (hab : b ≤ a) : ExtM ne fs b l l' := by
  obtain ⟨h1, e, h2, h3⟩ := h
  exact ⟨h1, e, h2, fun x hx => Nat.le_trans hab (h3 x hx)⟩
theorem ExtM.put {ne a u : Nat} {fs : List Nat} {l l' : List ((Nat × Nat) × Value)} (h : ExtM ne fs (a + 1) l l') {v : Value} (hv : v = .int .i64 ((cntL ne (fs.drop a) u : Nat) : Int)) : ExtM ne fs a l (l' ++ [((a, u), v)]) := by
  obtain ⟨h1, e, rfl, h3⟩ := h
  refine ⟨fun x hx => ?_, e ++ [((a, u), v)], by simp, fun x hx => ?_⟩
  · rcases List.mem_append.1 hx with hx | hx
    · exact h1 x hx
    · cases List.mem_singleton.1 hx; exact hv
  · rcases List.mem_append.1 hx with hx | hx
    · have := h3 x hx; omega
    · cases List.mem_singleton.1 hx; exact Nat.le_refl _
theorem ExtM.absent {ne a u : Nat} {fs : List Nat} {l l' : List ((Nat × Nat) × Value)} (h : ExtM ne fs (a + 1) l l') (h0 : gFind l (a, u) = none) : gIdx l' (a, u) = none := by
  obtain ⟨_, e, rfl, h3⟩ := h
  refine gIdx_none fun x hx => ?_
  rcases List.mem_append.1 hx with hx | hx
  · exact gIdx_absent h0 x hx
  · intro e1
    have := h3 x hx
    rw [e1] at this
    simp at this
    omega
theorem good_find {ne : Nat} {fs : List Nat} {l : List ((Nat × Nat) × Value)} (h : GoodM ne fs l) {a u : Nat} (hs : (gFind l (a, u)).isSome = true) {z : Value} : (gFind l (a, u)).getD z = .int .i64 ((cntL ne (fs.drop a) u : Nat) : Int) := by
  obtain ⟨v, hv⟩ := Option.isSome_iff_exists.1 hs
  rw [hv]
  exact h _ (gFind_mem hv)
/-- A heap that is looked at. -/
structure HpAt (W : World) (bh bm : Nat) (m : MxA) (nE : Nat) (qe : Option Addr) (ce : Nat) (fs : List Nat) (qf : Option Addr) (bf cf : Nat) : Prop where
  v : W.heap[bh]? = some (.cells [.slice m.q m.bxs.length m.cap, .slice m.q2 m.cards.length m.cap2, .slice qe nE ce, .slice qf fs.length cf, .map (some bm)].toArray 73 (0, 0))
  sl : Sl W qf bf 0 1 (setsV fs)
  len : fs.length = m.cards.length
  le : fs.length ≤ 8
  ne : nE ≤ 12
  lt : ∀ f ∈ fs, f < 2 ^ nE
theorem map_ne {W : World} {b bm : Nat} {c : Array Value} {T : TypeId} {f : Nat × Nat} {l : List ((Nat × Nat) × Value)} (h : W.heap[b]? = some (.cells c T f)) (hm : W.heap[bm]? = some (mapG l)) : b ≠ bm := fun e => by
  rw [e, hm] at h
  cases h
theorem sl_map_ne {W : World} {q : Option Addr} {b o sz bm : Nat} {xs : List (List Value)} {l : List ((Nat × Nat) × Value)} (h : Sl W q b o sz xs) (hz : 0 < sz) (hx : xs ≠ []) (hm : W.heap[bm]? = some (mapG l)) : b ≠ bm := fun e => by
  cases xs with
  | nil => exact hx rfl
  | cons x xs =>
    have h1 := h.cell 0 (by simp) 0 hz
    have h2 := h.len x (by simp)
    rw [e] at h1
    simp only [World.cell?, hm, mapG] at h1
    simp at h1
    rw [h1] at h2
    simp at h2
    omega
theorem drop_at {fs : List Nat} {a : Nat} (h : a < fs.length) : fs.drop a = fs[a] :: fs.drop (a + 1) := List.drop_eq_getElem_cons h
end Go.Hp
namespace Go.Proofs.YtlhdalcipflblaaDoor
open Go Go.Eng Go.Hp Go.Pw1

theorem on_calls (d : Nat) : ∀ (a : Nat) (m : MxA) (nE : Nat) (qe : Option Addr) (ce : Nat) (fs : List Nat) (qf : Option Addr) (bf cf : Nat) (_hd : a + d = fs.length) (u : Nat) (_hu : u < 2 ^ 12) (l : List ((Nat × Nat) × Value)) (_hg : GoodM nE fs l) (bh bm b1 b3 : Nat) (W : World) (_hH : HpAt W bh bm m nE qe ce fs qf bf cf) (_hm : W.heap[bm]? = some (mapG l))
    (_h1 : W.heap[b1]? = some (.cells [.pointer (some ⟨bh, 0, none⟩)].toArray 64 (0, 0))) (_h3 : W.heap[b3]? = some (.cells [.func (.func 68) #[] #[.pointer (some ⟨b1, 0, none⟩), .pointer (some ⟨b3, 0, none⟩)]].toArray 84 (0, 0))),
    Calls Tryd.prog 68 #[.int .i64 (a : Int), .int .u64 (u : Int), .pointer (some ⟨b1, 0, none⟩), .pointer (some ⟨b3, 0, none⟩)] W (TurnsZ bm mapG (fun _ => .int .i64 ((cntL nE (fs.drop a) u : Nat) : Int)) (ExtM nE fs a l) W) := by
  induction d with
  | zero =>
    intro a m nE qe ce fs qf bf cf hd u hu l hg bP bm bC bF W hH hm h1 h3
    have hv := hH.v
    have hl8 := hH.le
    have hlen := hH.len
    have n1 := map_ne h1 hm
    have n2 := map_ne hv hm
    refine calls_start_chg hm Tryd.func68 rfl rfl ?_
    refine RunC.seq ?_
    refine RunC.region ?_
    refine RunL.val (Val.pure rfl) rfl rfl rfl ?_
    refine RunL.nil ?_
    refine RunE.next ?_
    refine RunC.seq ?_
    refine RunC.seq ?_
    refine RunC.region ?_
    refine RunL.val (Val.pure rfl) rfl rfl rfl ?_
    refine RunL.val (Val.oload_one rfl h1 (by simp [n1, n2]) ty_64 rfl) rfl rfl rfl ?_
    refine RunL.val (Val.pure rfl) rfl rfl rfl ?_
    refine RunL.val (Val.fieldAddr rfl fld_73_0) rfl rfl rfl ?_
    refine RunL.val (Val.fieldAddr rfl fld_25_1) rfl rfl rfl ?_
    refine RunL.val (Val.oload_one rfl hv (by simp [n1, n2]) ty_23 rfl) rfl rfl rfl ?_
    refine RunL.val (Val.len_sl rfl sl_23) rfl rfl rfl ?_
    refine RunL.val (Val.pure rfl) rfl rfl rfl ?_
    refine RunL.nil ?_
    refine RunE.next ?_
    refine RunC.cond rfl ?_ (fun h => absurd h (by simp; omega))
    intro c0
    clear c0
    refine RunC.seq ?_
    refine RunC.region ?_
    refine RunL.val (Val.pure rfl) rfl rfl rfl ?_
    refine RunL.nil ?_
    refine RunE.next ?_
    refine RunC.ret ?_
    refine RunE.pass_ret ?_
    exact RunE.retZ l (ExtM.refl hg) rfl (.r1 rfl (.tmp rfl)) (by rw [List.drop_of_length_le (by omega)]; rfl)
  | succ d ih =>
    intro a m nE qe ce fs qf bf cf hd u hu l hg bP bm bC bF W hH hm h1 h3
    have hv := hH.v
    have hl8 := hH.le
    have hlen := hH.len
    have hne := hH.ne
    have n1 := map_ne h1 hm
    have n2 := map_ne hv hm
    have n3 := map_ne h3 hm
    have ha : a < fs.length := by omega
    obtain ⟨f, hf⟩ : ∃ f, fs[a] = f := ⟨_, rfl⟩
    have hdr : fs.drop a = f :: fs.drop (a + 1) := by rw [drop_at ha, hf]
    have hfl : f < 2 ^ 12 := by
      have q1 := hH.lt f (hf ▸ List.getElem_mem ha)
      have q2 : 2 ^ nE ≤ 2 ^ 12 := Nat.pow_le_pow_right (by decide) hne
      omega
    have hfn : setsV fs ≠ [] := by
      intro e
      have := congrArg List.length e
      simp [setsV] at this
      subst this
      simp at ha
    have nf := sl_map_ne hH.sl (by decide) hfn hm
    have hal := andN_le f u
    have hcl : ∀ v, cntL nE (fs.drop (a + 1)) v ≤ 429981696 := fun v => cnt_bd hne (by simp; omega) v
    have hca : cntL nE (fs.drop a) u ≤ 429981696 := cnt_bd hne (by simp; omega) u
    refine calls_start_chg hm Tryd.func68 rfl rfl ?_
    refine RunC.seq ?_
    refine RunC.region ?_
    refine RunL.val (Val.pure rfl) rfl rfl rfl ?_
    refine RunL.nil ?_
    refine RunE.next ?_
    refine RunC.seq ?_
    refine RunC.seq ?_
    refine RunC.region ?_
    refine RunL.val (Val.pure rfl) rfl rfl rfl ?_
    refine RunL.val (Val.oload_one rfl h1 (by simp [n1, n2, n3]) ty_64 rfl) rfl rfl rfl ?_
    refine RunL.val (Val.pure rfl) rfl rfl rfl ?_
    refine RunL.val (Val.fieldAddr rfl fld_73_0) rfl rfl rfl ?_
    refine RunL.val (Val.fieldAddr rfl fld_25_1) rfl rfl rfl ?_
    refine RunL.val (Val.oload_one rfl hv (by simp [n1, n2, n3]) ty_23 rfl) rfl rfl rfl ?_
    refine RunL.val (Val.len_sl rfl sl_23) rfl rfl rfl ?_
    refine RunL.val (Val.pure rfl) rfl rfl rfl ?_
    refine RunL.nil ?_
    refine RunE.next ?_
    refine RunC.cond rfl (fun h => absurd h (by simp; omega)) ?_
    intro c0
    clear c0
    refine RunC.skip ?_
    refine RunE.next ?_
    refine RunC.seq ?_
    refine RunC.seq ?_
    refine RunC.region ?_
    refine RunL.val (Val.oload_one rfl h1 (by simp [n1, n2, n3]) ty_64 rfl) rfl rfl rfl ?_
    refine RunL.val (Val.pure rfl) rfl rfl rfl ?_
    refine RunL.val (Val.fieldAddr rfl fld_73_3) rfl rfl rfl ?_
    refine RunL.val (Val.oload_one rfl hv (by simp [n1, n2, n3]) ty_71 rfl) rfl rfl rfl ?_
    refine RunL.val (Val.pure rfl) rfl rfl rfl ?_
    refine RunL.val (Val.pure rfl) rfl rfl rfl ?_
    refine RunL.val (Val.build (parts := [(0, .tmp 24), (1, .tmp 25)]) rfl zero_102 places_102 rfl) rfl rfl rfl ?_
    refine RunL.val (Val.lookupG (a := (a, u)) rfl rfl (fun w hm => hm.at (.head _)) keyed_71 zeroV_3) rfl rfl rfl ?_
    iterate 5 refine RunL.val (Val.pure rfl) rfl rfl rfl ?_
    refine RunL.nil ?_
    refine RunE.next ?_
    refine RunC.seq ?_
    refine RunC.region ?_
    refine RunL.val (Val.pure rfl) rfl rfl rfl ?_
    refine RunL.nil ?_
    refine RunE.next ?_
    refine RunC.cond rfl ?_ ?_
    · intro c1
      have c1' := c1; clear c1
      try simp only [decide_eq_true_eq, decide_eq_false_iff_not, Bool.not_eq_true', Bool.not_eq_false', Bool.and_eq_true, Bool.or_eq_true, Bool.and_eq_false_iff, Bool.or_eq_false_iff, Int.not_le, Int.not_lt] at c1'
      have hgf := good_find (z := .int .i64 0) hg c1'
      refine RunC.seq ?_
      refine RunC.region ?_
      refine RunL.val (Val.pure rfl) rfl rfl rfl ?_
      refine RunL.val (Val.pure rfl) rfl rfl rfl ?_
      refine RunL.nil ?_
      refine RunE.next ?_
      refine RunC.ret ?_
      refine RunE.pass_ret ?_
      exact RunE.retZ l (ExtM.refl hg) rfl (.r1 rfl (.tmp rfl)) hgf
    · intro c1
      have c1' := c1; clear c1
      try simp only [decide_eq_true_eq, decide_eq_false_iff_not, Bool.not_eq_true', Bool.not_eq_false', Bool.and_eq_true, Bool.or_eq_true, Bool.and_eq_false_iff, Bool.or_eq_false_iff, Int.not_le, Int.not_lt] at c1'
      have hab : gFind l (a, u) = none := by simpa using c1'
      refine RunC.skip ?_
      refine RunE.next ?_
      refine RunC.seq ?_
      refine RunC.region ?_
      refine RunL.val (Val.oload_one rfl h1 (by simp [n1, n2, n3]) ty_64 rfl) rfl rfl rfl ?_
      refine RunL.val (Val.pure rfl) rfl rfl rfl ?_
      refine RunL.val (Val.fieldAddr rfl fld_73_2) rfl rfl rfl ?_
      refine RunL.val (Val.oload_one rfl hv (by simp [n1, n2, n3]) ty_70 rfl) rfl rfl rfl ?_
      refine RunL.val (Val.pure rfl) rfl rfl rfl ?_
      refine RunL.val (Val.indexAddr_slp rfl rfl sl_70 (by omega) (by omega) (hH.sl.ptrM ha)) rfl rfl rfl ?_
      refine RunL.val (Val.load_gen rfl (fun w hm => (Sl.mono1 hH.sl (by decide) hm (fun _ => nf)).loadM1 (by decide) (Mem.refl w) (by simp) ty_68 ha (v := .int .u64 (f : Int)) (by simp [hf]))) rfl rfl rfl ?_
      refine RunL.val (Val.pure rfl) rfl rfl rfl ?_
      refine RunL.val (Val.andNot (a := f) (b := u) rfl rfl (by show _ < 18446744073709551616; omega) (by show _ < 18446744073709551616; omega) (u64_in (by omega))) rfl rfl rfl ?_
      refine RunL.val (Val.pure rfl) rfl rfl rfl ?_
      refine RunL.val (Val.pure rfl) rfl rfl rfl ?_
      refine RunL.nil ?_
      refine RunE.next ?_
      refine RunC.seq ?_
      refine RunC.seq ?_
      refine RunC.region ?_
      refine RunL.val (Val.oload_one rfl h1 (by simp [n1, n2, n3]) ty_64 rfl) rfl rfl rfl ?_
      refine RunL.val (Val.pure rfl) rfl rfl rfl ?_
      refine RunL.val (Val.fieldAddr rfl fld_73_1) rfl rfl rfl ?_
      refine RunL.val (Val.oload_one rfl hv (by simp [n1, n2, n3]) ty_69 rfl) rfl rfl rfl ?_
      refine RunL.val (Val.len_sl rfl sl_69) rfl rfl rfl ?_
      refine RunL.val (Val.pure rfl) rfl rfl rfl ?_
      refine RunL.nil ?_
      refine RunE.next ?_
      refine RunC.block ?_
      refine RunC.loopX (X := List ((Nat × Nat) × Value)) (n0 := []) (nE) (fun k x q => (47, .int .i64 (k : Int)) :: (6, .int .i64 ((psum nE f (fs.drop (a + 1)) u k : Nat) : Int)) :: q) (fun k x => [(bm, mapG x)]) (fun k x => []) (fun k x => []) (fun k x => ExtM nE fs (a + 1) l x) l (ExtM.refl hg) rfl (Sub.consE (t := 47) rfl rfl (Sub.consE (t := 6) rfl rfl (Sub.cons (t := 0) rfl (Sub.cons (t := 1) rfl (Sub.cons (t := 2) rfl (Sub.cons (t := 3) rfl (Sub.cons (t := 9) rfl (Sub.cons (t := 46) rfl (Sub.nil _))))))))) (Pick.same rfl) ?_
      intro k x kN kI
      have hxg := kI
      refine RunC.seq ?_
      refine RunC.region ?_
      refine RunL.val (Val.pure rfl) rfl rfl rfl ?_
      refine RunL.nil ?_
      refine RunE.next ?_
      refine RunC.seq ?_
      refine RunC.cond rfl ?_ ?_
      · intro c2
        have c2' := c2; clear c2
        try simp only [decide_eq_true_eq, decide_eq_false_iff_not, Bool.not_eq_true', Bool.not_eq_false', Bool.and_eq_true, Bool.or_eq_true, Bool.and_eq_false_iff, Bool.or_eq_false_iff, Int.not_le, Int.not_lt] at c2'
        have hk : k < nE := by omega
        have hps := psum_s nE f (fs.drop (a + 1)) u k
        have hpm := psum_mono nE f (fs.drop (a + 1)) u (k + 1) (nE - (k + 1))
        rw [show k + 1 + (nE - (k + 1)) = nE by omega, psum_all, ← hdr] at hpm
        have h2k : 2 ^ k < 2 ^ 12 := Nat.pow_lt_pow_right (by decide) (by omega)
        have hpk := psum_mono nE f (fs.drop (a + 1)) u k 1
        refine RunC.skip ?_
        refine RunE.next ?_
        refine RunC.seq ?_
        refine RunC.block ?_
        refine RunC.seq ?_
        refine RunC.region ?_
        refine RunL.val (Val.pure rfl) rfl rfl rfl ?_
        refine RunL.val (Val.pure rfl) rfl rfl rfl ?_
        refine RunL.nil ?_
        refine RunE.next ?_
        refine RunC.seq ?_
        refine RunC.region ?_
        refine RunL.val (Val.pure rfl) rfl rfl rfl ?_
        refine RunL.val (Val.pure rfl) rfl rfl rfl ?_
        refine RunL.callP (isCall_value rfl rfl ent_45) rfl rfl rfl (fun w hm => has_calls (andN f u) k (by omega) (by omega) w) ?_
        refine RunL.nil ?_
        refine RunE.next ?_
        refine RunC.cond rfl ?_ ?_
        · intro c3
          have c3' := c3; clear c3
          try simp only [decide_eq_true_eq, decide_eq_false_iff_not, Bool.not_eq_true', Bool.not_eq_false', Bool.and_eq_true, Bool.or_eq_true, Bool.and_eq_false_iff, Bool.or_eq_false_iff, Int.not_le, Int.not_lt] at c3'
          have hfr : free f u k = true := by (rw [andN_bit] at c3'; exact c3')
          rw [hfr, if_pos rfl] at hps
          have huk := Nat.or_lt_two_pow hu h2k
          refine RunC.drawK 10 fol_ .nil ?_
          refine RunA.valC (i := 0) rfl (by kernel_rfl) (by kernel_rfl) (fun c hck => (Val.pure rfl)) rfl rfl rfl (fun _ _ _ h => h) .nil rfl ?_
          refine RunA.valC (i := 1) rfl (by kernel_rfl) (by kernel_rfl) (fun c hck => (Val.oload_one rfl h3 (notin_of hck (by simp [n1, n2, n3])) ty_84 rfl)) rfl rfl rfl (fun _ _ _ h => h) .nil rfl ?_
          refine RunA.valC (i := 2) rfl (by kernel_rfl) (by kernel_rfl) (fun c hck => (Val.pure rfl)) rfl rfl rfl (fun _ _ _ h => h) .nil rfl ?_
          refine RunA.valC (i := 3) rfl (by kernel_rfl) (by kernel_rfl) (fun c hck => (Val.addN (a := a) (b := 1) (a + 1) rfl rfl rfl (i64_inN (by omega)))) rfl rfl rfl (fun _ _ _ h => h) .nil rfl ?_
          refine RunA.valC (i := 4) rfl (by kernel_rfl) (by kernel_rfl) (fun c hck => (Val.pure rfl)) rfl rfl rfl (fun _ _ _ h => h) .nil rfl ?_
          refine RunA.valC (i := 5) rfl (by kernel_rfl) (by kernel_rfl) (fun c hck => (Val.pure rfl)) rfl rfl rfl (fun _ _ _ h => h) .nil rfl ?_
          refine RunA.valC (i := 6) rfl (by kernel_rfl) (by kernel_rfl) (fun c hck => (Val.shl1 (b := k) rfl rfl (by show k ≤ 64; omega) (u64_in (n := 2 ^ k) (by omega)))) rfl rfl rfl (fun _ _ _ h => h) .nil rfl ?_
          refine RunA.one (i := 7) (by kernel_rfl) (by kernel_rfl) ?_
          refine RunI.new rfl (New.buildSlice (parts := [(0, .tmp 57), (1, .tmp 59)]) rfl sl_70 zero_68 rfl rfl rfl rfl) rfl rfl rfl (fun b60 => (RunK.toA (.cons .here rfl .nil) .nil rfl ?_))
          refine RunA.one (i := 8) (by kernel_rfl) (by kernel_rfl) ?_
          refine RunI.callP rfl (isCall_func rfl ent_46) rfl rfl rfl (fun w hm => union2_calls u (2 ^ k) hu h2k b60 w (hm.at (.tail _ (.head _)))) (RunK.toA (.cons .here rfl .nil) (.cons .here rfl .nil) rfl ?_)
          refine RunA.one (i := 9) (by kernel_rfl) (by kernel_rfl) ?_
          refine RunI.callZ_chg rfl (isCall_value rfl rfl ent_68) rfl rfl rfl (fun _ => .here) (fun w hm => ih (a + 1) m nE qe ce fs qf bf cf (by omega) (u ||| 2 ^ k) huk x hxg.1 bP bm bC bF w ⟨hm.old_at hv (by simp [n2]), Sl.mono1 hH.sl (by decide) hm (fun _ => nf), hH.len, hH.le, hH.ne, hH.lt⟩ (hm.at (.head _)) (hm.old_at h1 (by simp [n1])) (hm.old_at h3 (by simp [n3]))) (fun x62 hx62 => (RunK.toA (.cons .here rfl .nil) (.cons .here rfl .nil) rfl ?_))
          refine RunA.toB (by kernel_rfl) ?_
          refine RunB.one (i := 10) (by kernel_rfl) ?_
          refine RunI.val rfl (Val.addN (a := psum nE f (fs.drop (a + 1)) u k) (b := cntL nE (fs.drop (a + 1)) (u ||| 2 ^ k)) (psum nE f (fs.drop (a + 1)) u k + cntL nE (fs.drop (a + 1)) (u ||| 2 ^ k)) rfl rfl rfl (i64_inN (by omega))) rfl rfl rfl (RunK.toB ?_)
          refine RunB.one (i := 11) (by kernel_rfl) ?_
          refine RunI.val rfl (Val.pure rfl) rfl rfl rfl (RunK.toB ?_)
          refine RunB.done (by kernel_rfl) ?_
          refine RunE.block_normal ?_
          refine RunE.next ?_
          refine RunC.region ?_
          refine RunL.val (Val.add rfl rfl (IntWalk.i64_in _ ⟨by omega, by omega⟩)) rfl rfl rfl ?_
          refine RunL.val (Val.pure rfl) rfl rfl rfl ?_
          refine RunL.nil ?_
          exact RunE.roundX x62 (by omega) (hxg.trans hx62) rfl (Sub.consE (t := 47) rfl rfl (Sub.consE (t := 6) rfl (by rw [hps]) (Sub.cons (t := 0) rfl (Sub.cons (t := 1) rfl (Sub.cons (t := 2) rfl (Sub.cons (t := 3) rfl (Sub.cons (t := 9) rfl (Sub.cons (t := 46) rfl (Sub.nil _))))))))) .nil
        · intro c3
          have c3' := c3; clear c3
          try simp only [decide_eq_true_eq, decide_eq_false_iff_not, Bool.not_eq_true', Bool.not_eq_false', Bool.and_eq_true, Bool.or_eq_true, Bool.and_eq_false_iff, Bool.or_eq_false_iff, Int.not_le, Int.not_lt] at c3'
          have hfr : free f u k = false := by (rw [andN_bit] at c3'; exact c3')
          rw [hfr] at hps
          simp only [Bool.false_eq_true, if_false, Nat.add_zero] at hps
          refine RunC.skip ?_
          refine RunE.block_normal ?_
          refine RunE.next ?_
          refine RunC.region ?_
          refine RunL.val (Val.add rfl rfl (IntWalk.i64_in _ ⟨by omega, by omega⟩)) rfl rfl rfl ?_
          refine RunL.val (Val.pure rfl) rfl rfl rfl ?_
          refine RunL.nil ?_
          exact RunE.roundX x (by omega) hxg rfl (Sub.consE (t := 47) rfl rfl (Sub.consE (t := 6) rfl (by rw [hps]) (Sub.cons (t := 0) rfl (Sub.cons (t := 1) rfl (Sub.cons (t := 2) rfl (Sub.cons (t := 3) rfl (Sub.cons (t := 9) rfl (Sub.cons (t := 46) rfl (Sub.nil _))))))))) .nil
      · intro c2
        have c2' := c2; clear c2
        try simp only [decide_eq_true_eq, decide_eq_false_iff_not, Bool.not_eq_true', Bool.not_eq_false', Bool.and_eq_true, Bool.or_eq_true, Bool.and_eq_false_iff, Bool.or_eq_false_iff, Int.not_le, Int.not_lt] at c2'
        have hkn : k = nE := by omega
        simp only [hkn, psum_all, ← hdr]
        refine RunC.exit ?_
        refine RunE.pass_exit ?_
        refine RunE.pass_exit ?_
        refine RunE.block_here ?_
        refine RunE.next ?_
        refine RunC.seq ?_
        refine RunC.region ?_
        refine RunL.val (Val.oload_one rfl h1 (by simp [n1, n2, n3]) ty_64 rfl) rfl rfl rfl ?_
        refine RunL.val (Val.pure rfl) rfl rfl rfl ?_
        refine RunL.val (Val.fieldAddr rfl fld_73_3) rfl rfl rfl ?_
        refine RunL.val (Val.oload_one rfl hv (by simp [n1, n2, n3]) ty_71 rfl) rfl rfl rfl ?_
        refine RunL.val (Val.pure rfl) rfl rfl rfl ?_
        refine RunL.val (Val.pure rfl) rfl rfl rfl ?_
        refine RunL.val (Val.build (parts := [(0, .tmp 69), (1, .tmp 70)]) rfl zero_102 places_102 rfl) rfl rfl rfl ?_
        refine RunL.val (Val.pure rfl) rfl rfl rfl ?_
        refine RunL.sto (Sto.mapG_chg (a := (a, u)) rfl rfl rfl .here keyed_71 (kI.absent hab)) rfl rfl ?_
        refine RunL.nil ?_
        refine RunE.next ?_
        refine RunC.seq ?_
        refine RunC.region ?_
        refine RunL.val (Val.pure rfl) rfl rfl rfl ?_
        refine RunL.val (Val.pure rfl) rfl rfl rfl ?_
        refine RunL.nil ?_
        refine RunE.next ?_
        refine RunC.ret ?_
        exact RunE.retZ (x ++ [((a, u), .int .i64 ((cntL nE (fs.drop a) u : Nat) : Int))]) (ExtM.put kI rfl) rfl (.r1 rfl (.tmp rfl)) rfl
end Go.Proofs.YtlhdalcipflblaaDoor
