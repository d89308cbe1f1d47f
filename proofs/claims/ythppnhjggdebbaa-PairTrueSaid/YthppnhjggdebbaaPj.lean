/- Walks of package pair: the iterator over the powers that are tried; the deferred function inside a fence. -/
import Derived.Test.YthppnhjggdebbaaPi
import Derived.Test.YthppnhjggdebbaaRange
import Derived.RecoverIn
set_option linter.unusedSimpArgs false
set_option linter.unusedVariables false
namespace Go.Proofs.Ythppnhjggdebbaa
open Go Go.Eng Go.Pw1

structure Seen (p : Pr) (q : Option Addr) (b o cap : Nat) (pw : Int × Int) (bv b1 : Nat) (W : World) : Prop where
  v : W.heap[bv]? = some (.cells (vwCells p q cap pw).toArray 72 (0, 0))
  x : W.heap[b1]? = some (.cells [.pointer (some ⟨bv, 0, none⟩)].toArray 73 (0, 0))
  s : Sl W q b o 9 (p.things.map Th.cells)
theorem Seen.mem {p : Pr} {q : Option Addr} {b o cap : Nat} {pw : Int × Int} {bv b1 : Nat} {W w : World} {news : Blks} (h : Seen p q b o cap pw bv b1 W) (hm : Mem W [] news w) : Seen p q b o cap pw bv b1 w :=
  ⟨hm.old_at h.v (by simp), hm.old_at h.x (by simp), h.s.mono (by decide) hm (by simp)⟩
structure Safe (p : Pr) (b bv b1 B : Nat) (nm : List Nat) : Prop where
  v : bv < B ∧ bv ∉ nm
  x : b1 < B ∧ b1 ∉ nm
  s : p.things.map Th.cells ≠ [] → b < B ∧ b ∉ nm
theorem Seen.kp {p : Pr} {q : Option Addr} {b o cap : Nat} {pw : Int × Int} {bv b1 B : Nat} {nm : List Nat} {W W' : World} (h : Seen p q b o cap pw bv b1 W) (hs : Safe p b bv b1 B nm) (hk : KpX B nm W W') : Seen p q b o cap pw bv b1 W' :=
  ⟨(hk bv hs.v.1 hs.v.2).trans h.v, (hk b1 hs.x.1 hs.x.2).trans h.x, h.s.kp (fun hne => hk b (hs.s hne).1 (hs.s hne).2)⟩
set_option maxHeartbeats 2000000 in
theorem tried_stops (p : Pr) (hp : p.Ok) (q : Option Addr) (b o cap : Nat) (pw : Int × Int) (bv b1 : Nat) (w0 : World) (nm : List Nat) (h0 : Seen p q b o cap pw bv b1 w0) (hs : Safe p b bv b1 w0.heap.size nm) :
    SeqStopsK (Fr none) 8 Try.prog 83 #[.pointer (some ⟨b1, 0, none⟩)] (fun x : Int => #[.int .i64 x]) (KpX w0.heap.size nm) (fun xs => xs = triedS p pw) (fun _ => True) 100 w0 := by
  unfold SeqStopsK
  intro l J Jx W hW hJ hJx hY hJ0
  have hlen := hp.len
  have hSn : Seen p q b o cap pw bv b1 W := ⟨(hW.block bv hs.v.1).trans h0.v, (hW.block b1 hs.x.1).trans h0.x, h0.s.kp (fun hne => hW.block b (hs.s hne).1)⟩
  have hJm : ∀ {s : List Int} {A C : World} {news : Blks}, J s A → Mem A [] news C → J s C := fun h hm => hJ _ _ _ none h hm.grown (fun r e => by cases e)
  have hJxm : ∀ {s : List Int} {A C : World} {news : Blks}, Jx s A → Mem A [] news C → Jx s C := fun h hm => hJx _ _ _ none h hm.grown (fun r e => by cases e)
  have hYY : ∀ (pre : List Int) (x : Int) (A : World), J pre A → pre.length < 100 → Seen p q b o cap pw bv b1 A → YieldAt (Fr none) 8 Try.prog l #[.int .i64 x] A (fun e w' => ∃ y, e = .returned (.bool y) ∧ ((y = true ∧ J (pre ++ [x]) w' ∧ Seen p q b o cap pw bv b1 w') ∨ (y = false ∧ Jx (pre ++ [x]) w'))) := fun pre x A h1 h2 h3 =>
    yieldAt_any (hY pre x A h1 h2) (fun e w' hh => by
      rcases hh with ⟨rfl, hh, hk⟩ | ⟨rfl, hh⟩
      · exact ⟨true, rfl, .inl ⟨rfl, hh, h3.kp hs hk⟩⟩
      · exact ⟨false, rfl, .inr ⟨rfl, hh⟩⟩)
  refine callsIn_start (vs := [.func (.yield l) #[] #[], .pointer (some ⟨b1, 0, none⟩)]) Try.func83 rfl rfl ?_ 8
  refine RunCR.seq ?_
  refine RunCR.seq ?_
  refine RunCR.region ?_
  refine RunLR.val (Val.pure rfl) rfl rfl rfl ?_
  refine RunLR.val (Val.oload_one rfl hSn.x (by simp) ty_73 rfl) rfl rfl rfl ?_
  refine RunLR.val (Val.pure rfl) rfl rfl rfl ?_
  refine RunLR.val (Val.fieldAddr rfl fld_72_1) rfl rfl rfl ?_
  refine RunLR.val (Val.indexAddr_arr rfl rfl arr_70 (by decide) (by decide)) rfl rfl rfl ?_
  refine RunLR.val (Val.oload_one rfl hSn.v (by simp) ty_3 rfl) rfl rfl rfl ?_
  refine RunLR.yield (RY := fun y w' => (y = true ∧ J ([] ++ [pw.1]) w' ∧ Seen p q b o cap pw bv b1 w') ∨ (y = false ∧ Jx ([] ++ [pw.1]) w')) (isYield_value rfl rfl) rfl rfl rfl (fun w hm => hYY [] pw.1 w (hJm hJ0 hm) (by simp) (hSn.mem hm)) ?_
  intro y13 W13 h13
  refine RunLR.val (Val.pure rfl) rfl rfl rfl ?_
  refine RunLR.nil ?_
  refine RunER.next ?_
  refine RunCR.cond rfl ?_ ?_
  · intro c0
    have c0' := c0; clear c0
    try simp only [decide_eq_true_eq, decide_eq_false_iff_not, Bool.not_eq_true', Bool.not_eq_false', Bool.and_eq_true, Bool.or_eq_true, Bool.and_eq_false_iff, Bool.or_eq_false_iff, Int.not_le, Int.not_lt] at c0'
    have hX1 : Jx [pw.1] W13 := by
      rcases h13 with ⟨h, _⟩ | ⟨_, h⟩
      · rw [h] at c0'; cases c0'
      · exact h
    refine RunCR.ret ?_
    refine RunE.pass_ret ?_
    intro a w2 s
    exact ⟨s.defers, _, results_none rfl _ _ _, ⟨_, rfl⟩, .inr ⟨_, trivial, hJxm hX1 s.mem⟩⟩
  · intro c0
    have c0' := c0; clear c0
    try simp only [decide_eq_true_eq, decide_eq_false_iff_not, Bool.not_eq_true', Bool.not_eq_false', Bool.and_eq_true, Bool.or_eq_true, Bool.and_eq_false_iff, Bool.or_eq_false_iff, Int.not_le, Int.not_lt] at c0'
    obtain ⟨hJ1, hS1⟩ : J [pw.1] W13 ∧ Seen p q b o cap pw bv b1 W13 := by
      rcases h13 with ⟨_, h⟩ | ⟨h, _⟩
      · exact h
      · rw [h] at c0'; cases c0'
    refine RunCR.skip ?_
    refine RunER.next ?_
    refine RunCR.seq ?_
    refine RunCR.region ?_
    refine RunLR.val (Val.oload_one rfl hS1.x (by simp) ty_73 rfl) rfl rfl rfl ?_
    refine RunLR.val (Val.pure rfl) rfl rfl rfl ?_
    refine RunLR.val (Val.fieldAddr rfl fld_72_0) rfl rfl rfl ?_
    refine RunLR.val (Val.fieldAddr rfl fld_26_5) rfl rfl rfl ?_
    refine RunLR.val (Val.oload_one rfl hS1.v (by simp) ty_24 rfl) rfl rfl rfl ?_
    refine RunLR.val (Val.len_sl rfl sl_24) rfl rfl rfl ?_
    refine RunLR.val (Val.pure rfl) rfl rfl rfl ?_
    refine RunLR.nil ?_
    refine RunER.next ?_
    refine RunCR.block ?_
    refine RunCR.loopW (p.things.length) (fun k q => (21, .int .i64 (k : Int)) :: q) (fun k Wk => J (triedK p pw k) Wk ∧ Seen p q b o cap pw bv b1 Wk) (fun w hm => ⟨hJm hJ1 hm, hS1.mem hm⟩) (Sub.consE (t := 21) rfl rfl (Sub.cons (t := 0) rfl (Sub.cons (t := 1) rfl (Sub.cons (t := 19) rfl (Sub.cons (t := 20) rfl (Sub.nil _)))))) ?_
    intro k Wk kN kI
    obtain ⟨hJk, hSk⟩ := kI
    refine RunCR.seq ?_
    refine RunCR.region ?_
    refine RunLR.val (Val.pure rfl) rfl rfl rfl ?_
    refine RunLR.nil ?_
    refine RunER.next ?_
    refine RunCR.seq ?_
    refine RunCR.cond rfl ?_ ?_
    · intro c1
      have c1' := c1; clear c1
      try simp only [decide_eq_true_eq, decide_eq_false_iff_not, Bool.not_eq_true', Bool.not_eq_false', Bool.and_eq_true, Bool.or_eq_true, Bool.and_eq_false_iff, Bool.or_eq_false_iff, Int.not_le, Int.not_lt] at c1'
      have hk : k < p.things.length := by omega
      obtain ⟨t, ht⟩ : ∃ t, p.things[k] = t := ⟨_, rfl⟩
      have hth := hp.ths _ (List.getElem_mem hk)
      rw [ht] at hth
      refine RunCR.skip ?_
      refine RunER.next ?_
      refine RunCR.seq ?_
      refine RunCR.block ?_
      refine RunCR.seq ?_
      refine RunCR.region ?_
      refine RunLR.val (Val.indexAddr_slp rfl rfl sl_24 (by omega) (by omega) (hSk.s.ptrM hk)) rfl rfl rfl ?_
      refine RunLR.val (Val.load_gen rfl (fun w hm => hSk.s.loadX (by decide) hm (by simp) ty_47 hk ht)) rfl rfl rfl ?_
      refine RunLR.new (New.alloc zero_47) rfl rfl rfl (fun b4 => ?_)
      refine RunLR.sto (Sto.store rfl rfl .here ty_47 rfl rfl) rfl rfl ?_
      refine RunLR.nil ?_
      refine RunER.next ?_
      refine RunCR.seq ?_
      refine RunCR.of ?_
      apply RunC.drawJ (J := J1 _ _ _ _ _ _) 12 fol_ (.cons .here rfl .nil)
      · refine RunA.val (i := 0) rfl (by kernel_rfl) (by kernel_rfl) (Val.oload_one rfl hSk.x (by simp) ty_73 rfl) rfl rfl rfl (fun _ _ _ h => h) (.cons .here rfl .nil) rfl ?_
        refine RunA.val (i := 1) rfl (by kernel_rfl) (by kernel_rfl) (Val.load_agg rfl (.head _) ty_47 rfl) rfl rfl rfl (fun _ _ _ h => h) (.cons .here rfl .nil) rfl ?_
        refine RunA.val (i := 2) rfl (by kernel_rfl) (by kernel_rfl) (Val.oload_one rfl hSk.x (by simp) ty_73 rfl) rfl rfl rfl (fun _ _ _ h => h) (.cons .here rfl .nil) rfl ?_
        refine RunA.val (i := 3) rfl (by kernel_rfl) (by kernel_rfl) (Val.pure rfl) rfl rfl rfl (fun _ _ _ h => h) (.cons .here rfl .nil) rfl ?_
        refine RunA.val (i := 4) rfl (by kernel_rfl) (by kernel_rfl) (Val.fieldAddr rfl fld_72_1) rfl rfl rfl (fun _ _ _ h => h) (.cons .here rfl .nil) rfl ?_
        refine RunA.val (i := 5) rfl (by kernel_rfl) (by kernel_rfl) (Val.oload_agg rfl hSk.v (by simp) ty_70 rfl) rfl rfl rfl (fun _ _ _ h => h) (.cons .here rfl .nil) rfl ?_
        refine RunA.all (rs := [6, 10]) (by kernel_rfl) (by simp) (by kernel_rfl) (fun m hm => ?_)
        simp only [List.mem_cons, List.not_mem_nil, or_false] at hm
        rcases hm with rfl | rfl
        · refine RunI.callP rfl (isCall_func rfl ent_53) rfl rfl rfl (fun w hm => still_calls p hp q cap pw t hth.1 hth.2 pw bv w (hm.old_at hSk.v (by simp))) (RunK.toA (.cons .here rfl .nil) (.cons .here rfl .nil) rfl ?_)
          refine RunA.val (i := 7) rfl (by kernel_rfl) (by kernel_rfl) (Val.pure rfl) rfl rfl rfl (fun _ _ _ h => h) (.cons .here rfl .nil) rfl ?_
          refine RunA.val (i := 8) rfl (by kernel_rfl) (by kernel_rfl) (Val.pure rfl) rfl rfl rfl (fun _ _ _ h => h) (.cons .here rfl .nil) rfl ?_
          refine RunA.val (i := 9) rfl (by kernel_rfl) (by kernel_rfl) (Val.pure rfl) rfl rfl rfl (fun _ _ _ h => h) (.cons .here rfl .nil) rfl ?_
          refine RunA.one (i := 10) (by kernel_rfl) (by kernel_rfl) ?_
          refine RunI.new rfl (New.alloc zero_70) rfl rfl rfl (fun b5 => (RunK.toA (.cons (.there .here) rfl .nil) (.cons .here rfl .nil) rfl ?_))
          refine RunA.one (i := 11) (by kernel_rfl) (by kernel_rfl) ?_
          refine RunI.sto rfl (Sto.store rfl rfl .here ty_70 rfl rfl) rfl rfl (RunK.toA (.cons (.there .here) rfl .nil) (.cons .here rfl .nil) rfl ?_)
          refine RunA.toB (by kernel_rfl) ?_
          refine RunB.one (i := 12) (by kernel_rfl) ?_
          refine RunI.val rfl (Val.pure rfl) rfl rfl rfl (RunK.toB ?_)
          refine RunB.done (by kernel_rfl) ?_
          exact RunE.join1 b5 (Sub.refl _) (Pick.refl _)
        · refine RunI.new rfl (New.alloc zero_70) rfl rfl rfl (fun b5 => (RunK.toA (.cons (.there .here) rfl .nil) (.cons .here rfl .nil) rfl ?_))
          refine RunA.one (i := 6) (by kernel_rfl) (by kernel_rfl) ?_
          refine RunI.callP rfl (isCall_func rfl ent_53) rfl rfl rfl (fun w hm => still_calls p hp q cap pw t hth.1 hth.2 pw bv w (hm.old_at hSk.v (by simp))) (RunK.toA (.cons (.there .here) rfl .nil) (.cons .here rfl .nil) rfl ?_)
          refine RunA.val (i := 7) rfl (by kernel_rfl) (by kernel_rfl) (Val.pure rfl) rfl rfl rfl (fun _ _ _ h => h) (.cons (.there .here) rfl .nil) rfl ?_
          refine RunA.val (i := 8) rfl (by kernel_rfl) (by kernel_rfl) (Val.pure rfl) rfl rfl rfl (fun _ _ _ h => h) (.cons (.there .here) rfl .nil) rfl ?_
          refine RunA.val (i := 9) rfl (by kernel_rfl) (by kernel_rfl) (Val.pure rfl) rfl rfl rfl (fun _ _ _ h => h) (.cons (.there .here) rfl .nil) rfl ?_
          refine RunA.one (i := 11) (by kernel_rfl) (by kernel_rfl) ?_
          refine RunI.sto rfl (Sto.store rfl rfl .here ty_70 rfl rfl) rfl rfl (RunK.toA (.cons (.there .here) rfl .nil) (.cons .here rfl .nil) rfl ?_)
          refine RunA.toB (by kernel_rfl) ?_
          refine RunB.one (i := 12) (by kernel_rfl) ?_
          refine RunI.val rfl (Val.pure rfl) rfl rfl rfl (RunK.toB ?_)
          refine RunB.done (by kernel_rfl) ?_
          exact RunE.join1 b5 (Sub.cons (t := 6) rfl (Sub.cons (t := 5) rfl (Sub.cons (t := 34) rfl (Sub.cons (t := 33) rfl (Sub.cons (t := 25) rfl (Sub.cons (t := 32) rfl (Sub.cons (t := 31) rfl (Sub.cons (t := 30) rfl (Sub.cons (t := 29) rfl (Sub.cons (t := 28) rfl (Sub.cons (t := 27) rfl (Sub.cons (t := 26) rfl (Sub.skip rfl (Sub.skip rfl (Sub.skip rfl (Sub.skip rfl (Sub.skip rfl (Sub.skip rfl (Sub.skip rfl (Sub.skip rfl (Sub.skip rfl (Sub.skip rfl (Sub.skip rfl (Sub.skip rfl (Sub.refl _))))))))))))))))))))))))) (.cons .here rfl (.cons .here rfl .nil))
      refine J1.out (fun b5 => ?_)
      refine RunER.next ?_
      refine RunCR.seq ?_
      refine RunCR.region ?_
      refine RunLR.val (Val.pure rfl) rfl rfl rfl ?_
      refine RunLR.val (Val.pure rfl) rfl rfl rfl ?_
      refine RunLR.ways (dj := 36) rfl ?_ ?_
      · intro g36
        have g36' := g36; clear g36
        try simp only [decide_eq_true_eq, decide_eq_false_iff_not, Bool.not_eq_true', Bool.not_eq_false', Bool.and_eq_true, Bool.or_eq_true, Bool.and_eq_false_iff, Bool.or_eq_false_iff, Int.not_le, Int.not_lt] at g36'
        refine RunLR.val (Val.pure rfl) rfl rfl rfl ?_
        refine RunLR.val (Val.indexAddr_arr rfl rfl arr_70 (by decide) (by decide)) rfl rfl rfl ?_
        refine RunLR.val (Val.load_one rfl (.head _) ty_3 rfl) rfl rfl rfl ?_
        refine RunLR.yield (RY := fun y w' => (y = true ∧ J (triedK p pw k ++ [(stillS p t pw).1.1]) w' ∧ Seen p q b o cap pw bv b1 w') ∨ (y = false ∧ Jx (triedK p pw k ++ [(stillS p t pw).1.1]) w')) (isYield_value rfl rfl) rfl rfl rfl (fun w hm => hYY _ (stillS p t pw).1.1 w (hJm hJk hm) (by have := triedK_len p pw k; omega) (hSk.mem hm)) ?_
        intro y40 W40 h40
        refine RunLR.val (Val.pure rfl) rfl rfl rfl ?_
        refine RunLR.val (Val.pure rfl) rfl rfl rfl ?_
        refine RunLR.nil ?_
        refine RunER.next ?_
        refine RunCR.cond rfl ?_ ?_
        · intro c2
          have c2' := c2; clear c2
          try simp only [decide_eq_true_eq, decide_eq_false_iff_not, Bool.not_eq_true', Bool.not_eq_false', Bool.and_eq_true, Bool.or_eq_true, Bool.and_eq_false_iff, Bool.or_eq_false_iff, Int.not_le, Int.not_lt] at c2'
          refine RunCR.ret ?_
          refine RunE.block_ret ?_
          refine RunE.pass_ret ?_
          refine RunE.pass_ret ?_
          refine RunE.block_ret ?_
          intro a w2 s
          rcases h40 with ⟨h, _⟩ | ⟨_, hX2⟩
          · rw [h] at c2'; cases c2'
          · exact ⟨s.defers, _, results_none rfl _ _ _, ⟨_, rfl⟩, .inr ⟨_, trivial, hJxm hX2 s.mem⟩⟩
        · intro c2
          have c2' := c2; clear c2
          try simp only [decide_eq_true_eq, decide_eq_false_iff_not, Bool.not_eq_true', Bool.not_eq_false', Bool.and_eq_true, Bool.or_eq_true, Bool.and_eq_false_iff, Bool.or_eq_false_iff, Int.not_le, Int.not_lt] at c2'
          refine RunCR.skip ?_
          refine RunE.block_normal ?_
          refine RunER.next ?_
          refine RunCR.region ?_
          refine RunLR.val (Val.add rfl rfl (IntWalk.i64_in _ ⟨by omega, by omega⟩)) rfl rfl rfl ?_
          refine RunLR.val (Val.pure rfl) rfl rfl rfl ?_
          refine RunLR.nil ?_
          exact RunE.roundW (by omega) (fun w hm => (by first | exact ⟨by rw [triedK_no (thingAt_eq hk ht) g36']; exact hJm hJk hm, hSk.mem hm⟩ | (rcases h40 with ⟨_, hJ2, hS2⟩ | ⟨h, _⟩; exact ⟨by rw [triedK_yes (thingAt_eq hk ht) g36']; exact hJm hJ2 hm, hS2.mem hm⟩; rw [h] at c2'; cases c2'))) (Sub.consE (t := 21) rfl rfl (Sub.cons (t := 0) rfl (Sub.cons (t := 1) rfl (Sub.cons (t := 19) rfl (Sub.cons (t := 20) rfl (Sub.nil _))))))
      · intro g36
        have g36' := g36; clear g36
        try simp only [decide_eq_true_eq, decide_eq_false_iff_not, Bool.not_eq_true', Bool.not_eq_false', Bool.and_eq_true, Bool.or_eq_true, Bool.and_eq_false_iff, Bool.or_eq_false_iff, Int.not_le, Int.not_lt] at g36'
        iterate 5 refine RunLR.no rfl rfl rfl ?_
        refine RunLR.val (Val.pure rfl) rfl rfl rfl ?_
        refine RunLR.nil ?_
        refine RunER.next ?_
        refine RunCR.cond rfl ?_ ?_
        · intro c2
          have c2' := c2; clear c2
          try simp only [decide_eq_true_eq, decide_eq_false_iff_not, Bool.not_eq_true', Bool.not_eq_false', Bool.and_eq_true, Bool.or_eq_true, Bool.and_eq_false_iff, Bool.or_eq_false_iff, Int.not_le, Int.not_lt] at c2'
          refine RunCR.ret ?_
          refine RunE.block_ret ?_
          refine RunE.pass_ret ?_
          refine RunE.pass_ret ?_
          refine RunE.block_ret ?_
          exact absurd c2' (by simp)
        · intro c2
          have c2' := c2; clear c2
          try simp only [decide_eq_true_eq, decide_eq_false_iff_not, Bool.not_eq_true', Bool.not_eq_false', Bool.and_eq_true, Bool.or_eq_true, Bool.and_eq_false_iff, Bool.or_eq_false_iff, Int.not_le, Int.not_lt] at c2'
          refine RunCR.skip ?_
          refine RunE.block_normal ?_
          refine RunER.next ?_
          refine RunCR.region ?_
          refine RunLR.val (Val.add rfl rfl (IntWalk.i64_in _ ⟨by omega, by omega⟩)) rfl rfl rfl ?_
          refine RunLR.val (Val.pure rfl) rfl rfl rfl ?_
          refine RunLR.nil ?_
          exact RunE.roundW (by omega) (fun w hm => (by first | exact ⟨by rw [triedK_no (thingAt_eq hk ht) g36']; exact hJm hJk hm, hSk.mem hm⟩ | (rcases h40 with ⟨_, hJ2, hS2⟩ | ⟨h, _⟩; exact ⟨by rw [triedK_yes (thingAt_eq hk ht) g36']; exact hJm hJ2 hm, hS2.mem hm⟩; rw [h] at c2'; cases c2'))) (Sub.consE (t := 21) rfl rfl (Sub.cons (t := 0) rfl (Sub.cons (t := 1) rfl (Sub.cons (t := 19) rfl (Sub.cons (t := 20) rfl (Sub.nil _))))))
    · intro c1
      have c1' := c1; clear c1
      try simp only [decide_eq_true_eq, decide_eq_false_iff_not, Bool.not_eq_true', Bool.not_eq_false', Bool.and_eq_true, Bool.or_eq_true, Bool.and_eq_false_iff, Bool.or_eq_false_iff, Int.not_le, Int.not_lt] at c1'
      obtain rfl : k = p.things.length := by omega
      refine RunCR.exit ?_
      refine RunE.pass_exit ?_
      refine RunE.pass_exit ?_
      refine RunE.block_here ?_
      intro a w2 s
      exact ⟨s.defers, _, results_none rfl _ _ _, ⟨_, rfl⟩, .inl ⟨_, rfl, hJm hJk s.mem⟩⟩
theorem tried_calls (bv : Nat) (W : World) : Calls Try.prog 69 #[.pointer (some ⟨bv, 0, none⟩)] W (News (fun b => .func (.func 83) #[] #[.pointer (some ⟨b, 0, none⟩)]) (fun b => [(b, .cells [.pointer (some ⟨bv, 0, none⟩)].toArray 73 (0, 0))]) W) := by
  refine calls_start Try.func69 rfl rfl ?_
  refine RunC.seq ?_
  refine RunC.region ?_
  refine RunL.new (New.box rfl) rfl rfl rfl (fun b1 => ?_)
  refine RunL.val (Val.pure rfl) rfl rfl rfl ?_
  refine RunL.nil ?_
  refine RunE.next ?_
  refine RunC.seq ?_
  refine RunC.region ?_
  refine RunL.val (Val.pure rfl) rfl rfl rfl ?_
  refine RunL.val (Val.pure rfl) rfl rfl rfl ?_
  refine RunL.nil ?_
  refine RunE.next ?_
  refine RunC.ret ?_
  exact RunE.ret (chg := []) (.r1 rfl (.tmp rfl)) (fun _ hm => ⟨b1, rfl, hm⟩)
theorem caughtIn_calm (b : Nat) (w : World) : CallsDIn Fence.wide 8 Try.prog 41 #[.pointer (some ⟨b, 0, none⟩)] .returning w fun e u w' => (∃ v, e = .returned v) ∧ u = .returning ∧ Mem w [] [] w' := by
  refine callsDIn_of_wpSIn Try.func41 rfl trivial fun c₀ cs hu => ?_
  refine wpSIn_seq ?_
  refine wpSIn_region ?_
  simp [wpOpsSIn, Fence.wide, go_sem, recoverD, hu, Try.ntmps41, Exit.thenS]
  refine wpSIn_of_wpIn rfl ?_
  refine wpIn_wide.2 ?_
  refine RunC.at 20 [(0, .pointer (some ⟨b, 0, none⟩)), (2, .nilIface)] w [] ?_ ?_
  · exact ⟨by simp, .consA (by simp) (.consA (by simp [Array.getElem?_append]) (Agree.nil _)), rfl, Mem.refl w⟩
  refine RunC.seq ?_
  refine RunC.region ?_
  refine RunL.val (Val.pure rfl) rfl rfl rfl ?_
  refine RunL.val (Val.neq_nil_nil rfl und_20) rfl rfl rfl ?_
  refine RunL.nil ?_
  refine RunE.next ?_
  refine RunC.cond rfl (fun h => absurd h (by simp)) ?_
  intro c0
  clear c0
  refine RunC.skip ?_
  intro a w2 s
  exact ⟨s.defers, .returning, by rw [← hu], _, results_none rfl _ _ _, ⟨_, rfl⟩, rfl, s.mem.drop⟩
theorem caughtIn_wild (b : Nat) (k : Int) (x : Value) (w : World) (hb : w.heap[b]? = some (.cells #[x] 28 (0, 0))) : CallsDIn Fence.wide 8 Try.prog 41 #[.pointer (some ⟨b, 0, none⟩)] (.panicking [{ v := misf k, recovered := false }]) w fun e u w' =>
    (∃ v, e = .returned v) ∧ u = .panicking [{ v := misf k, recovered := true }] ∧ Mem w [(b, .cells #[.int .i64 k] 28 (0, 0))] [] w' := by
  refine callsDIn_of_wpSIn Try.func41 rfl trivial fun c₀ cs hu => ?_
  refine wpSIn_seq ?_
  refine wpSIn_region ?_
  simp [wpOpsSIn, Fence.wide, go_sem, recoverD, hu, Try.ntmps41, Exit.thenS]
  refine wpSIn_of_wpIn rfl ?_
  refine wpIn_wide.2 ?_
  refine RunC.at 20 [(0, .pointer (some ⟨b, 0, none⟩)), (2, misf k)] w [(b, .cells #[x] 28 (0, 0))] ?_ ?_
  · exact ⟨by simp, .consA (by simp) (.consA (by simp [Array.getElem?_append]) (Agree.nil _)), rfl, Mem.start hb⟩
  refine RunC.seq ?_
  refine RunC.region ?_
  refine RunL.val (Val.pure rfl) rfl rfl rfl ?_
  refine RunL.val (Val.neq_iface_nil rfl und_20) rfl rfl rfl ?_
  refine RunL.nil ?_
  refine RunE.next ?_
  refine RunC.cond rfl ?_ (fun h => absurd h (by simp))
  intro c0
  clear c0
  refine RunC.seq ?_
  refine RunC.region ?_
  refine RunL.val (Val.pure rfl) rfl rfl rfl ?_
  refine RunL.val (Val.assert_ok rfl noif_108) rfl rfl rfl ?_
  iterate 3 refine RunL.val (Val.pure rfl) rfl rfl rfl ?_
  refine RunL.new (New.alloc zero_108) rfl rfl rfl (fun b3 => ?_)
  refine RunL.sto (Sto.store rfl rfl .here ty_108 rfl rfl) rfl rfl ?_
  refine RunL.val (Val.pure rfl) rfl rfl rfl ?_
  refine RunL.nil ?_
  refine RunE.next ?_
  refine RunC.seq ?_
  refine RunC.seq ?_
  refine RunC.region ?_
  refine RunL.val (Val.pure rfl) rfl rfl rfl ?_
  refine RunL.val (Val.pure rfl) rfl rfl rfl ?_
  refine RunL.nil ?_
  refine RunE.next ?_
  refine RunC.cond rfl (fun h => absurd h (by simp)) ?_
  intro c1
  clear c1
  refine RunC.skip ?_
  refine RunE.next ?_
  refine RunC.region ?_
  refine RunL.val (Val.pure rfl) rfl rfl rfl ?_
  refine RunL.val (Val.fieldAddr rfl fld_108_0) rfl rfl rfl ?_
  refine RunL.val (Val.load_one rfl (.tail _ (.head _)) ty_28 rfl) rfl rfl rfl ?_
  refine RunL.val (Val.pure rfl) rfl rfl rfl ?_
  refine RunL.sto (Sto.store_chg rfl rfl .here ty_28 rfl rfl) rfl rfl ?_
  refine RunL.nil ?_
  intro a w2 s
  exact ⟨s.defers, .panicking [{ v := misf k, recovered := true }], rfl, _, results_none rfl _ _ _, ⟨_, rfl⟩, rfl, s.mem.drop⟩
theorem catchesIn : CatchesIn Try.prog 41 28 misf := ⟨caughtIn_calm, fun b k x w h => caughtIn_wild b k x w h⟩
end Go.Proofs.Ythppnhjggdebbaa
