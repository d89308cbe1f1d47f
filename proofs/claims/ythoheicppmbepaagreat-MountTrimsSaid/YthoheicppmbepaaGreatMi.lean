/- Walks of package mount: all trimmings are handed out. -/
import Derived.Test.YthoheicppmbepaaGreatMh
set_option linter.unusedSimpArgs false
set_option linter.unusedVariables false
namespace Go.Proofs.YthoheicppmbepaaGreat
open Go Go.Eng Go.Pw1

structure TrY (c : Cd) (q : Option Addr) (cap bc bm b1 : Nat) (W : World) : Prop where
  v : W.heap[bc]? = some (cdO c q cap bm)
  x : W.heap[b1]? = some (.cells [.pointer (some ⟨bc, 0, none⟩)].toArray 48 (0, 0))
theorem TrY.mem {c : Cd} {q : Option Addr} {cap bc bm b1 : Nat} {W w : World} {news : Blks} (h : TrY c q cap bc bm b1 W) (hm : Mem W [] news w) : TrY c q cap bc bm b1 w := ⟨hm.old_at h.v (by simp), hm.old_at h.x (by simp)⟩
theorem TrY.kp {c : Cd} {q : Option Addr} {cap bc bm b1 B : Nat} {nm : List Nat} {W W' : World} (h : TrY c q cap bc bm b1 W) (h1 : bc < B ∧ bc ∉ nm) (h2 : b1 < B ∧ b1 ∉ nm) (hk : KpX B nm W W') : TrY c q cap bc bm b1 W' :=
  ⟨(hk bc h1.1 h1.2).trans h.v, (hk b1 h2.1 h2.2).trans h.x⟩
theorem trimmings_calls (bc : Nat) (W : World) : Calls Tryz.prog 76 #[.pointer (some ⟨bc, 0, none⟩)] W (News (fun b => .func (.func 98) #[] #[.pointer (some ⟨b, 0, none⟩)]) (fun b => [(b, .cells [.pointer (some ⟨bc, 0, none⟩)].toArray 48 (0, 0))]) W) := by
  refine calls_start Tryz.func76 rfl rfl ?_
  refine RunC.seq ?_
  refine RunC.region ?_
  refine RunL.new (New.box rfl) rfl rfl rfl (fun b1 => ?_)
  refine RunL.val (Val.pure rfl) rfl rfl rfl ?_
  refine RunL.nil ?_
  refine RunE.next ?_
  refine RunC.seq ?_
  refine RunC.region ?_
  refine RunL.val (Val.pure rfl) rfl rfl rfl ?_
  refine RunL.val (Val.pure rfl) rfl rfl rfl ?_
  refine RunL.nil ?_
  refine RunE.next ?_
  refine RunC.ret ?_
  exact RunE.ret (chg := []) (.r1 rfl (.tmp rfl)) (fun _ hm => ⟨b1, rfl, hm⟩)
abbrev pre3 (c : Cd) (k m n : Nat) : List Tr := trO c (fromZ 0 k) ++ trA c k (fromZ (oneLo c k) m) ++ trD k (oneLo c k + m) (fromZ (oneLo c k) n)
set_option maxHeartbeats 2000000 in
theorem trims_stops (c : Cd) (hc : c.Ok) (q : Option Addr) (cap bc bm b1 : Nat) (w0 : World) (nm : List Nat) (h0 : TrY c q cap bc bm b1 w0) (hs1 : bc < w0.heap.size ∧ bc ∉ nm) (hs2 : b1 < w0.heap.size ∧ b1 ∉ nm) :
    SeqStopsK (Fr none) 8 Tryz.prog 98 #[.pointer (some ⟨b1, 0, none⟩)] (fun x : TrS c => #[.agg #[.int .i64 x.1.ll, .int .i64 x.1.lr, .int .i64 x.1.rl, .int .i64 x.1.rr]]) (KpX w0.heap.size nm) (fun xs => xs = subL c (trimsM c)) (fun pre => ∃ rest, pre ++ rest = subL c (trimsM c)) 200000 w0 := by
  unfold SeqStopsK
  intro l J Jx W hW hJ hJx hY hJ0
  have c1 := hc.c1
  have c2 := hc.c2
  have hSn : TrY c q cap bc bm b1 W := ⟨(hW.block bc hs1.1).trans h0.v, (hW.block b1 hs2.1).trans h0.x⟩
  have hJm : ∀ {s : List (TrS c)} {A C : World} {news : Blks}, J s A → Mem A [] news C → J s C := fun h hm => hJ _ _ _ none h hm.grown (fun r e => by cases e)
  have hJxm : ∀ {s : List (TrS c)} {A C : World} {news : Blks}, Jx s A → Mem A [] news C → Jx s C := fun h hm => hJx _ _ _ none h hm.grown (fun r e => by cases e)
  have hYY : ∀ (pre : List (TrS c)) (x : TrS c) (A : World), J pre A → pre.length < 200000 → TrY c q cap bc bm b1 A → YieldAt (Fr none) 8 Tryz.prog l #[.agg #[.int .i64 x.1.ll, .int .i64 x.1.lr, .int .i64 x.1.rl, .int .i64 x.1.rr]] A (fun e w' => ∃ y, e = .returned (.bool y) ∧ ((y = true ∧ J (pre ++ [x]) w' ∧ TrY c q cap bc bm b1 w') ∨ (y = false ∧ Jx (pre ++ [x]) w'))) := fun pre x A h1 h2 h3 =>
    yieldAt_any (hY pre x A h1 h2) (fun e w' hh => by
      rcases hh with ⟨rfl, hh, hk⟩ | ⟨rfl, hh⟩
      · exact ⟨true, rfl, .inl ⟨rfl, hh, h3.kp hs1 hs2 hk⟩⟩
      · exact ⟨false, rfl, .inr ⟨rfl, hh⟩⟩)
  have hlen := trims_len hc
  refine callsIn_start (vs := [.func (.yield l) #[] #[], .pointer (some ⟨b1, 0, none⟩)]) Tryz.func98 rfl rfl ?_ 8
  refine RunCR.seq ?_
  refine RunCR.region ?_
  refine RunLR.val (Val.oload_one rfl hSn.x (by simp) ty_48 rfl) rfl rfl rfl ?_
  refine RunLR.val (Val.pure rfl) rfl rfl rfl ?_
  refine RunLR.val (Val.fieldAddr rfl fld_53_0) rfl rfl rfl ?_
  refine RunLR.val (Val.fieldAddr rfl fld_28_3) rfl rfl rfl ?_
  refine RunLR.val (Val.oload_one rfl hSn.v (by simp) ty_3 rfl) rfl rfl rfl ?_
  refine RunLR.val (Val.mul rfl rfl (IntWalk.i64_in _ ⟨by omega, by omega⟩)) rfl rfl rfl ?_
  refine RunLR.val (Val.add rfl rfl (IntWalk.i64_in _ ⟨by omega, by omega⟩)) rfl rfl rfl ?_
  refine RunLR.val (Val.pure rfl) rfl rfl rfl ?_
  refine RunLR.nil ?_
  refine RunER.next ?_
  refine RunCR.block ?_
  refine RunCR.loopW ((2 * c.cuts + 1).toNat) (fun k q => (13, .int .i64 (k : Int)) :: q) (fun k Wk => J (subL c (trO c (fromZ 0 k))) Wk ∧ TrY c q cap bc bm b1 Wk) (fun w hm => ⟨hJm hJ0 hm, hSn.mem hm⟩) (Sub.consE (t := 13) rfl rfl (Sub.cons (t := 0) rfl (Sub.cons (t := 1) rfl (Sub.cons (t := 12) rfl (Sub.nil _))))) ?_
  intro k Wk kN kI
  obtain ⟨hJk, hSk⟩ := kI
  refine RunCR.seq ?_
  refine RunCR.region ?_
  refine RunLR.val (Val.pure rfl) rfl rfl rfl ?_
  refine RunLR.nil ?_
  refine RunER.next ?_
  refine RunCR.seq ?_
  refine RunCR.cond rfl ?_ ?_
  · intro c0
    have c0' := c0; clear c0
    try simp only [decide_eq_true_eq, decide_eq_false_iff_not, Bool.not_eq_true', Bool.not_eq_false', Bool.and_eq_true, Bool.or_eq_true, Bool.and_eq_false_iff, Bool.or_eq_false_iff, Int.not_le, Int.not_lt] at c0'
    have hk : k < (2 * c.cuts + 1).toNat := by omega
    have lo0 : 0 ≤ oneLo c k ∧ oneLo c k ≤ 80 := by unfold oneLo; omega
    refine RunCR.skip ?_
    refine RunER.next ?_
    refine RunCR.seq ?_
    refine RunCR.block ?_
    refine RunCR.seq ?_
    refine RunCR.region ?_
    refine RunLR.val (Val.pure rfl) rfl rfl rfl ?_
    refine RunLR.val (Val.pure rfl) rfl rfl rfl ?_
    refine RunLR.nil ?_
    refine RunER.next ?_
    refine RunCR.seq ?_
    refine RunCR.region ?_
    refine RunLR.val (Val.pure rfl) rfl rfl rfl ?_
    refine RunLR.val (Val.oload_one rfl hSk.x (by simp) ty_48 rfl) rfl rfl rfl ?_
    refine RunLR.val (Val.pure rfl) rfl rfl rfl ?_
    refine RunLR.val (Val.fieldAddr rfl fld_53_0) rfl rfl rfl ?_
    refine RunLR.val (Val.fieldAddr rfl fld_28_3) rfl rfl rfl ?_
    refine RunLR.val (Val.oload_one rfl hSk.v (by simp) ty_3 rfl) rfl rfl rfl ?_
    refine RunLR.val (Val.sub' rfl rfl (IntWalk.i64_in _ ⟨by omega, by omega⟩)) rfl rfl rfl ?_
    refine RunLR.val (Val.max rfl rfl) rfl rfl rfl ?_
    refine RunLR.val (Val.pure rfl) rfl rfl rfl ?_
    refine RunLR.nil ?_
    refine RunER.next ?_
    refine RunCR.block ?_
    refine RunCR.loopW (oneN c k) (fun m q => (4, .int .i64 (oneLo c k + m)) :: q) (fun m Wm => J (subL c (trO c (fromZ 0 k) ++ trA c k (fromZ (oneLo c k) m))) Wm ∧ TrY c q cap bc bm b1 Wm) (fun w hm => ⟨hJm (by simpa [trA, fromZ] using hJk) hm, hSk.mem hm⟩) (Sub.consE (t := 4) rfl (by simp [oneLo]) (Sub.cons (t := 0) rfl (Sub.cons (t := 1) rfl (Sub.cons (t := 3) rfl (Sub.cons (t := 12) rfl (Sub.cons (t := 13) rfl (Sub.nil _))))))) ?_
    intro m Wm mN mI
    obtain ⟨hJa, hSm⟩ := mI
    refine RunCR.seq ?_
    refine RunCR.seq ?_
    refine RunCR.region ?_
    refine RunLR.val (Val.pure rfl) rfl rfl rfl ?_
    refine RunLR.val (Val.pure rfl) rfl rfl rfl ?_
    refine RunLR.val (Val.oload_one rfl hSm.x (by simp) ty_48 rfl) rfl rfl rfl ?_
    refine RunLR.val (Val.pure rfl) rfl rfl rfl ?_
    refine RunLR.val (Val.fieldAddr rfl fld_53_0) rfl rfl rfl ?_
    refine RunLR.val (Val.fieldAddr rfl fld_28_3) rfl rfl rfl ?_
    refine RunLR.val (Val.oload_one rfl hSm.v (by simp) ty_3 rfl) rfl rfl rfl ?_
    refine RunLR.val (Val.min rfl rfl) rfl rfl rfl ?_
    refine RunLR.val (Val.pure rfl) rfl rfl rfl ?_
    refine RunLR.nil ?_
    refine RunER.next ?_
    refine RunCR.cond rfl ?_ ?_
    · intro c1
      have c1' := c1; clear c1
      try simp only [decide_eq_true_eq, decide_eq_false_iff_not, Bool.not_eq_true', Bool.not_eq_false', Bool.and_eq_true, Bool.or_eq_true, Bool.and_eq_false_iff, Bool.or_eq_false_iff, Int.not_le, Int.not_lt] at c1'
      have hm3 : m < oneN c k := by unfold oneN oneHi; omega
      refine RunCR.skip ?_
      refine RunER.next ?_
      refine RunCR.seq ?_
      refine RunCR.block ?_
      refine RunCR.seq ?_
      refine RunCR.region ?_
      refine RunLR.val (Val.pure rfl) rfl rfl rfl ?_
      refine RunLR.val (Val.oload_one rfl hSm.x (by simp) ty_48 rfl) rfl rfl rfl ?_
      refine RunLR.val (Val.pure rfl) rfl rfl rfl ?_
      refine RunLR.val (Val.fieldAddr rfl fld_53_0) rfl rfl rfl ?_
      refine RunLR.val (Val.fieldAddr rfl fld_28_3) rfl rfl rfl ?_
      refine RunLR.val (Val.oload_one rfl hSm.v (by simp) ty_3 rfl) rfl rfl rfl ?_
      refine RunLR.val (Val.sub' rfl rfl (IntWalk.i64_in _ ⟨by omega, by omega⟩)) rfl rfl rfl ?_
      refine RunLR.val (Val.max rfl rfl) rfl rfl rfl ?_
      refine RunLR.val (Val.pure rfl) rfl rfl rfl ?_
      refine RunLR.nil ?_
      refine RunER.next ?_
      refine RunCR.block ?_
      refine RunCR.loopW (oneN c k) (fun n q => (5, .int .i64 (oneLo c k + n)) :: q) (fun n Wn => J (subL c (pre3 c k m n)) Wn ∧ TrY c q cap bc bm b1 Wn) (fun w hm => ⟨hJm (by simpa [pre3, trD, fromZ] using hJa) hm, hSm.mem hm⟩) (Sub.consE (t := 5) rfl (by simp [oneLo]) (Sub.cons (t := 0) rfl (Sub.cons (t := 1) rfl (Sub.cons (t := 3) rfl (Sub.cons (t := 4) rfl (Sub.cons (t := 12) rfl (Sub.cons (t := 13) rfl (Sub.nil _)))))))) ?_
      intro n Wn nN nI
      obtain ⟨hJn, hSn3⟩ := nI
      refine RunCR.seq ?_
      refine RunCR.seq ?_
      refine RunCR.region ?_
      refine RunLR.val (Val.pure rfl) rfl rfl rfl ?_
      refine RunLR.val (Val.pure rfl) rfl rfl rfl ?_
      refine RunLR.val (Val.oload_one rfl hSn3.x (by simp) ty_48 rfl) rfl rfl rfl ?_
      refine RunLR.val (Val.pure rfl) rfl rfl rfl ?_
      refine RunLR.val (Val.fieldAddr rfl fld_53_0) rfl rfl rfl ?_
      refine RunLR.val (Val.fieldAddr rfl fld_28_3) rfl rfl rfl ?_
      refine RunLR.val (Val.oload_one rfl hSn3.v (by simp) ty_3 rfl) rfl rfl rfl ?_
      refine RunLR.val (Val.min rfl rfl) rfl rfl rfl ?_
      refine RunLR.val (Val.pure rfl) rfl rfl rfl ?_
      refine RunLR.nil ?_
      refine RunER.next ?_
      refine RunCR.cond rfl ?_ ?_
      · intro c2
        have c2' := c2; clear c2
        try simp only [decide_eq_true_eq, decide_eq_false_iff_not, Bool.not_eq_true', Bool.not_eq_false', Bool.and_eq_true, Bool.or_eq_true, Bool.and_eq_false_iff, Bool.or_eq_false_iff, Int.not_le, Int.not_lt] at c2'
        have hn3 : n < oneN c k := by unfold oneN oneHi; omega
        obtain ⟨rest, hrest⟩ := trims_begin hk hm3 hn3
        have hx : trIs c ⟨oneLo c k + m, k - (oneLo c k + m), oneLo c k + n, k - (oneLo c k + n)⟩ = true := (trims_mem hc).1 (by rw [← hrest]; simp)
        have e3 : subL c (pre3 c k m (n + 1)) = subL c (pre3 c k m n) ++ [(⟨_, hx⟩ : TrS c)] := by (rw [← subL_one hx, ← subL_append]; congr 1; unfold pre3; rw [show fromZ (oneLo c k) (n + 1) = fromZ (oneLo c k) n ++ [oneLo c k + n] from rfl, trD_snoc]; simp only [List.append_assoc])
        have e4 : (subL c (pre3 c k m n) ++ [(⟨_, hx⟩ : TrS c)]) ++ subL c rest = subL c (trimsM c) := by rw [← subL_one hx, ← subL_append, ← subL_append, ← hrest, List.append_assoc]
        have hlt : (subL c (pre3 c k m n)).length < 200000 := by have h1 := congrArg List.length e4; have h2 := subL_len c (trimsM c); rw [List.length_append, List.length_append] at h1; omega
        refine RunCR.skip ?_
        refine RunER.next ?_
        refine RunCR.seq ?_
        refine RunCR.block ?_
        refine RunCR.seq ?_
        refine RunCR.region ?_
        iterate 4 refine RunLR.val (Val.pure rfl) rfl rfl rfl ?_
        refine RunLR.val (Val.sub' rfl rfl (IntWalk.i64_in _ ⟨by omega, by omega⟩)) rfl rfl rfl ?_
        iterate 3 refine RunLR.val (Val.pure rfl) rfl rfl rfl ?_
        refine RunLR.val (Val.sub' rfl rfl (IntWalk.i64_in _ ⟨by omega, by omega⟩)) rfl rfl rfl ?_
        refine RunLR.val (Val.build (parts := [(0, .tmp 55), (1, .tmp 58), (2, .tmp 59), (3, .tmp 62)]) rfl zero_60 places_60 rfl) rfl rfl rfl ?_
        refine RunLR.yield (RY := fun y w' => (y = true ∧ J (subL c (pre3 c k m n) ++ [(⟨_, hx⟩ : TrS c)]) w' ∧ TrY c q cap bc bm b1 w') ∨ (y = false ∧ Jx (subL c (pre3 c k m n) ++ [(⟨_, hx⟩ : TrS c)]) w')) (isYield_value rfl rfl) rfl rfl rfl (fun w hm => hYY _ (⟨_, hx⟩ : TrS c) w (hJm hJn hm) hlt (hSn3.mem hm)) ?_
        intro y64 W64 h64
        refine RunLR.val (Val.pure rfl) rfl rfl rfl ?_
        refine RunLR.nil ?_
        refine RunER.next ?_
        refine RunCR.cond rfl ?_ ?_
        · intro c3
          have c3' := c3; clear c3
          try simp only [decide_eq_true_eq, decide_eq_false_iff_not, Bool.not_eq_true', Bool.not_eq_false', Bool.and_eq_true, Bool.or_eq_true, Bool.and_eq_false_iff, Bool.or_eq_false_iff, Int.not_le, Int.not_lt] at c3'
          refine RunCR.ret ?_
          refine RunE.block_ret ?_
          refine RunE.pass_ret ?_
          refine RunE.pass_ret ?_
          refine RunE.block_ret ?_
          refine RunE.block_ret ?_
          refine RunE.pass_ret ?_
          refine RunE.pass_ret ?_
          refine RunE.block_ret ?_
          refine RunE.block_ret ?_
          refine RunE.pass_ret ?_
          refine RunE.pass_ret ?_
          refine RunE.block_ret ?_
          intro a w2 s
          rcases h64 with ⟨h, _⟩ | ⟨_, hX2⟩
          · rw [h] at c3'; cases c3'
          · exact ⟨s.defers, _, results_none rfl _ _ _, ⟨_, rfl⟩, .inr ⟨_, ⟨_, e4⟩, hJxm hX2 s.mem⟩⟩
        · intro c3
          have c3' := c3; clear c3
          try simp only [decide_eq_true_eq, decide_eq_false_iff_not, Bool.not_eq_true', Bool.not_eq_false', Bool.and_eq_true, Bool.or_eq_true, Bool.and_eq_false_iff, Bool.or_eq_false_iff, Int.not_le, Int.not_lt] at c3'
          refine RunCR.skip ?_
          refine RunE.block_normal ?_
          refine RunER.next ?_
          refine RunCR.region ?_
          refine RunLR.val (Val.pure rfl) rfl rfl rfl ?_
          refine RunLR.val (Val.add rfl rfl (IntWalk.i64_in _ ⟨by omega, by omega⟩)) rfl rfl rfl ?_
          refine RunLR.val (Val.pure rfl) rfl rfl rfl ?_
          refine RunLR.nil ?_
          exact RunE.roundW (by omega) (fun w hm => (by rcases h64 with ⟨_, hJ2, hS2⟩ | ⟨h, _⟩; exact ⟨by (rw [e3]; exact hJm hJ2 hm), hS2.mem hm⟩; rw [h] at c3'; cases c3')) (Sub.consE (t := 5) rfl (congrArg (Value.int .i64) (by omega)) (Sub.cons (t := 0) rfl (Sub.cons (t := 1) rfl (Sub.cons (t := 3) rfl (Sub.cons (t := 4) rfl (Sub.cons (t := 12) rfl (Sub.cons (t := 13) rfl (Sub.nil _))))))))
      · intro c2
        have c2' := c2; clear c2
        try simp only [decide_eq_true_eq, decide_eq_false_iff_not, Bool.not_eq_true', Bool.not_eq_false', Bool.and_eq_true, Bool.or_eq_true, Bool.and_eq_false_iff, Bool.or_eq_false_iff, Int.not_le, Int.not_lt] at c2'
        obtain rfl : n = oneN c k := by (unfold oneN oneHi at *; omega)
        refine RunCR.exit ?_
        refine RunE.pass_exit ?_
        refine RunE.pass_exit ?_
        refine RunE.block_here ?_
        refine RunE.block_normal ?_
        refine RunER.next ?_
        refine RunCR.region ?_
        refine RunLR.val (Val.pure rfl) rfl rfl rfl ?_
        refine RunLR.val (Val.add rfl rfl (IntWalk.i64_in _ ⟨by omega, by omega⟩)) rfl rfl rfl ?_
        refine RunLR.val (Val.pure rfl) rfl rfl rfl ?_
        refine RunLR.nil ?_
        exact RunE.roundW (by omega) (fun w hm => ⟨by (rw [show fromZ (oneLo c k) (m + 1) = fromZ (oneLo c k) m ++ [oneLo c k + m] from rfl, trA_snoc, ← List.append_assoc]; exact hJm hJn hm), hSn3.mem hm⟩) (Sub.consE (t := 4) rfl (congrArg (Value.int .i64) (by omega)) (Sub.cons (t := 0) rfl (Sub.cons (t := 1) rfl (Sub.cons (t := 3) rfl (Sub.cons (t := 12) rfl (Sub.cons (t := 13) rfl (Sub.nil _)))))))
    · intro c1
      have c1' := c1; clear c1
      try simp only [decide_eq_true_eq, decide_eq_false_iff_not, Bool.not_eq_true', Bool.not_eq_false', Bool.and_eq_true, Bool.or_eq_true, Bool.and_eq_false_iff, Bool.or_eq_false_iff, Int.not_le, Int.not_lt] at c1'
      obtain rfl : m = oneN c k := by (unfold oneN oneHi at *; omega)
      refine RunCR.exit ?_
      refine RunE.pass_exit ?_
      refine RunE.pass_exit ?_
      refine RunE.block_here ?_
      refine RunE.block_normal ?_
      refine RunER.next ?_
      refine RunCR.region ?_
      refine RunLR.val (Val.add rfl rfl (IntWalk.i64_in _ ⟨by omega, by omega⟩)) rfl rfl rfl ?_
      refine RunLR.val (Val.pure rfl) rfl rfl rfl ?_
      refine RunLR.nil ?_
      exact RunE.roundW (by omega) (fun w hm => ⟨by (rw [show fromZ 0 (k + 1) = fromZ 0 k ++ [(k : Int)] by simp [fromZ], trO_snoc]; exact hJm hJa hm), hSm.mem hm⟩) (Sub.consE (t := 13) rfl rfl (Sub.cons (t := 0) rfl (Sub.cons (t := 1) rfl (Sub.cons (t := 12) rfl (Sub.nil _)))))
  · intro c0
    have c0' := c0; clear c0
    try simp only [decide_eq_true_eq, decide_eq_false_iff_not, Bool.not_eq_true', Bool.not_eq_false', Bool.and_eq_true, Bool.or_eq_true, Bool.and_eq_false_iff, Bool.or_eq_false_iff, Int.not_le, Int.not_lt] at c0'
    obtain rfl : k = (2 * c.cuts + 1).toNat := by omega
    refine RunCR.exit ?_
    refine RunE.pass_exit ?_
    refine RunE.pass_exit ?_
    refine RunE.block_here ?_
    intro a w2 s
    exact ⟨s.defers, _, results_none rfl _ _ _, ⟨_, rfl⟩, .inl ⟨_, rfl, hJm hJk s.mem⟩⟩
end Go.Proofs.YthoheicppmbepaaGreat
