/- Walks of the laws of layer 1: PairFewest. -/
import Derived.Test.YthppnhjggdebbaaLf
import Derived.Test.YthppnhjggdebbaaFacts5
set_option linter.unusedSimpArgs false
set_option linter.unusedVariables false
namespace Go.Proofs.Ythppnhjggdebbaa
open Go Go.Eng Go.Pw1

abbrev woO (p : Pr) (s : Nat) := { x : Eng.Own // OwnOk 9 x (woP p s).things.length ((woP p s).things.map Th.cells).flatten }
theorem without_calls (p : Pr) (hl : p.things.length ≤ 12) (s : Nat) (hs : s < 4096) (q : Option Addr) (b o cap b1 : Nat) (W : World) (h1 : W.heap[b1]? = some (.cells (p.cells q cap).toArray 26 (0, 0))) (hS : Sl W q b o 9 (p.things.map Th.cells)) :
    Calls Try.prog 35 #[.int .i64 (s : Int), .pointer (some ⟨b1, 0, none⟩)] W (News (fun x : woO p s => (woP p s).v (ownQ x.1) (ownC x.1)) (fun x => ownB 47 x.1 ((woP p s).things.map Th.cells).flatten ++ []) W) := by
  refine calls_start Try.func35 rfl rfl ?_
  refine RunC.seq ?_
  refine RunC.region ?_
  refine RunL.new (New.alloc zero_26) rfl rfl rfl (fun b3 => ?_)
  refine RunL.nil ?_
  refine RunE.next ?_
  refine RunC.seq ?_
  refine RunC.region ?_
  refine RunL.val (Val.oload_agg rfl h1 (by simp) ty_26 rfl) rfl rfl rfl ?_
  refine RunL.new (New.alloc zero_26) rfl rfl rfl (fun b4 => ?_)
  refine RunL.sto (Sto.store rfl rfl .here ty_26 rfl rfl) rfl rfl ?_
  refine RunL.nil ?_
  refine RunE.next ?_
  refine RunC.seq ?_
  refine RunC.region ?_
  refine RunL.val (Val.fieldAddr rfl fld_26_5) rfl rfl rfl ?_
  refine RunL.sto (Sto.store rfl rfl .here ty_24 rfl rfl) rfl rfl ?_
  refine RunL.nil ?_
  refine RunE.next ?_
  refine RunC.seq ?_
  refine RunC.seq ?_
  refine RunC.region ?_
  refine RunL.val (Val.fieldAddr rfl fld_26_5) rfl rfl rfl ?_
  refine RunL.val (Val.oload_one rfl h1 (by simp) ty_24 rfl) rfl rfl rfl ?_
  refine RunL.val (Val.len_sl rfl sl_24) rfl rfl rfl ?_
  refine RunL.val (Val.pure rfl) rfl rfl rfl ?_
  refine RunL.nil ?_
  refine RunE.next ?_
  refine RunC.block ?_
  refine RunC.loopX (X := Eng.Own) (n0 := [(b3, _)]) (p.things.length) (fun k x q => (12, .int .i64 (k : Int)) :: q) (fun _ _ => _) (fun k x => [(b4, .cells [.int .i64 p.focal.lo, .int .i64 p.focal.hi, .int .i64 p.base.lo, .int .i64 p.base.hi, .int .i64 p.tilt, .int .i64 p.near, .int .i64 p.far, ownV x (keepL p s k).length].toArray 26 (0, 0))]) (fun k x => ownB 47 x ((keepL p s k).map Th.cells).flatten ++ []) (fun k x => OwnOk 9 x (keepL p s k).length ((keepL p s k).map Th.cells).flatten) none OwnOk.start rfl (Sub.consE (t := 12) rfl rfl (Sub.cons (t := 0) rfl (Sub.cons (t := 1) rfl (Sub.cons (t := 3) rfl (Sub.cons (t := 4) rfl (Sub.cons (t := 10) rfl (Sub.cons (t := 11) rfl (Sub.nil _)))))))) (.cons .here rfl (.cons .here rfl (Pick.same rfl))) ?_
  intro k x kN kI
  have hx1 := kI
  refine RunC.seq ?_
  refine RunC.region ?_
  refine RunL.val (Val.pure rfl) rfl rfl rfl ?_
  refine RunL.nil ?_
  refine RunE.next ?_
  refine RunC.seq ?_
  refine RunC.cond rfl ?_ ?_
  · intro c0
    have c0' := c0; clear c0
    try simp only [decide_eq_true_eq, decide_eq_false_iff_not, Bool.not_eq_true', Bool.not_eq_false', Bool.and_eq_true, Bool.or_eq_true, Bool.and_eq_false_iff, Bool.or_eq_false_iff, Int.not_le, Int.not_lt] at c0'
    have hk : k < p.things.length := by omega
    obtain ⟨t, ht⟩ : ∃ t, p.things[k] = t := ⟨_, rfl⟩
    refine RunC.skip ?_
    refine RunE.next ?_
    refine RunC.seq ?_
    refine RunC.block ?_
    refine RunC.seq ?_
    refine RunC.region ?_
    refine RunL.val (Val.pure rfl) rfl rfl rfl ?_
    refine RunL.val (Val.indexAddr_slp rfl rfl sl_24 (by omega) (by omega) (hS.ptrM hk)) rfl rfl rfl ?_
    refine RunL.val (Val.load_gen rfl (fun w hm => hS.loadX (by decide) hm (by simp) ty_47 hk ht)) rfl rfl rfl ?_
    refine RunL.new (New.alloc zero_47) rfl rfl rfl (fun b6 => ?_)
    refine RunL.val (Val.pure rfl) rfl rfl rfl ?_
    refine RunL.sto (Sto.store rfl rfl .here ty_47 rfl rfl) rfl rfl ?_
    refine RunL.nil ?_
    refine RunE.next ?_
    refine RunC.seq ?_
    refine RunC.region ?_
    refine RunL.val (Val.pure rfl) rfl rfl rfl ?_
    refine RunL.val (Val.pure rfl) rfl rfl rfl ?_
    refine RunL.val (Val.shrN (a := s) (b := k) rfl rfl (by show k ≤ 64; omega)) rfl rfl rfl ?_
    refine RunL.val (Val.and (a := s >>> k) (b := 1) rfl rfl (by have := Nat.shiftRight_le s k; show _ < 18446744073709551616; omega) (by decide) (i64_inN (by have := Nat.and_le_right (n := s >>> k) (m := 1); omega))) rfl rfl rfl ?_
    refine RunL.val (Val.pure rfl) rfl rfl rfl ?_
    refine RunL.nil ?_
    refine RunE.next ?_
    refine RunC.cond rfl ?_ ?_
    · intro c1
      have c1' := c1; clear c1
      try simp only [decide_eq_true_eq, decide_eq_false_iff_not, Bool.not_eq_true', Bool.not_eq_false', Bool.and_eq_true, Bool.or_eq_true, Bool.and_eq_false_iff, Bool.or_eq_false_iff, Int.not_le, Int.not_lt] at c1'
      have hb := bit_zero c1'
      have hkl := keepL_len p s k
      refine RunC.region ?_
      refine RunL.val (Val.fieldAddr rfl fld_26_5) rfl rfl rfl ?_
      refine RunL.val (Val.load_one rfl (.tail _ (.head _)) ty_24 rfl) rfl rfl rfl ?_
      refine RunL.val (Val.load_agg rfl (.head _) ty_47 rfl) rfl rfl rfl ?_
      refine RunL.new (New.buildSlice (parts := [(0, .tmp 24)]) rfl sl_24 zero_47 rfl rfl rfl rfl) rfl rfl rfl (fun b25 => ?_)
      refine RunL.append (A := [(b25, _), (b6, _), (b4, _), (b3, _)]) (B := _) (x := x) (ys := t.cells) ap_24 rfl rfl rfl hx1 rfl (fun h => by cases h) (fun w hm => src_blk (hm.at (.head _))) (one_of (th_one _)) (by simp only [maxLen]; omega) (by omega) rfl (fun z26 hz26 => ?_)
      obtain ⟨bz26, cz26, rz26, rfl, lz261, lz262, lz263⟩ := hz26.has (by omega)
      refine RunL.val (Val.fieldAddr rfl fld_26_5) rfl rfl rfl ?_
      refine RunL.sto (Sto.store rfl rfl (.there (.there .here)) ty_24 rfl rfl) rfl rfl ?_
      refine RunL.nil ?_
      refine RunE.block_normal ?_
      refine RunE.next ?_
      refine RunC.region ?_
      refine RunL.val (Val.add rfl rfl (IntWalk.i64_in _ ⟨by omega, by omega⟩)) rfl rfl rfl ?_
      refine RunL.val (Val.pure rfl) rfl rfl rfl ?_
      refine RunL.nil ?_
      exact RunE.roundX (some (bz26, cz26, rz26)) (by omega) (by first | (rw [keepL_in (thingAt_eq hk ht) hb, ← flat_snoc, List.length_append]; exact hz26) | (rw [keepL_out hb]; exact hx1)) rfl (Sub.consE (t := 12) rfl rfl (Sub.cons (t := 0) rfl (Sub.cons (t := 1) rfl (Sub.cons (t := 3) rfl (Sub.cons (t := 4) rfl (Sub.cons (t := 10) rfl (Sub.cons (t := 11) rfl (Sub.nil _)))))))) (.cons (.there (.there .here)) (by first | (rw [keepL_in (thingAt_eq hk ht) hb, List.length_append]; rfl) | rw [keepL_out hb]) (.cons (.there (.there .here)) rfl (.cons (.there (.there .here)) (by rw [keepL_in (thingAt_eq hk ht) hb, ← flat_snoc]) .nil)))
    · intro c1
      have c1' := c1; clear c1
      try simp only [decide_eq_true_eq, decide_eq_false_iff_not, Bool.not_eq_true', Bool.not_eq_false', Bool.and_eq_true, Bool.or_eq_true, Bool.and_eq_false_iff, Bool.or_eq_false_iff, Int.not_le, Int.not_lt] at c1'
      have hb := bit_one c1'
      refine RunC.skip ?_
      refine RunE.block_normal ?_
      refine RunE.next ?_
      refine RunC.region ?_
      refine RunL.val (Val.add rfl rfl (IntWalk.i64_in _ ⟨by omega, by omega⟩)) rfl rfl rfl ?_
      refine RunL.val (Val.pure rfl) rfl rfl rfl ?_
      refine RunL.nil ?_
      exact RunE.roundX x (by omega) (by first | (rw [keepL_in (thingAt_eq hk ht) hb, ← flat_snoc, List.length_append]; exact hz26) | (rw [keepL_out hb]; exact hx1)) rfl (Sub.consE (t := 12) rfl rfl (Sub.cons (t := 0) rfl (Sub.cons (t := 1) rfl (Sub.cons (t := 3) rfl (Sub.cons (t := 4) rfl (Sub.cons (t := 10) rfl (Sub.cons (t := 11) rfl (Sub.nil _)))))))) (.cons (.there .here) (by first | (rw [keepL_in (thingAt_eq hk ht) hb, List.length_append]; rfl) | rw [keepL_out hb]) (.cons (.there .here) rfl (Pick.skip (Pick.same (by rw [keepL_out hb])))))
  · intro c0
    have c0' := c0; clear c0
    try simp only [decide_eq_true_eq, decide_eq_false_iff_not, Bool.not_eq_true', Bool.not_eq_false', Bool.and_eq_true, Bool.or_eq_true, Bool.and_eq_false_iff, Bool.or_eq_false_iff, Int.not_le, Int.not_lt] at c0'
    obtain rfl : k = p.things.length := by omega
    have y1 : ownV x (keepL p s p.things.length).length = .slice (ownQ x) (woP p s).things.length (ownC x) := ownV_slice hx1
    simp only [y1]
    refine RunC.exit ?_
    refine RunE.pass_exit ?_
    refine RunE.pass_exit ?_
    refine RunE.block_here ?_
    refine RunE.next ?_
    refine RunC.seq ?_
    refine RunC.region ?_
    refine RunL.val (Val.load_agg rfl (.head _) ty_26 rfl) rfl rfl rfl ?_
    refine RunL.sto (Sto.store rfl rfl (.there .here) ty_26 rfl rfl) rfl rfl ?_
    refine RunL.nil ?_
    refine RunE.next ?_
    refine RunC.ret ?_
    exact RunE.ret (chg := []) (.r1 rfl (.agg rfl (.tail _ (.head _)) ty_26 rfl)) (fun _ hm => ⟨⟨x, hx1⟩, rfl, hm.pick (Pick.skip (Pick.skip (Pick.refl _)))⟩)
theorem wo_sl {p : Pr} {s : Nat} (x : woO p s) {w : World} (hm : ∀ b o, (b, o) ∈ ownB 47 x.1 ((woP p s).things.map Th.cells).flatten ++ [] → w.heap[b]? = some o) : Sl w (ownQ x.1) (ownK x.1) 0 9 ((woP p s).things.map Th.cells) :=
  own_sl th_len (by decide) x.2 (fun b o h => hm b o (List.mem_append_left _ h))
theorem fewest_calls (p : Pr) (other : Nat) (ho : other ≤ 65535) (q : Option Addr) (b o cap : Nat) (W : World) (hS : Sl W q b o 9 (p.things.map Th.cells)) :
    Calls Try.prog 8 #[p.v q cap, .int .u16 (other : Int)] W (Pure (.bool true) W) := by
  refine calls_start Try.func8 rfl rfl ?_
  refine RunC.seq ?_
  refine RunC.region ?_
  refine RunL.new (New.box rfl) rfl rfl rfl (fun b2 => ?_)
  refine RunL.val (Val.pure rfl) rfl rfl rfl ?_
  refine RunL.nil ?_
  refine RunE.next ?_
  refine RunC.seq ?_
  refine RunC.seq ?_
  refine RunC.region ?_
  refine RunL.val (Val.fieldAddr rfl fld_26_5) rfl rfl rfl ?_
  refine RunL.val (Val.load_one rfl (.head _) ty_24 rfl) rfl rfl rfl ?_
  refine RunL.val (Val.len_sl rfl sl_24) rfl rfl rfl ?_
  refine RunL.val (Val.pure rfl) rfl rfl rfl ?_
  refine RunL.nil ?_
  refine RunE.next ?_
  refine RunC.cond rfl ?_ ?_
  · intro c0
    have c0' := c0; clear c0
    try simp only [decide_eq_true_eq, decide_eq_false_iff_not, Bool.not_eq_true', Bool.not_eq_false', Bool.and_eq_true, Bool.or_eq_true, Bool.and_eq_false_iff, Bool.or_eq_false_iff, Int.not_le, Int.not_lt] at c0'
    refine RunC.seq ?_
    refine RunC.region ?_
    refine RunL.callP (isCall_func rfl ent_12) rfl rfl rfl (fun w hm => awake_calls w) ?_
    refine RunL.val (Val.pure rfl) rfl rfl rfl ?_
    refine RunL.nil ?_
    refine RunE.next ?_
    refine RunC.ret ?_
    refine RunE.pass_ret ?_
    exact RunE.retP (.r1 rfl (.tmp rfl)) (by first | rfl | simp)
  · intro c0
    have c0' := c0; clear c0
    try simp only [decide_eq_true_eq, decide_eq_false_iff_not, Bool.not_eq_true', Bool.not_eq_false', Bool.and_eq_true, Bool.or_eq_true, Bool.and_eq_false_iff, Bool.or_eq_false_iff, Int.not_le, Int.not_lt] at c0'
    have hl : p.things.length ≤ 40 := by omega
    have hl2 : p.things.length ≤ 100000000000 := by omega
    have h2n : 2 ^ p.things.length ≤ 2 ^ 40 := Nat.pow_le_pow_right (by omega) hl
    refine RunC.skip ?_
    refine RunE.next ?_
    refine RunC.seq ?_
    refine RunC.region ?_
    refine RunL.val (Val.load_agg rfl (.head _) ty_26 rfl) rfl rfl rfl ?_
    refine RunL.callP (isCall_func rfl ent_25) rfl rfl rfl (fun w hm => Fewest_calls p q b o cap w (hS.mono (by decide) hm (by simp)) hl2) ?_
    iterate 4 refine RunL.val (Val.pure rfl) rfl rfl rfl ?_
    refine RunL.new (New.alloc zero_23) rfl rfl rfl (fun b6 => ?_)
    refine RunL.val (Val.pure rfl) rfl rfl rfl ?_
    refine RunL.sto (Sto.store rfl rfl .here ty_23 rfl rfl) rfl rfl ?_
    refine RunL.val (Val.pure rfl) rfl rfl rfl ?_
    refine RunL.nil ?_
    refine RunE.next ?_
    refine RunC.seq ?_
    refine RunC.region ?_
    refine RunL.val (Val.load_agg rfl (.tail _ (.head _)) ty_26 rfl) rfl rfl rfl ?_
    refine RunL.callP (isCall_func rfl ent_17) rfl rfl rfl (fun w hm => Power_calls p q b o cap w (hS.mono (by decide) hm (by simp)) hl2) ?_
    iterate 3 refine RunL.val (Val.pure rfl) rfl rfl rfl ?_
    refine RunL.new (New.alloc zero_23) rfl rfl rfl (fun b8 => ?_)
    refine RunL.sto (Sto.store rfl rfl .here ty_23 rfl rfl) rfl rfl ?_
    refine RunL.val (Val.pure rfl) rfl rfl rfl ?_
    refine RunL.nil ?_
    refine RunE.next ?_
    refine RunC.seq ?_
    refine RunC.seq ?_
    refine RunC.region ?_
    refine RunL.val (Val.pure rfl) rfl rfl rfl ?_
    refine RunL.val (Val.pure rfl) rfl rfl rfl ?_
    refine RunL.nil ?_
    refine RunE.next ?_
    refine RunC.cond rfl ?_ ?_
    · intro c1
      have c1' := c1; clear c1
      try simp only [decide_eq_true_eq, decide_eq_false_iff_not, Bool.not_eq_true', Bool.not_eq_false', Bool.and_eq_true, Bool.or_eq_true, Bool.and_eq_false_iff, Bool.or_eq_false_iff, Int.not_le, Int.not_lt] at c1'
      obtain ⟨v1, v2, v3, v4⟩ := few_err c1'
      refine RunC.seq ?_
      refine RunC.region ?_
      iterate 4 refine RunL.val (Val.pure rfl) rfl rfl rfl ?_
      refine RunL.andPart (dj := 45) (dp := 48) 3 rfl (fun g45 => by
        have g45' := g45
        try simp only [decide_eq_true_eq, decide_eq_false_iff_not, Bool.not_eq_true', Bool.not_eq_false', Bool.and_eq_true, Bool.or_eq_true, Bool.and_eq_false_iff, Bool.or_eq_false_iff, Int.not_le, Int.not_lt] at g45'
        iterate 3 refine RunL.val (Val.pure rfl) rfl rfl rfl ?_
        exact RunL.segEnd (Sub.cons rfl (Sub.skip rfl (Sub.skip rfl (Sub.skip rfl (Sub.same rfl (by rw [g45]) (Sub.refl _)))))) (List.Sublist.refl _)
      ) (fun g45 => by
        have g45' := g45
        try simp only [decide_eq_true_eq, decide_eq_false_iff_not, Bool.not_eq_true', Bool.not_eq_false', Bool.and_eq_true, Bool.or_eq_true, Bool.and_eq_false_iff, Bool.or_eq_false_iff, Int.not_le, Int.not_lt] at g45'
        refine RunL.no rfl rfl rfl ?_
        refine RunL.no rfl rfl rfl ?_
        refine RunL.val (Val.pure rfl) rfl rfl rfl ?_
        exact RunL.segEnd (Sub.cons rfl (Sub.skip rfl (Sub.skip rfl (Sub.skip rfl (Sub.same rfl (by rw [g45]) (Sub.refl _)))))) (List.Sublist.refl _)
      ) ?_
      refine RunL.val (Val.pure rfl) rfl rfl rfl ?_
      refine RunL.andPart (dj := 49) (dp := 53) 4 rfl (fun g49 => by
        have g49' := g49
        try simp only [decide_eq_true_eq, decide_eq_false_iff_not, Bool.not_eq_true', Bool.not_eq_false', Bool.and_eq_true, Bool.or_eq_true, Bool.and_eq_false_iff, Bool.or_eq_false_iff, Int.not_le, Int.not_lt] at g49'
        refine RunL.val (Val.load_agg rfl (.tail _ (.head _)) ty_23 rfl) rfl rfl rfl ?_
        refine RunL.val (Val.build (parts := []) rfl zero_23 places_23 rfl) rfl rfl rfl ?_
        refine RunL.val (Val.eql_pair rfl rfl pair_23) rfl rfl rfl ?_
        refine RunL.val (Val.pure rfl) rfl rfl rfl ?_
        exact RunL.segEnd (Sub.cons rfl (Sub.skip rfl (Sub.skip rfl (Sub.skip rfl (Sub.skip rfl (Sub.same rfl (by rw [g49]) (Sub.refl _))))))) (List.Sublist.refl _)
      ) (fun g49 => by
        have g49' := g49
        try simp only [decide_eq_true_eq, decide_eq_false_iff_not, Bool.not_eq_true', Bool.not_eq_false', Bool.and_eq_true, Bool.or_eq_true, Bool.and_eq_false_iff, Bool.or_eq_false_iff, Int.not_le, Int.not_lt] at g49'
        iterate 3 refine RunL.no rfl rfl rfl ?_
        refine RunL.val (Val.pure rfl) rfl rfl rfl ?_
        exact RunL.segEnd (Sub.cons rfl (Sub.skip rfl (Sub.skip rfl (Sub.skip rfl (Sub.skip rfl (Sub.same rfl (by rw [g49]) (Sub.refl _))))))) (List.Sublist.refl _)
      ) ?_
      refine RunL.val (Val.pure rfl) rfl rfl rfl ?_
      refine RunL.andPart (dj := 54) (dp := 61) 7 rfl (fun g54 => by
        have g54' := g54
        try simp only [decide_eq_true_eq, decide_eq_false_iff_not, Bool.not_eq_true', Bool.not_eq_false', Bool.and_eq_true, Bool.or_eq_true, Bool.and_eq_false_iff, Bool.or_eq_false_iff, Int.not_le, Int.not_lt] at g54'
        refine RunL.val (Val.pure rfl) rfl rfl rfl ?_
        refine RunL.val (Val.pure rfl) rfl rfl rfl ?_
        refine RunL.val (Val.load_agg rfl (.tail _ (.tail _ (.head _))) ty_26 rfl) rfl rfl rfl ?_
        refine RunL.callP (isCall_func rfl ent_32) rfl rfl rfl (fun w hm => rPair_calls p q b o cap w (hS.mono (by decide) hm (by simp)) hl2) ?_
        refine RunL.val (Val.pure rfl) rfl rfl rfl ?_
        refine RunL.val (Val.eql_bool rfl rfl boolB_4) rfl rfl rfl ?_
        refine RunL.val (Val.pure rfl) rfl rfl rfl ?_
        exact RunL.segEnd (Sub.cons rfl (Sub.skip rfl (Sub.skip rfl (Sub.skip rfl (Sub.skip rfl (Sub.skip rfl (Sub.skip rfl (Sub.skip rfl (Sub.same rfl (by rw [g54]) (Sub.refl _)))))))))) (List.Sublist.refl _)
      ) (fun g54 => by
        have g54' := g54
        try simp only [decide_eq_true_eq, decide_eq_false_iff_not, Bool.not_eq_true', Bool.not_eq_false', Bool.and_eq_true, Bool.or_eq_true, Bool.and_eq_false_iff, Bool.or_eq_false_iff, Int.not_le, Int.not_lt] at g54'
        iterate 6 refine RunL.no rfl rfl rfl ?_
        refine RunL.val (Val.pure rfl) rfl rfl rfl ?_
        exact RunL.segEnd (Sub.cons rfl (Sub.skip rfl (Sub.skip rfl (Sub.skip rfl (Sub.skip rfl (Sub.skip rfl (Sub.skip rfl (Sub.skip rfl (Sub.same rfl (by rw [g54]) (Sub.refl _)))))))))) (List.Sublist.refl _)
      ) ?_
      refine RunL.val (Val.pure rfl) rfl rfl rfl ?_
      refine RunL.andPart (dj := 62) (dp := 64) 2 rfl (fun g62 => by
        have g62' := g62
        try simp only [decide_eq_true_eq, decide_eq_false_iff_not, Bool.not_eq_true', Bool.not_eq_false', Bool.and_eq_true, Bool.or_eq_true, Bool.and_eq_false_iff, Bool.or_eq_false_iff, Int.not_le, Int.not_lt] at g62'
        refine RunL.callP (isCall_func rfl ent_12) rfl rfl rfl (fun w hm => awake_calls w) ?_
        refine RunL.val (Val.pure rfl) rfl rfl rfl ?_
        exact RunL.segEnd (Sub.cons rfl (Sub.skip rfl (Sub.skip rfl (Sub.same rfl (by rw [g62]) (Sub.refl _))))) (List.Sublist.refl _)
      ) (fun g62 => by
        have g62' := g62
        try simp only [decide_eq_true_eq, decide_eq_false_iff_not, Bool.not_eq_true', Bool.not_eq_false', Bool.and_eq_true, Bool.or_eq_true, Bool.and_eq_false_iff, Bool.or_eq_false_iff, Int.not_le, Int.not_lt] at g62'
        refine RunL.no rfl rfl rfl ?_
        refine RunL.val (Val.pure rfl) rfl rfl rfl ?_
        exact RunL.segEnd (Sub.cons rfl (Sub.skip rfl (Sub.skip rfl (Sub.same rfl (by rw [g62]) (Sub.refl _))))) (List.Sublist.refl _)
      ) ?_
      refine RunL.val (Val.pure rfl) rfl rfl rfl ?_
      refine RunL.nil ?_
      refine RunE.next ?_
      refine RunC.ret ?_
      refine RunE.pass_ret ?_
      exact RunE.retP (.r1 rfl (.tmp rfl)) (by rw [v4, v1, v2, v3]; simp)
    · intro c1
      have c1' := c1; clear c1
      try simp only [decide_eq_true_eq, decide_eq_false_iff_not, Bool.not_eq_true', Bool.not_eq_false', Bool.and_eq_true, Bool.or_eq_true, Bool.and_eq_false_iff, Bool.or_eq_false_iff, Int.not_le, Int.not_lt] at c1'
      obtain ⟨hp, hw⟩ := few_fine c1'
      have hlen := hp.len
      have hip := ok_isPair hp
      have hpw := (power_ok hp).2 hw
      obtain ⟨m, hm0⟩ : ∃ m, bestS p (allS p) = m := ⟨_, rfl⟩
      have hfx := few_ok hp hw
      rw [hm0] at hfx
      have fx1 : (fewestX p).1 = (m : Int) := by rw [hfx]
      have fx2 : (fewestX p).2.1 = withK p m p.things.length := by rw [hfx]
      have hmlt := (best_good hw).2
      rw [hm0] at hmlt
      have hwo := wo_best hp hw
      rw [hm0] at hwo
      have hot := wo_other hp hw (less_noland p (other &&& (2 ^ p.things.length - 1)))
      rw [hm0] at hot
      have hp12 : 2 ^ p.things.length ≤ 4096 := by have : 2 ^ p.things.length ≤ 2 ^ 12 := Nat.pow_le_pow_right (by omega) hlen; omega
      have hpos := Nat.two_pow_pos p.things.length
      obtain ⟨s0, hs0⟩ : ∃ s0, other &&& (2 ^ p.things.length - 1) = s0 := ⟨_, rfl⟩
      have hs0l : s0 ≤ 2 ^ p.things.length - 1 := by rw [← hs0]; exact Nat.and_le_right
      rw [hs0] at hot
      have hsl := lessK_le p s0
      simp only [fx1]
      refine RunC.skip ?_
      refine RunE.next ?_
      refine RunC.seq ?_
      refine RunC.seq ?_
      refine RunC.region ?_
      iterate 3 refine RunL.val (Val.pure rfl) rfl rfl rfl ?_
      refine RunL.orPart (dj := 67) (dp := 71) 4 rfl (fun g67 => by
        have g67' := g67
        try simp only [decide_eq_true_eq, decide_eq_false_iff_not, Bool.not_eq_true', Bool.not_eq_false', Bool.and_eq_true, Bool.or_eq_true, Bool.and_eq_false_iff, Bool.or_eq_false_iff, Int.not_le, Int.not_lt] at g67'
        refine RunL.val (Val.load_agg rfl (.tail _ (.tail _ (.head _))) ty_26 rfl) rfl rfl rfl ?_
        refine RunL.callP (isCall_func rfl ent_32) rfl rfl rfl (fun w hm => rPair_calls p q b o cap w (hS.mono (by decide) hm (by simp)) hl2) ?_
        refine RunL.val (Val.pure rfl) rfl rfl rfl ?_
        refine RunL.val (Val.pure rfl) rfl rfl rfl ?_
        exact RunL.segEnd (Sub.cons rfl (Sub.skip rfl (Sub.skip rfl (Sub.skip rfl (Sub.skip rfl (Sub.same rfl (by rw [g67]) (Sub.refl _))))))) (List.Sublist.refl _)
      ) (fun g67 => by
        have g67' := g67
        try simp only [decide_eq_true_eq, decide_eq_false_iff_not, Bool.not_eq_true', Bool.not_eq_false', Bool.and_eq_true, Bool.or_eq_true, Bool.and_eq_false_iff, Bool.or_eq_false_iff, Int.not_le, Int.not_lt] at g67'
        iterate 3 refine RunL.no rfl rfl rfl ?_
        refine RunL.val (Val.pure rfl) rfl rfl rfl ?_
        exact RunL.segEnd (Sub.cons rfl (Sub.skip rfl (Sub.skip rfl (Sub.skip rfl (Sub.skip rfl (Sub.same rfl (by rw [g67]) (Sub.refl _))))))) (List.Sublist.refl _)
      ) ?_
      refine RunL.val (Val.pure rfl) rfl rfl rfl ?_
      refine RunL.orPart (dj := 72) (dp := 75) 3 rfl (fun g72 => by
        have g72' := g72
        try simp only [decide_eq_true_eq, decide_eq_false_iff_not, Bool.not_eq_true', Bool.not_eq_false', Bool.and_eq_true, Bool.or_eq_true, Bool.and_eq_false_iff, Bool.or_eq_false_iff, Int.not_le, Int.not_lt] at g72'
        iterate 3 refine RunL.val (Val.pure rfl) rfl rfl rfl ?_
        exact RunL.segEnd (Sub.cons rfl (Sub.skip rfl (Sub.skip rfl (Sub.skip rfl (Sub.same rfl (by rw [g72]) (Sub.refl _)))))) (List.Sublist.refl _)
      ) (fun g72 => by
        have g72' := g72
        try simp only [decide_eq_true_eq, decide_eq_false_iff_not, Bool.not_eq_true', Bool.not_eq_false', Bool.and_eq_true, Bool.or_eq_true, Bool.and_eq_false_iff, Bool.or_eq_false_iff, Int.not_le, Int.not_lt] at g72'
        refine RunL.no rfl rfl rfl ?_
        refine RunL.no rfl rfl rfl ?_
        refine RunL.val (Val.pure rfl) rfl rfl rfl ?_
        exact RunL.segEnd (Sub.cons rfl (Sub.skip rfl (Sub.skip rfl (Sub.skip rfl (Sub.same rfl (by rw [g72]) (Sub.refl _)))))) (List.Sublist.refl _)
      ) ?_
      refine RunL.val (Val.pure rfl) rfl rfl rfl ?_
      refine RunL.orPart (dj := 76) (dp := 83) 7 rfl (fun g76 => by
        have g76' := g76
        try simp only [decide_eq_true_eq, decide_eq_false_iff_not, Bool.not_eq_true', Bool.not_eq_false', Bool.and_eq_true, Bool.or_eq_true, Bool.and_eq_false_iff, Bool.or_eq_false_iff, Int.not_le, Int.not_lt] at g76'
        refine RunL.val (Val.pure rfl) rfl rfl rfl ?_
        refine RunL.val (Val.fieldAddr rfl fld_26_5) rfl rfl rfl ?_
        refine RunL.val (Val.load_one rfl (.tail _ (.tail _ (.head _))) ty_24 rfl) rfl rfl rfl ?_
        refine RunL.val (Val.len_sl rfl sl_24) rfl rfl rfl ?_
        refine RunL.val (Val.shl1 (b := p.things.length) rfl rfl (by show _ ≤ 64; omega) (i64_inN (n := 2 ^ p.things.length) (by omega))) rfl rfl rfl ?_
        refine RunL.val (Val.pure rfl) rfl rfl rfl ?_
        refine RunL.val (Val.pure rfl) rfl rfl rfl ?_
        exact RunL.segEnd (Sub.cons rfl (Sub.skip rfl (Sub.skip rfl (Sub.skip rfl (Sub.skip rfl (Sub.skip rfl (Sub.skip rfl (Sub.skip rfl (Sub.same rfl (by rw [g76]) (Sub.refl _)))))))))) (List.Sublist.refl _)
      ) (fun g76 => by
        have g76' := g76
        try simp only [decide_eq_true_eq, decide_eq_false_iff_not, Bool.not_eq_true', Bool.not_eq_false', Bool.and_eq_true, Bool.or_eq_true, Bool.and_eq_false_iff, Bool.or_eq_false_iff, Int.not_le, Int.not_lt] at g76'
        iterate 6 refine RunL.no rfl rfl rfl ?_
        refine RunL.val (Val.pure rfl) rfl rfl rfl ?_
        exact RunL.segEnd (Sub.cons rfl (Sub.skip rfl (Sub.skip rfl (Sub.skip rfl (Sub.skip rfl (Sub.skip rfl (Sub.skip rfl (Sub.skip rfl (Sub.same rfl (by rw [g76]) (Sub.refl _)))))))))) (List.Sublist.refl _)
      ) ?_
      refine RunL.nil ?_
      refine RunE.next ?_
      refine RunC.cond rfl (fun h => absurd h (by simp only [hpw, hip, fx1, decide_true, Bool.not_true, Bool.false_or, Bool.or_eq_true, decide_eq_true_eq]; omega)) ?_
      intro c2
      clear c2
      refine RunC.skip ?_
      refine RunE.next ?_
      refine RunC.seq ?_
      refine RunC.region ?_
      refine RunL.val (Val.pure rfl) rfl rfl rfl ?_
      refine RunL.val (Val.pure rfl) rfl rfl rfl ?_
      refine RunL.nil ?_
      refine RunE.next ?_
      refine RunC.seq ?_
      refine RunC.region ?_
      refine RunL.val (Val.pure rfl) rfl rfl rfl ?_
      refine RunL.val (Val.convInt rfl und_55 und_3 (IntWalk.i64_in _ ⟨by omega, by omega⟩)) rfl rfl rfl ?_
      refine RunL.val (Val.fieldAddr rfl fld_26_5) rfl rfl rfl ?_
      refine RunL.val (Val.load_one rfl (.tail _ (.tail _ (.head _))) ty_24 rfl) rfl rfl rfl ?_
      refine RunL.val (Val.len_sl rfl sl_24) rfl rfl rfl ?_
      refine RunL.val (Val.shl1 (b := p.things.length) rfl rfl (by show _ ≤ 64; omega) (i64_inN (n := 2 ^ p.things.length) (by omega))) rfl rfl rfl ?_
      refine RunL.val (Val.subN (a := 2 ^ p.things.length) (b := 1) (2 ^ p.things.length - 1) rfl rfl (by omega) (i64_inN (by omega))) rfl rfl rfl ?_
      refine RunL.val (Val.and (a := other) (b := 2 ^ p.things.length - 1) rfl rfl (by show _ < 18446744073709551616; omega) (by show _ < 18446744073709551616; omega) (i64_inN (by omega))) rfl rfl rfl ?_
      refine RunL.val (Val.pure rfl) rfl rfl rfl ?_
      refine RunL.nil ?_
      refine RunE.next ?_
      refine RunC.seq ?_
      refine RunC.seq ?_
      refine RunC.region ?_
      refine RunL.val (Val.fieldAddr rfl fld_26_5) rfl rfl rfl ?_
      refine RunL.val (Val.load_one rfl (.tail _ (.tail _ (.head _))) ty_24 rfl) rfl rfl rfl ?_
      refine RunL.val (Val.len_sl rfl sl_24) rfl rfl rfl ?_
      refine RunL.val (Val.pure rfl) rfl rfl rfl ?_
      refine RunL.nil ?_
      refine RunE.next ?_
      refine RunC.block ?_
      refine RunC.loopK (p.things.length) (fun k q => (96, .int .i64 (k : Int)) :: (11, .int .i64 ((lessK p s0 k : Nat) : Int)) :: q) (fun _ => _) (fun _ => []) (fun _ => True) trivial rfl (Sub.consE (t := 96) rfl rfl (Sub.consE (t := 11) rfl (by rw [hs0]; rfl) (Sub.cons (t := 1) rfl (Sub.cons (t := 2) rfl (Sub.cons (t := 4) rfl (Sub.cons (t := 5) rfl (Sub.cons (t := 6) rfl (Sub.cons (t := 7) rfl (Sub.cons (t := 8) rfl (Sub.cons (t := 9) rfl (Sub.cons (t := 10) rfl (Sub.cons (t := 94) rfl (Sub.cons (t := 95) rfl (Sub.nil _)))))))))))))) (.cons .here rfl (.cons .here rfl (.cons .here rfl .nil))) ?_
      intro k kN kI
      clear kI
      refine RunC.seq ?_
      refine RunC.region ?_
      refine RunL.val (Val.pure rfl) rfl rfl rfl ?_
      refine RunL.nil ?_
      refine RunE.next ?_
      refine RunC.seq ?_
      refine RunC.cond rfl ?_ ?_
      · intro c3
        have c3' := c3; clear c3
        try simp only [decide_eq_true_eq, decide_eq_false_iff_not, Bool.not_eq_true', Bool.not_eq_false', Bool.and_eq_true, Bool.or_eq_true, Bool.and_eq_false_iff, Bool.or_eq_false_iff, Int.not_le, Int.not_lt] at c3'
        have hk : k < p.things.length := by omega
        obtain ⟨t, ht⟩ : ∃ t, p.things[k] = t := ⟨_, rfl⟩
        have hta := thingAt_eq hk ht
        have htr : thingR p k = true := by simp [thingR, within]; omega
        obtain ⟨y1, y2⟩ := why_fine hp hw htr
        have hlk := lessK_le p s0 k
        have h2k : 2 ^ k ≤ 2 ^ 12 := Nat.pow_le_pow_right (by omega) (by omega)
        have hak := andN_le (lessK p s0 k) (2 ^ k)
        refine RunC.skip ?_
        refine RunE.next ?_
        refine RunC.seq ?_
        refine RunC.block ?_
        refine RunC.seq ?_
        refine RunC.region ?_
        refine RunL.val (Val.pure rfl) rfl rfl rfl ?_
        refine RunL.val (Val.indexAddr_slp rfl rfl sl_24 (by omega) (by omega) (hS.ptrM hk)) rfl rfl rfl ?_
        refine RunL.val (Val.load_gen rfl (fun w hm => hS.loadX (by decide) hm (by simp) ty_47 hk ht)) rfl rfl rfl ?_
        refine RunL.new (New.alloc zero_47) rfl rfl rfl (fun b13 => ?_)
        refine RunL.val (Val.pure rfl) rfl rfl rfl ?_
        refine RunL.sto (Sto.store rfl rfl .here ty_47 rfl rfl) rfl rfl ?_
        refine RunL.nil ?_
        refine RunE.next ?_
        refine RunC.seq ?_
        refine RunC.region ?_
        refine RunL.val (Val.load_agg rfl (.tail _ (.tail _ (.tail _ (.head _)))) ty_26 rfl) rfl rfl rfl ?_
        refine RunL.val (Val.pure rfl) rfl rfl rfl ?_
        refine RunL.callP (isCall_func rfl ent_21) rfl rfl rfl (fun w hm => Why_calls p _ q b o cap w (hS.mono (by decide) hm (by simp)) hl2) ?_
        iterate 5 refine RunL.val (Val.pure rfl) rfl rfl rfl ?_
        refine RunL.nil ?_
        refine RunE.next ?_
        refine RunC.seq ?_
        refine RunC.seq ?_
        refine RunC.region ?_
        iterate 3 refine RunL.val (Val.pure rfl) rfl rfl rfl ?_
        refine RunL.orPart (dj := 109) (dp := 127) 18 rfl (fun g109 => by
          have g109' := g109
          try simp only [decide_eq_true_eq, decide_eq_false_iff_not, Bool.not_eq_true', Bool.not_eq_false', Bool.and_eq_true, Bool.or_eq_true, Bool.and_eq_false_iff, Bool.or_eq_false_iff, Int.not_le, Int.not_lt] at g109'
          iterate 3 refine RunL.val (Val.pure rfl) rfl rfl rfl ?_
          refine RunL.orPart (dj := 112) (dp := 116) 4 rfl (fun g112 => by
            have g112' := g112
            try simp only [decide_eq_true_eq, decide_eq_false_iff_not, Bool.not_eq_true', Bool.not_eq_false', Bool.and_eq_true, Bool.or_eq_true, Bool.and_eq_false_iff, Bool.or_eq_false_iff, Int.not_le, Int.not_lt] at g112'
            refine RunL.val (Val.fieldAddr rfl fld_47_2) rfl rfl rfl ?_
            refine RunL.val (Val.load_one rfl (.head _) ty_3 rfl) rfl rfl rfl ?_
            refine RunL.val (Val.pure rfl) rfl rfl rfl ?_
            refine RunL.val (Val.pure rfl) rfl rfl rfl ?_
            exact RunL.segEnd (Sub.cons rfl (Sub.skip rfl (Sub.skip rfl (Sub.skip rfl (Sub.skip rfl (Sub.same rfl (by rw [g112]) (Sub.refl _))))))) (List.Sublist.refl _)
          ) (fun g112 => by
            have g112' := g112
            try simp only [decide_eq_true_eq, decide_eq_false_iff_not, Bool.not_eq_true', Bool.not_eq_false', Bool.and_eq_true, Bool.or_eq_true, Bool.and_eq_false_iff, Bool.or_eq_false_iff, Int.not_le, Int.not_lt] at g112'
            iterate 3 refine RunL.no rfl rfl rfl ?_
            refine RunL.val (Val.pure rfl) rfl rfl rfl ?_
            exact RunL.segEnd (Sub.cons rfl (Sub.skip rfl (Sub.skip rfl (Sub.skip rfl (Sub.skip rfl (Sub.same rfl (by rw [g112]) (Sub.refl _))))))) (List.Sublist.refl _)
          ) ?_
          refine RunL.val (Val.pure rfl) rfl rfl rfl ?_
          refine RunL.andPart (dj := 117) (dp := 126) 9 rfl (fun g117 => by
            have g117' := g117
            try simp only [decide_eq_true_eq, decide_eq_false_iff_not, Bool.not_eq_true', Bool.not_eq_false', Bool.and_eq_true, Bool.or_eq_true, Bool.and_eq_false_iff, Bool.or_eq_false_iff, Int.not_le, Int.not_lt] at g117'
            refine RunL.val (Val.pure rfl) rfl rfl rfl ?_
            refine RunL.val (Val.pure rfl) rfl rfl rfl ?_
            refine RunL.val (Val.shrN (a := m) (b := k) rfl rfl (by show k ≤ 64; omega)) rfl rfl rfl ?_
            refine RunL.val (Val.and (a := m >>> k) (b := 1) rfl rfl (by have := Nat.shiftRight_le m k; show _ < 18446744073709551616; omega) (by decide) (i64_inN (by have := Nat.and_le_right (n := m >>> k) (m := 1); omega))) rfl rfl rfl ?_
            iterate 3 refine RunL.val (Val.pure rfl) rfl rfl rfl ?_
            refine RunL.val (Val.neq_bool rfl rfl boolB_4) rfl rfl rfl ?_
            refine RunL.val (Val.pure rfl) rfl rfl rfl ?_
            exact RunL.segEnd (Sub.cons rfl (Sub.skip rfl (Sub.skip rfl (Sub.skip rfl (Sub.skip rfl (Sub.skip rfl (Sub.skip rfl (Sub.skip rfl (Sub.skip rfl (Sub.skip rfl (Sub.same rfl (by rw [g117]) (Sub.refl _)))))))))))) (List.Sublist.refl _)
          ) (fun g117 => by
            have g117' := g117
            try simp only [decide_eq_true_eq, decide_eq_false_iff_not, Bool.not_eq_true', Bool.not_eq_false', Bool.and_eq_true, Bool.or_eq_true, Bool.and_eq_false_iff, Bool.or_eq_false_iff, Int.not_le, Int.not_lt] at g117'
            iterate 8 refine RunL.no rfl rfl rfl ?_
            refine RunL.val (Val.pure rfl) rfl rfl rfl ?_
            exact RunL.segEnd (Sub.cons rfl (Sub.skip rfl (Sub.skip rfl (Sub.skip rfl (Sub.skip rfl (Sub.skip rfl (Sub.skip rfl (Sub.skip rfl (Sub.skip rfl (Sub.skip rfl (Sub.same rfl (by rw [g117]) (Sub.refl _)))))))))))) (List.Sublist.refl _)
          ) ?_
          refine RunL.val (Val.pure rfl) rfl rfl rfl ?_
          exact RunL.segEnd (Sub.cons rfl (Sub.skip rfl (Sub.skip rfl (Sub.skip rfl (Sub.skip rfl (Sub.skip rfl (Sub.skip rfl (Sub.skip rfl (Sub.same rfl (by rw [g109]) (Sub.refl _)))))))))) (List.Sublist.refl _)
        ) (fun g109 => by
          have g109' := g109
          try simp only [decide_eq_true_eq, decide_eq_false_iff_not, Bool.not_eq_true', Bool.not_eq_false', Bool.and_eq_true, Bool.or_eq_true, Bool.and_eq_false_iff, Bool.or_eq_false_iff, Int.not_le, Int.not_lt] at g109'
          iterate 17 refine RunL.no rfl rfl rfl ?_
          refine RunL.val (Val.pure rfl) rfl rfl rfl ?_
          exact RunL.segEnd (Sub.cons rfl (Sub.skip rfl (Sub.skip rfl (Sub.skip rfl (Sub.skip rfl (Sub.skip rfl (Sub.skip rfl (Sub.skip rfl (Sub.skip rfl (Sub.skip rfl (Sub.skip rfl (Sub.skip rfl (Sub.skip rfl (Sub.skip rfl (Sub.skip rfl (Sub.skip rfl (Sub.skip rfl (Sub.skip rfl (Sub.skip rfl (Sub.same rfl (by rw [g109]) (Sub.refl _))))))))))))))))))))) (List.Sublist.refl _)
        ) ?_
        refine RunL.nil ?_
        refine RunE.next ?_
        refine RunC.cond rfl (fun h => absurd h (by rw [few_c4 hw hk y1 y2 (by rw [hta]) hm0]; exact Bool.false_ne_true)) ?_
        intro c4
        clear c4
        refine RunC.skip ?_
        refine RunE.next ?_
        refine RunC.seq ?_
        refine RunC.region ?_
        refine RunL.val (Val.fieldAddr rfl fld_47_2) rfl rfl rfl ?_
        refine RunL.val (Val.load_one rfl (.head _) ty_3 rfl) rfl rfl rfl ?_
        refine RunL.val (Val.pure rfl) rfl rfl rfl ?_
        refine RunL.nil ?_
        refine RunE.next ?_
        refine RunC.cond rfl ?_ ?_
        · intro c5
          have c5' := c5; clear c5
          try simp only [decide_eq_true_eq, decide_eq_false_iff_not, Bool.not_eq_true', Bool.not_eq_false', Bool.and_eq_true, Bool.or_eq_true, Bool.and_eq_false_iff, Bool.or_eq_false_iff, Int.not_le, Int.not_lt] at c5'
          refine RunC.region ?_
          refine RunL.val (Val.pure rfl) rfl rfl rfl ?_
          refine RunL.val (Val.pure rfl) rfl rfl rfl ?_
          refine RunL.val (Val.shl1 (b := k) rfl rfl (by show _ ≤ 64; omega) (i64_inN (n := 2 ^ k) (by omega))) rfl rfl rfl ?_
          refine RunL.val (Val.andNot (a := lessK p s0 k) (b := 2 ^ k) rfl rfl (by show _ < 18446744073709551616; omega) (by show _ < 18446744073709551616; omega) (i64_inN (by omega))) rfl rfl rfl ?_
          refine RunL.val (Val.pure rfl) rfl rfl rfl ?_
          refine RunL.nil ?_
          refine RunE.block_normal ?_
          refine RunE.next ?_
          refine RunC.region ?_
          refine RunL.val (Val.add rfl rfl (IntWalk.i64_in _ ⟨by omega, by omega⟩)) rfl rfl rfl ?_
          refine RunL.val (Val.pure rfl) rfl rfl rfl ?_
          refine RunL.nil ?_
          exact RunE.round (by omega) trivial rfl (Sub.consE (t := 96) rfl rfl (Sub.consE (t := 11) rfl (by first | (rw [lessK_out hta c5']) | (rw [lessK_in hta c5'])) (Sub.cons (t := 1) rfl (Sub.cons (t := 2) rfl (Sub.cons (t := 4) rfl (Sub.cons (t := 5) rfl (Sub.cons (t := 6) rfl (Sub.cons (t := 7) rfl (Sub.cons (t := 8) rfl (Sub.cons (t := 9) rfl (Sub.cons (t := 10) rfl (Sub.cons (t := 94) rfl (Sub.cons (t := 95) rfl (Sub.nil _)))))))))))))) (.cons (.there .here) rfl (.cons (.there .here) rfl (.cons (.there .here) rfl .nil)))
        · intro c5
          have c5' := c5; clear c5
          try simp only [decide_eq_true_eq, decide_eq_false_iff_not, Bool.not_eq_true', Bool.not_eq_false', Bool.and_eq_true, Bool.or_eq_true, Bool.and_eq_false_iff, Bool.or_eq_false_iff, Int.not_le, Int.not_lt] at c5'
          refine RunC.skip ?_
          refine RunE.block_normal ?_
          refine RunE.next ?_
          refine RunC.region ?_
          refine RunL.val (Val.add rfl rfl (IntWalk.i64_in _ ⟨by omega, by omega⟩)) rfl rfl rfl ?_
          refine RunL.val (Val.pure rfl) rfl rfl rfl ?_
          refine RunL.nil ?_
          exact RunE.round (by omega) trivial rfl (Sub.consE (t := 96) rfl rfl (Sub.consE (t := 11) rfl (by first | (rw [lessK_out hta c5']) | (rw [lessK_in hta c5'])) (Sub.cons (t := 1) rfl (Sub.cons (t := 2) rfl (Sub.cons (t := 4) rfl (Sub.cons (t := 5) rfl (Sub.cons (t := 6) rfl (Sub.cons (t := 7) rfl (Sub.cons (t := 8) rfl (Sub.cons (t := 9) rfl (Sub.cons (t := 10) rfl (Sub.cons (t := 94) rfl (Sub.cons (t := 95) rfl (Sub.nil _)))))))))))))) (.cons (.there .here) rfl (.cons (.there .here) rfl (.cons (.there .here) rfl .nil)))
      · intro c3
        have c3' := c3; clear c3
        try simp only [decide_eq_true_eq, decide_eq_false_iff_not, Bool.not_eq_true', Bool.not_eq_false', Bool.and_eq_true, Bool.or_eq_true, Bool.and_eq_false_iff, Bool.or_eq_false_iff, Int.not_le, Int.not_lt] at c3'
        obtain rfl : k = p.things.length := by omega
        have hlN := lessK_le p s0 p.things.length
        obtain ⟨s1, hs1⟩ : ∃ s1, lessK p s0 p.things.length = s1 := ⟨_, rfl⟩
        rw [hs1] at hot hlN
        rw [hs1]
        refine RunC.exit ?_
        refine RunE.pass_exit ?_
        refine RunE.pass_exit ?_
        refine RunE.block_here ?_
        refine RunE.next ?_
        refine RunC.seq ?_
        refine RunC.region ?_
        refine RunL.val (Val.pure rfl) rfl rfl rfl ?_
        refine RunL.val (Val.pure rfl) rfl rfl rfl ?_
        refine RunL.callNT (isCall_value rfl rfl ent_35) rfl rfl rfl (fun w hm => without_calls p hlen m (by omega) q b o cap b2 w (hm.at (.tail _ (.tail _ (.head _)))) (hS.mono (by decide) hm (by simp))) (fun b139 => ?_)
        refine RunL.callP (isCall_func rfl ent_25) rfl rfl rfl (fun w hm => Fewest_calls (woP p m) _ _ 0 _ w (wo_sl b139 (fun b o h => hm.at (.tail _ (.tail _ (.tail _ (h)))))) (by have := (wo_ok hp m).len; omega)) ?_
        iterate 4 refine RunL.val (Val.pure rfl) rfl rfl rfl ?_
        refine RunL.new (New.alloc zero_23) rfl rfl rfl (fun b17 => ?_)
        refine RunL.val (Val.pure rfl) rfl rfl rfl ?_
        refine RunL.sto (Sto.store rfl rfl .here ty_23 rfl rfl) rfl rfl ?_
        refine RunL.val (Val.pure rfl) rfl rfl rfl ?_
        refine RunL.nil ?_
        refine RunE.next ?_
        refine RunC.seq ?_
        refine RunC.seq ?_
        refine RunC.region ?_
        refine RunL.keep (Sub.refl _) (.cons .here rfl (.cons .here rfl (.cons .here rfl (.cons .here rfl .nil)))) ?_
        iterate 3 refine RunL.val (Val.pure rfl) rfl rfl rfl ?_
        refine RunL.orPart (dj := 146) (dp := 149) 3 rfl (fun g146 => by
          have g146' := g146
          try simp only [decide_eq_true_eq, decide_eq_false_iff_not, Bool.not_eq_true', Bool.not_eq_false', Bool.and_eq_true, Bool.or_eq_true, Bool.and_eq_false_iff, Bool.or_eq_false_iff, Int.not_le, Int.not_lt] at g146'
          iterate 3 refine RunL.val (Val.pure rfl) rfl rfl rfl ?_
          exact RunL.segEnd (Sub.cons rfl (Sub.skip rfl (Sub.skip rfl (Sub.skip rfl (Sub.same rfl (by rw [g146]) (Sub.refl _)))))) (List.Sublist.refl _)
        ) (fun g146 => by
          have g146' := g146
          try simp only [decide_eq_true_eq, decide_eq_false_iff_not, Bool.not_eq_true', Bool.not_eq_false', Bool.and_eq_true, Bool.or_eq_true, Bool.and_eq_false_iff, Bool.or_eq_false_iff, Int.not_le, Int.not_lt] at g146'
          refine RunL.no rfl rfl rfl ?_
          refine RunL.no rfl rfl rfl ?_
          refine RunL.val (Val.pure rfl) rfl rfl rfl ?_
          exact RunL.segEnd (Sub.cons rfl (Sub.skip rfl (Sub.skip rfl (Sub.skip rfl (Sub.same rfl (by rw [g146]) (Sub.refl _)))))) (List.Sublist.refl _)
        ) ?_
        refine RunL.val (Val.pure rfl) rfl rfl rfl ?_
        refine RunL.orPart (dj := 150) (dp := 154) 4 rfl (fun g150 => by
          have g150' := g150
          try simp only [decide_eq_true_eq, decide_eq_false_iff_not, Bool.not_eq_true', Bool.not_eq_false', Bool.and_eq_true, Bool.or_eq_true, Bool.and_eq_false_iff, Bool.or_eq_false_iff, Int.not_le, Int.not_lt] at g150'
          refine RunL.val (Val.load_agg rfl (.head _) ty_23 rfl) rfl rfl rfl ?_
          refine RunL.val (Val.load_agg rfl (.tail _ (.tail _ (.head _))) ty_23 rfl) rfl rfl rfl ?_
          refine RunL.val (Val.neq_pair rfl rfl pair_23) rfl rfl rfl ?_
          refine RunL.val (Val.pure rfl) rfl rfl rfl ?_
          exact RunL.segEnd (Sub.cons rfl (Sub.skip rfl (Sub.skip rfl (Sub.skip rfl (Sub.skip rfl (Sub.same rfl (by rw [g150]) (Sub.refl _))))))) (List.Sublist.refl _)
        ) (fun g150 => by
          have g150' := g150
          try simp only [decide_eq_true_eq, decide_eq_false_iff_not, Bool.not_eq_true', Bool.not_eq_false', Bool.and_eq_true, Bool.or_eq_true, Bool.and_eq_false_iff, Bool.or_eq_false_iff, Int.not_le, Int.not_lt] at g150'
          iterate 3 refine RunL.no rfl rfl rfl ?_
          refine RunL.val (Val.pure rfl) rfl rfl rfl ?_
          exact RunL.segEnd (Sub.cons rfl (Sub.skip rfl (Sub.skip rfl (Sub.skip rfl (Sub.skip rfl (Sub.same rfl (by rw [g150]) (Sub.refl _))))))) (List.Sublist.refl _)
        ) ?_
        refine RunL.nil ?_
        refine RunE.next ?_
        refine RunC.cond rfl (fun h => absurd h (by rw [hwo, fx2]; simp)) ?_
        intro c6
        clear c6
        refine RunC.skip ?_
        refine RunE.next ?_
        refine RunC.seq ?_
        refine RunC.region ?_
        refine RunL.val (Val.pure rfl) rfl rfl rfl ?_
        refine RunL.val (Val.pure rfl) rfl rfl rfl ?_
        refine RunL.callNT (isCall_value rfl rfl ent_35) rfl rfl rfl (fun w hm => without_calls p hlen s1 (by omega) q b o cap b2 w (hm.at (.tail _ (.tail _ (.tail _ (.head _))))) (hS.mono (by decide) hm (by simp))) (fun b158 => ?_)
        refine RunL.callP (isCall_func rfl ent_25) rfl rfl rfl (fun w hm => Fewest_calls (woP p s1) _ _ 0 _ w (wo_sl b158 (fun b o h => hm.at (.tail _ (.tail _ (.tail _ (.tail _ (h))))))) (by have := (wo_ok hp s1).len; omega)) ?_
        iterate 4 refine RunL.val (Val.pure rfl) rfl rfl rfl ?_
        refine RunL.new (New.alloc zero_23) rfl rfl rfl (fun b20 => ?_)
        refine RunL.val (Val.pure rfl) rfl rfl rfl ?_
        refine RunL.sto (Sto.store rfl rfl .here ty_23 rfl rfl) rfl rfl ?_
        refine RunL.val (Val.pure rfl) rfl rfl rfl ?_
        refine RunL.nil ?_
        refine RunE.next ?_
        refine RunC.seq ?_
        refine RunC.seq ?_
        refine RunC.region ?_
        refine RunL.val (Val.pure rfl) rfl rfl rfl ?_
        refine RunL.val (Val.pure rfl) rfl rfl rfl ?_
        refine RunL.nil ?_
        refine RunE.next ?_
        refine RunC.cond rfl (fun h => absurd h (by rw [hot.1]; simp)) ?_
        intro c7
        clear c7
        refine RunC.skip ?_
        refine RunE.next ?_
        refine RunC.seq ?_
        refine RunC.seq ?_
        refine RunC.region ?_
        refine RunL.val (Val.pure rfl) rfl rfl rfl ?_
        refine RunL.val (Val.pure rfl) rfl rfl rfl ?_
        refine RunL.nil ?_
        refine RunE.next ?_
        refine RunC.cond rfl ?_ ?_
        · intro c8
          have c8' := c8; clear c8
          try simp only [decide_eq_true_eq, decide_eq_false_iff_not, Bool.not_eq_true', Bool.not_eq_false', Bool.and_eq_true, Bool.or_eq_true, Bool.and_eq_false_iff, Bool.or_eq_false_iff, Int.not_le, Int.not_lt] at c8'
          refine RunC.seq ?_
          refine RunC.region ?_
          refine RunL.callP (isCall_func rfl ent_12) rfl rfl rfl (fun w hm => awake_calls w) ?_
          refine RunL.val (Val.pure rfl) rfl rfl rfl ?_
          refine RunL.nil ?_
          refine RunE.next ?_
          refine RunC.ret ?_
          refine RunE.pass_ret ?_
          exact RunE.retP (.r1 rfl (.tmp rfl)) (by first | rfl | simp)
        · intro c8
          have c8' := c8; clear c8
          try simp only [decide_eq_true_eq, decide_eq_false_iff_not, Bool.not_eq_true', Bool.not_eq_false', Bool.and_eq_true, Bool.or_eq_true, Bool.and_eq_false_iff, Bool.or_eq_false_iff, Int.not_le, Int.not_lt] at c8'
          refine RunC.skip ?_
          refine RunE.next ?_
          refine RunC.seq ?_
          refine RunC.region ?_
          refine RunL.val (Val.pure rfl) rfl rfl rfl ?_
          refine RunL.callP (isCall_func rfl ent_31) rfl rfl rfl (fun w hm => rCount_calls s1 (by omega) w) ?_
          refine RunL.val (Val.pure rfl) rfl rfl rfl ?_
          refine RunL.callP (isCall_func rfl ent_31) rfl rfl rfl (fun w hm => rCount_calls m (by omega) w) ?_
          refine RunL.val (Val.pure rfl) rfl rfl rfl ?_
          refine RunL.val (Val.pure rfl) rfl rfl rfl ?_
          refine RunL.nil ?_
          refine RunE.next ?_
          refine RunC.seq ?_
          refine RunC.region ?_
          iterate 4 refine RunL.val (Val.pure rfl) rfl rfl rfl ?_
          refine RunL.orPart (dj := 175) (dp := 184) 9 rfl (fun g175 => by
            have g175' := g175
            try simp only [decide_eq_true_eq, decide_eq_false_iff_not, Bool.not_eq_true', Bool.not_eq_false', Bool.and_eq_true, Bool.or_eq_true, Bool.and_eq_false_iff, Bool.or_eq_false_iff, Int.not_le, Int.not_lt] at g175'
            iterate 4 refine RunL.val (Val.pure rfl) rfl rfl rfl ?_
            refine RunL.andPart (dj := 179) (dp := 183) 4 rfl (fun g179 => by
              have g179' := g179
              try simp only [decide_eq_true_eq, decide_eq_false_iff_not, Bool.not_eq_true', Bool.not_eq_false', Bool.and_eq_true, Bool.or_eq_true, Bool.and_eq_false_iff, Bool.or_eq_false_iff, Int.not_le, Int.not_lt] at g179'
              iterate 4 refine RunL.val (Val.pure rfl) rfl rfl rfl ?_
              exact RunL.segEnd (Sub.cons rfl (Sub.skip rfl (Sub.skip rfl (Sub.skip rfl (Sub.skip rfl (Sub.same rfl (by rw [g179]) (Sub.refl _))))))) (List.Sublist.refl _)
            ) (fun g179 => by
              have g179' := g179
              try simp only [decide_eq_true_eq, decide_eq_false_iff_not, Bool.not_eq_true', Bool.not_eq_false', Bool.and_eq_true, Bool.or_eq_true, Bool.and_eq_false_iff, Bool.or_eq_false_iff, Int.not_le, Int.not_lt] at g179'
              iterate 3 refine RunL.no rfl rfl rfl ?_
              refine RunL.val (Val.pure rfl) rfl rfl rfl ?_
              exact RunL.segEnd (Sub.cons rfl (Sub.skip rfl (Sub.skip rfl (Sub.skip rfl (Sub.skip rfl (Sub.same rfl (by rw [g179]) (Sub.refl _))))))) (List.Sublist.refl _)
            ) ?_
            refine RunL.val (Val.pure rfl) rfl rfl rfl ?_
            exact RunL.segEnd (Sub.cons rfl (Sub.skip rfl (Sub.skip rfl (Sub.skip rfl (Sub.skip rfl (Sub.skip rfl (Sub.skip rfl (Sub.same rfl (by rw [g175]) (Sub.refl _))))))))) (List.Sublist.refl _)
          ) (fun g175 => by
            have g175' := g175
            try simp only [decide_eq_true_eq, decide_eq_false_iff_not, Bool.not_eq_true', Bool.not_eq_false', Bool.and_eq_true, Bool.or_eq_true, Bool.and_eq_false_iff, Bool.or_eq_false_iff, Int.not_le, Int.not_lt] at g175'
            iterate 8 refine RunL.no rfl rfl rfl ?_
            refine RunL.val (Val.pure rfl) rfl rfl rfl ?_
            exact RunL.segEnd (Sub.cons rfl (Sub.skip rfl (Sub.skip rfl (Sub.skip rfl (Sub.skip rfl (Sub.skip rfl (Sub.skip rfl (Sub.skip rfl (Sub.skip rfl (Sub.skip rfl (Sub.same rfl (by rw [g175]) (Sub.refl _)))))))))))) (List.Sublist.refl _)
          ) ?_
          refine RunL.val (Val.pure rfl) rfl rfl rfl ?_
          refine RunL.andPart (dj := 185) (dp := 187) 2 rfl (fun g185 => by
            have g185' := g185
            try simp only [decide_eq_true_eq, decide_eq_false_iff_not, Bool.not_eq_true', Bool.not_eq_false', Bool.and_eq_true, Bool.or_eq_true, Bool.and_eq_false_iff, Bool.or_eq_false_iff, Int.not_le, Int.not_lt] at g185'
            refine RunL.callP (isCall_func rfl ent_12) rfl rfl rfl (fun w hm => awake_calls w) ?_
            refine RunL.val (Val.pure rfl) rfl rfl rfl ?_
            exact RunL.segEnd (Sub.cons rfl (Sub.skip rfl (Sub.skip rfl (Sub.same rfl (by rw [g185]) (Sub.refl _))))) (List.Sublist.refl _)
          ) (fun g185 => by
            have g185' := g185
            try simp only [decide_eq_true_eq, decide_eq_false_iff_not, Bool.not_eq_true', Bool.not_eq_false', Bool.and_eq_true, Bool.or_eq_true, Bool.and_eq_false_iff, Bool.or_eq_false_iff, Int.not_le, Int.not_lt] at g185'
            refine RunL.no rfl rfl rfl ?_
            refine RunL.val (Val.pure rfl) rfl rfl rfl ?_
            exact RunL.segEnd (Sub.cons rfl (Sub.skip rfl (Sub.skip rfl (Sub.same rfl (by rw [g185]) (Sub.refl _))))) (List.Sublist.refl _)
          ) ?_
          refine RunL.val (Val.pure rfl) rfl rfl rfl ?_
          refine RunL.nil ?_
          refine RunE.next ?_
          refine RunC.ret ?_
          exact RunE.retP (.r1 rfl (.tmp rfl)) (by rw [le_out (hot.2 c8')]; rfl)
end Go.Proofs.Ythppnhjggdebbaa
