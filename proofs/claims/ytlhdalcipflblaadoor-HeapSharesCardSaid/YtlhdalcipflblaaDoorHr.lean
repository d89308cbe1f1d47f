/- Walks of the laws of layer 10: entries, lists, the sample, awake. -/
import Derived.Test.YtlhdalcipflblaaDoorHq
import Derived.Test.YtlhdalcipflblaaDoorHyD
import Derived.Test.YtlhdalcipflblaaDoorEngC
set_option linter.unusedSimpArgs false
set_option linter.unusedVariables false
namespace Go.Hp
open Go Go.Eng Go.Pw1
theorem itoa1 {n : Nat} (h : n < 10) : itoa n = [UInt8.ofNat (48 + n)] := by unfold itoa; rw [if_pos h]; rfl
theorem itoa2 {n : Nat} (h : ¬ n < 10) (h2 : n < 100) : itoa n = itoa (n / 10) ++ itoa (n % 10) := by
  rw [itoa1 (n := n / 10) (by omega), itoa1 (n := n % 10) (by omega)]
  unfold itoa
  rw [if_neg h]
  rfl
theorem bs_app (a b : Str) : bs a ++ bs b = bs (a ++ b) := by
  simp [bs, ByteArray.ext_iff]
abbrev EO (m : MxA) := { x : Eng.Own // OwnOk 3 x (esX m).length ((esX m).map En.cells).flatten }
/-! ## The sample -/
structure SZ where
  bb : Nat
  b1 : Nat
  b2 : Nat
  bc : Nat
  c : Nat
  r : List Value
def smT : List Tn := [⟨0, [63], [109, 105, 42]⟩, ⟨0, [42], [109, 105, 108, 108]⟩, ⟨0, [50], [63, 97, 42]⟩]
theorem sm_own (b : Nat) : OwnOk 3 (some (b, 3, [])) 3 (smT.map Tn.cells).flatten := ⟨rfl, (fun h => by cases h), fun b c r h => by cases h; exact ⟨Nat.le_refl _, by decide, rfl⟩⟩
def smMore : Tn := ⟨0, [42], [109, 63, 63, 108]⟩
def smL1 : List Str := [[102, 97, 108, 108, 115], [109, 105, 108, 108], [112, 97, 115, 115]]
def smL2 : List Str := [[109, 105, 108, 108], [108, 97, 107, 101]]
def smA (z : SZ) (more : List Tn) : MxA := ⟨[⟨⟨1, smL1⟩, some ⟨z.b1, 0, none⟩, z.b1, 0, 3⟩, ⟨⟨2, smL2⟩, some ⟨z.b2, 0, none⟩, z.b2, 0, 2⟩], some ⟨z.bb, 0, none⟩, z.bb, 0, 2, smT ++ more, some ⟨z.bc, 0, none⟩, z.bc, 0, z.c⟩
abbrev smW (z : SZ) (more : List Tn) : Blks := [(z.bb, .cells [.int .i64 1, .slice (some ⟨z.b1, 0, none⟩) 3 3, .int .i64 2, .slice (some ⟨z.b2, 0, none⟩) 2 2].toArray 46 (0, 0)), (z.b1, .cells (strsV smL1).flatten.toArray 9 (0, 0)), (z.b2, .cells (strsV smL2).flatten.toArray 9 (0, 0)),
  (z.bc, .cells ((smT.map Tn.cells).flatten ++ (more.map Tn.cells).flatten ++ z.r).toArray 50 (0, 0))]
structure SmAt (w : World) (z : SZ) (more : List Tn) : Prop where
  bb : w.heap[z.bb]? = some (.cells [.int .i64 1, .slice (some ⟨z.b1, 0, none⟩) 3 3, .int .i64 2, .slice (some ⟨z.b2, 0, none⟩) 2 2].toArray 46 (0, 0))
  b1 : w.heap[z.b1]? = some (.cells (strsV smL1).flatten.toArray 9 (0, 0))
  b2 : w.heap[z.b2]? = some (.cells (strsV smL2).flatten.toArray 9 (0, 0))
  bc : w.heap[z.bc]? = some (.cells ((smT.map Tn.cells).flatten ++ (more.map Tn.cells).flatten ++ z.r).toArray 50 (0, 0))
theorem sm_ok {w : World} {z : SZ} {more : List Tn} (h : SmAt w z more) : MOk w (smA z more) := by
  refine ⟨Sl.rows (xs := (smA z more).bxs.map BxA.cells) h.bb (by simp [smA, BxA.cells]), fun x hx => ?_, ?_⟩
  · rcases List.mem_cons.1 hx with rfl | hx
    · exact Sl.rows h.b1 (by simp [smL1, strsV])
    · obtain rfl := List.mem_singleton.1 hx
      exact Sl.rows h.b2 (by simp [smL2, strsV])
  · refine Sl.rowsR (t := z.r) (xs := (smA z more).cards.map Tn.cells) (T := 50) (fr := (0, 0)) ?_ (fun x hx => by obtain ⟨a, _, rfl⟩ := List.mem_map.1 hx; rfl)
    have e : ((smA z more).cards.map Tn.cells).flatten = (smT.map Tn.cells).flatten ++ (more.map Tn.cells).flatten := by show ((smT ++ more).map Tn.cells).flatten = _; rw [List.map_append, List.flatten_append]
    rw [e]
    exact h.bc
theorem sm_sm0 (z : SZ) : MSm (smA z []) := far_sm (show farX ⟨[⟨1, smL1⟩, ⟨2, smL2⟩], smT ++ []⟩ = false by kernel_rfl)
theorem sm_sm1 (z : SZ) : MSm (smA z [smMore]) := far_sm (show farX ⟨[⟨1, smL1⟩, ⟨2, smL2⟩], smT ++ [smMore]⟩ = false by kernel_rfl)
def smP (more : List Tn) : Mx := ⟨[⟨1, smL1⟩, ⟨2, smL2⟩], smT ++ more⟩
theorem sm_pl (z : SZ) (more : List Tn) : (smA z more).pl = smP more := rfl
theorem sm_fits : FitsX (smP []) 0 = (10, 0) := by kernel_rfl
theorem sm_count : CountX (smP []) = (2, 0) := by kernel_rfl
theorem sm_share : ShareX (smP []) 0 3 = (1, 0) := by kernel_rfl
theorem sm_ways : waysE (smP []) = 0 := by kernel_rfl
theorem sm_first : FirstX (smP []) = ([1, 3, 4], 0) := by kernel_rfl
theorem sm_sure : SureX (smP []) = ([-1, -1, 4], 0) := by kernel_rfl
theorem sm_lost : LostX (smP []) = ((5, 5), 0) := by kernel_rfl
theorem sm_why : WhyX (smP [smMore]) = (11, 11) := by kernel_rfl
theorem ints_all {a b : List Int} (h : a.length = b.length) (h2 : a.take a.length = b.take a.length) : a = b := by
  rw [List.take_length, h, List.take_length] at h2
  exact h2
theorem take_snoc {a b : List Int} {k : Nat} (ha : k < a.length) (hb : k < b.length) (h : a.take k = b.take k) (h2 : a[k] = b[k]) : a.take (k + 1) = b.take (k + 1) := by
  rw [List.take_succ_eq_append_getElem ha, List.take_succ_eq_append_getElem hb, h, h2]
abbrev OZ := Nat × Nat × List Value
abbrev ozB (z : OZ) (l : List Value) : Blks := [(z.1, .cells (l ++ z.2.2).toArray 3 (0, 0))]
end Go.Hp
namespace Go.Proofs.YtlhdalcipflblaaDoor
open Go Go.Eng Go.Hp Go.Pw1

theorem rText1_calls (n : Nat) (hn : n < 10) (W : World) : Calls Tryd.prog 31 #[.int .i64 (n : Int)] W (Pure (.string (bs (itoa n))) W) := by
  rw [itoa1 hn]
  refine calls_start Tryd.func31 rfl rfl ?_
  refine RunC.seq ?_
  refine RunC.region ?_
  refine RunL.val (Val.pure rfl) rfl rfl rfl ?_
  refine RunL.nil ?_
  refine RunE.next ?_
  refine RunC.seq ?_
  refine RunC.seq ?_
  refine RunC.region ?_
  refine RunL.val (Val.pure rfl) rfl rfl rfl ?_
  refine RunL.val (Val.pure rfl) rfl rfl rfl ?_
  refine RunL.nil ?_
  refine RunE.next ?_
  refine RunC.cond rfl ?_ (fun h => absurd h (by simp; omega))
  intro c0
  clear c0
  refine RunC.seq ?_
  refine RunC.region ?_
  refine RunL.val (Val.pure rfl) rfl rfl rfl ?_
  refine RunL.val (Val.addN (a := 48) (b := n) (48 + n) rfl rfl rfl (i64_inN (by omega))) rfl rfl rfl ?_
  refine RunL.val (Val.convInt rfl und_3 und_21 (i32_in (by omega) (by omega))) rfl rfl rfl ?_
  refine RunL.val (Val.runeStr (c := 48 + n) rfl und_21 und_9 (by omega)) rfl rfl rfl ?_
  refine RunL.val (Val.pure rfl) rfl rfl rfl ?_
  refine RunL.nil ?_
  refine RunE.next ?_
  refine RunC.ret ?_
  refine RunE.pass_ret ?_
  exact RunE.retP (.r1 rfl (.tmp rfl)) (by first | rfl | simp)
theorem rText_calls (n : Nat) (hn : n < 100) (W : World) : Calls Tryd.prog 31 #[.int .i64 (n : Int)] W (Pure (.string (bs (itoa n))) W) := by
  rcases Nat.lt_or_ge n 10 with h | h
  · exact rText1_calls n h W
  · rw [itoa2 (by omega) hn]
    refine calls_start Tryd.func31 rfl rfl ?_
    refine RunC.seq ?_
    refine RunC.region ?_
    refine RunL.val (Val.pure rfl) rfl rfl rfl ?_
    refine RunL.nil ?_
    refine RunE.next ?_
    refine RunC.seq ?_
    refine RunC.seq ?_
    refine RunC.region ?_
    refine RunL.val (Val.pure rfl) rfl rfl rfl ?_
    refine RunL.val (Val.pure rfl) rfl rfl rfl ?_
    refine RunL.nil ?_
    refine RunE.next ?_
    refine RunC.cond rfl (fun h => absurd h (by simp; omega)) ?_
    intro c0
    clear c0
    refine RunC.skip ?_
    refine RunE.next ?_
    refine RunC.seq ?_
    refine RunC.region ?_
    refine RunL.val (Val.pure rfl) rfl rfl rfl ?_
    refine RunL.val (Val.quoT rfl rfl (by decide) (i64_inN (n := n / 10) (by omega))) rfl rfl rfl ?_
    refine RunL.callP (isCall_func rfl ent_31) rfl rfl rfl (fun w hm => rText1_calls (n / 10) (by omega) w) ?_
    refine RunL.val (Val.pure rfl) rfl rfl rfl ?_
    refine RunL.val (Val.remT rfl rfl (by decide)) rfl rfl rfl ?_
    refine RunL.callP (isCall_func rfl ent_31) rfl rfl rfl (fun w hm => rText1_calls (n % 10) (by omega) w) ?_
    refine RunL.val (Val.strAdd rfl rfl (by have z1 := itoa_len (n / 10); have z2 := itoa_len (n % 10); omega)) rfl rfl rfl ?_
    refine RunL.val (Val.pure rfl) rfl rfl rfl ?_
    refine RunL.nil ?_
    refine RunE.next ?_
    refine RunC.ret ?_
    exact RunE.retP (.r1 rfl (.tmp rfl)) (by first | rfl | simp)
theorem rInts_calls (a b : List Int) (qa : Option Addr) (ba oa ca : Nat) (qb : Option Addr) (bb ob cb : Nat) (ha : a.length ≤ 1000) (hb : b.length ≤ 1000) (W : World) (hA : Sl W qa ba oa 1 (intsW a)) (hB : Sl W qb bb ob 1 (intsW b)) :
    Calls Tryd.prog 29 #[.slice qa a.length ca, .slice qb b.length cb] W (Pure (.bool (decide (a = b))) W) := by
  refine calls_start Tryd.func29 rfl rfl ?_
  refine RunC.seq ?_
  refine RunC.region ?_
  refine RunL.val (Val.pure rfl) rfl rfl rfl ?_
  refine RunL.nil ?_
  refine RunE.next ?_
  refine RunC.seq ?_
  refine RunC.seq ?_
  refine RunC.region ?_
  refine RunL.val (Val.pure rfl) rfl rfl rfl ?_
  refine RunL.val (Val.len_sl rfl sl_34) rfl rfl rfl ?_
  refine RunL.val (Val.pure rfl) rfl rfl rfl ?_
  refine RunL.val (Val.len_sl rfl sl_34) rfl rfl rfl ?_
  refine RunL.val (Val.pure rfl) rfl rfl rfl ?_
  refine RunL.nil ?_
  refine RunE.next ?_
  refine RunC.cond rfl ?_ ?_
  · intro c0
    have c0' := c0; clear c0
    try simp only [decide_eq_true_eq, decide_eq_false_iff_not, Bool.not_eq_true', Bool.not_eq_false', Bool.and_eq_true, Bool.or_eq_true, Bool.and_eq_false_iff, Bool.or_eq_false_iff, Int.not_le, Int.not_lt] at c0'
    refine RunC.seq ?_
    refine RunC.region ?_
    refine RunL.val (Val.pure rfl) rfl rfl rfl ?_
    refine RunL.nil ?_
    refine RunE.next ?_
    refine RunC.ret ?_
    refine RunE.pass_ret ?_
    exact RunE.retP (.r1 rfl (.tmp rfl)) (by rw [decide_eq_false (fun e => by rw [e] at c0'; exact c0' rfl)])
  · intro c0
    have c0' := c0; clear c0
    try simp only [decide_eq_true_eq, decide_eq_false_iff_not, Bool.not_eq_true', Bool.not_eq_false', Bool.and_eq_true, Bool.or_eq_true, Bool.and_eq_false_iff, Bool.or_eq_false_iff, Int.not_le, Int.not_lt] at c0'
    have heq : a.length = b.length := by omega
    refine RunC.skip ?_
    refine RunE.next ?_
    refine RunC.seq ?_
    refine RunC.seq ?_
    refine RunC.region ?_
    refine RunL.val (Val.pure rfl) rfl rfl rfl ?_
    refine RunL.nil ?_
    refine RunE.next ?_
    refine RunC.block ?_
    refine RunC.loopK (a.length) (fun k q => (5, .int .i64 (k : Int)) :: q) (fun _ => _) (fun _ => []) (fun k => a.take k = b.take k) (by simp) rfl (Sub.consE (t := 5) rfl rfl (Sub.cons (t := 0) rfl (Sub.cons (t := 1) rfl (Sub.nil _)))) .nil ?_
    intro k kN kI
    refine RunC.seq ?_
    refine RunC.seq ?_
    refine RunC.region ?_
    refine RunL.val (Val.pure rfl) rfl rfl rfl ?_
    refine RunL.val (Val.pure rfl) rfl rfl rfl ?_
    refine RunL.val (Val.len_sl rfl sl_34) rfl rfl rfl ?_
    refine RunL.val (Val.pure rfl) rfl rfl rfl ?_
    refine RunL.nil ?_
    refine RunE.next ?_
    refine RunC.cond rfl ?_ ?_
    · intro c1
      have c1' := c1; clear c1
      try simp only [decide_eq_true_eq, decide_eq_false_iff_not, Bool.not_eq_true', Bool.not_eq_false', Bool.and_eq_true, Bool.or_eq_true, Bool.and_eq_false_iff, Bool.or_eq_false_iff, Int.not_le, Int.not_lt] at c1'
      have hk : k < a.length := by omega
      have hk2 : k < b.length := by omega
      obtain ⟨x, hx⟩ : ∃ x, a[k] = x := ⟨_, rfl⟩
      obtain ⟨y, hy⟩ : ∃ y, b[k] = y := ⟨_, rfl⟩
      refine RunC.skip ?_
      refine RunE.next ?_
      refine RunC.seq ?_
      refine RunC.block ?_
      refine RunC.seq ?_
      refine RunC.draw 8 fol_ .nil ?_
      refine RunA.val (i := 0) rfl (by kernel_rfl) (by kernel_rfl) (Val.pure rfl) rfl rfl rfl (fun _ _ _ h => h) .nil rfl ?_
      refine RunA.val (i := 1) rfl (by kernel_rfl) (by kernel_rfl) (Val.pure rfl) rfl rfl rfl (fun _ _ _ h => h) .nil rfl ?_
      refine RunA.val (i := 2) rfl (by kernel_rfl) (by kernel_rfl) (Val.indexAddr_slp rfl rfl sl_34 (by omega) (by omega) (hA.ptrM hk)) rfl rfl rfl (fun _ _ _ h => h) .nil rfl ?_
      refine RunA.val (i := 3) rfl (by kernel_rfl) (by kernel_rfl) (Val.load_gen rfl (fun w hm => hA.loadM1 (by decide) hm (by simp) ty_3 hk (v := .int .i64 x) (by simp [hx]))) rfl rfl rfl (fun _ _ _ h => h) .nil rfl ?_
      refine RunA.val (i := 4) rfl (by kernel_rfl) (by kernel_rfl) (Val.pure rfl) rfl rfl rfl (fun _ _ _ h => h) .nil rfl ?_
      refine RunA.val (i := 5) rfl (by kernel_rfl) (by kernel_rfl) (Val.pure rfl) rfl rfl rfl (fun _ _ _ h => h) .nil rfl ?_
      refine RunA.val (i := 6) rfl (by kernel_rfl) (by kernel_rfl) (Val.indexAddr_slp rfl rfl sl_34 (by omega) (by omega) (hB.ptrM hk2)) rfl rfl rfl (fun _ _ _ h => h) .nil rfl ?_
      refine RunA.val (i := 7) rfl (by kernel_rfl) (by kernel_rfl) (Val.load_gen rfl (fun w hm => hB.loadM1 (by decide) hm (by simp) ty_3 hk2 (v := .int .i64 y) (by simp [hy]))) rfl rfl rfl (fun _ _ _ h => h) .nil rfl ?_
      refine RunA.toB (by kernel_rfl) ?_
      refine RunB.one (i := 8) (by kernel_rfl) ?_
      refine RunI.val rfl (Val.pure rfl) rfl rfl rfl (RunK.toB ?_)
      refine RunB.done (by kernel_rfl) ?_
      refine RunE.next ?_
      refine RunC.cond rfl ?_ ?_
      · intro c2
        have c2' := c2; clear c2
        try simp only [decide_eq_true_eq, decide_eq_false_iff_not, Bool.not_eq_true', Bool.not_eq_false', Bool.and_eq_true, Bool.or_eq_true, Bool.and_eq_false_iff, Bool.or_eq_false_iff, Int.not_le, Int.not_lt] at c2'
        refine RunC.seq ?_
        refine RunC.region ?_
        refine RunL.val (Val.pure rfl) rfl rfl rfl ?_
        refine RunL.nil ?_
        refine RunE.next ?_
        refine RunC.ret ?_
        refine RunE.block_ret ?_
        refine RunE.pass_ret ?_
        refine RunE.pass_ret ?_
        refine RunE.block_ret ?_
        refine RunE.pass_ret ?_
        exact RunE.retP (.r1 rfl (.tmp rfl)) (by rw [decide_eq_false (fun e => by subst e; exact c2' (by rw [← hx, ← hy]))])
      · intro c2
        have c2' := c2; clear c2
        try simp only [decide_eq_true_eq, decide_eq_false_iff_not, Bool.not_eq_true', Bool.not_eq_false', Bool.and_eq_true, Bool.or_eq_true, Bool.and_eq_false_iff, Bool.or_eq_false_iff, Int.not_le, Int.not_lt] at c2'
        refine RunC.skip ?_
        refine RunE.block_normal ?_
        refine RunE.next ?_
        refine RunC.region ?_
        refine RunL.val (Val.pure rfl) rfl rfl rfl ?_
        refine RunL.val (Val.add rfl rfl (IntWalk.i64_in _ ⟨by omega, by omega⟩)) rfl rfl rfl ?_
        refine RunL.val (Val.pure rfl) rfl rfl rfl ?_
        refine RunL.nil ?_
        exact RunE.round (by omega) (take_snoc hk hk2 kI (by rw [hx, hy]; exact c2')) rfl (Sub.consE (t := 5) rfl rfl (Sub.cons (t := 0) rfl (Sub.cons (t := 1) rfl (Sub.nil _)))) .nil
    · intro c1
      have c1' := c1; clear c1
      try simp only [decide_eq_true_eq, decide_eq_false_iff_not, Bool.not_eq_true', Bool.not_eq_false', Bool.and_eq_true, Bool.or_eq_true, Bool.and_eq_false_iff, Bool.or_eq_false_iff, Int.not_le, Int.not_lt] at c1'
      obtain rfl : k = a.length := by omega
      refine RunC.exit ?_
      refine RunE.pass_exit ?_
      refine RunE.pass_exit ?_
      refine RunE.block_here ?_
      refine RunE.next ?_
      refine RunC.seq ?_
      refine RunC.region ?_
      refine RunL.val (Val.pure rfl) rfl rfl rfl ?_
      refine RunL.nil ?_
      refine RunE.next ?_
      refine RunC.ret ?_
      exact RunE.retP (.r1 rfl (.tmp rfl)) (by rw [decide_eq_true (ints_all heq kI)])
theorem torn_calls (a b : ByteArray) (W : World) : Calls Tryd.prog 38 #[.string a, .string b] W (Pure (.agg #[.int .i64 0, .string a, .string b]) W) := by
  refine calls_start Tryd.func38 rfl rfl ?_
  refine RunC.seq ?_
  refine RunC.region ?_
  refine RunL.new (New.alloc zero_50) rfl rfl rfl (fun b4 => ?_)
  refine RunL.nil ?_
  refine RunE.next ?_
  refine RunC.seq ?_
  refine RunC.region ?_
  refine RunL.val (Val.pure rfl) rfl rfl rfl ?_
  refine RunL.val (Val.pure rfl) rfl rfl rfl ?_
  refine RunL.val (Val.build (parts := [(1, .tmp 5), (2, .tmp 6)]) rfl zero_50 places_50 rfl) rfl rfl rfl ?_
  refine RunL.sto (Sto.store rfl rfl .here ty_50 rfl rfl) rfl rfl ?_
  refine RunL.nil ?_
  refine RunE.next ?_
  refine RunC.ret ?_
  exact RunE.retP (.r1 rfl (.agg rfl (.head _) ty_50 rfl)) (by first | rfl | simp)
theorem sample0_calls (W : World) : Calls Tryd.prog 37 #[.slice none 0 0] W (News (fun z : SZ => (smA z []).v) (fun z => smW z []) W) := by
  refine calls_start Tryd.func37 rfl rfl ?_
  refine RunC.seq ?_
  refine RunC.region ?_
  refine RunL.new (New.alloc zero_25) rfl rfl rfl (fun b2 => ?_)
  refine RunL.nil ?_
  refine RunE.next ?_
  refine RunC.seq ?_
  refine RunC.region ?_
  iterate 3 refine RunL.callP (isCall_func rfl ent_38) rfl rfl rfl (fun w hm => torn_calls _ _ w) ?_
  refine RunL.new (New.buildSlice (parts := [(0, .tmp 4), (1, .tmp 5), (2, .tmp 6)]) rfl sl_23 zero_50 rfl rfl rfl rfl) rfl rfl rfl (fun b7 => ?_)
  refine RunL.val (Val.pure rfl) rfl rfl rfl ?_
  refine RunL.nil ?_
  refine RunE.next ?_
  refine RunC.seq ?_
  refine RunC.region ?_
  refine RunL.new (New.buildSlice (parts := [(0, .const (.string ⟨#[102,97,108,108,115]⟩)), (1, .const (.string ⟨#[109,105,108,108]⟩)), (2, .const (.string ⟨#[112,97,115,115]⟩))]) rfl sl_44 zero_9 rfl rfl rfl rfl) rfl rfl rfl (fun b8 => ?_)
  refine RunL.val (Val.build (parts := [(0, .const (.int .i64 1)), (1, .tmp 8)]) rfl zero_46 places_46 rfl) rfl rfl rfl ?_
  refine RunL.new (New.buildSlice (parts := [(0, .const (.string ⟨#[109,105,108,108]⟩)), (1, .const (.string ⟨#[108,97,107,101]⟩))]) rfl sl_44 zero_9 rfl rfl rfl rfl) rfl rfl rfl (fun b10 => ?_)
  refine RunL.val (Val.build (parts := [(0, .const (.int .i64 2)), (1, .tmp 10)]) rfl zero_46 places_46 rfl) rfl rfl rfl ?_
  refine RunL.new (New.buildSlice (parts := [(0, .tmp 9), (1, .tmp 11)]) rfl sl_22 zero_46 rfl rfl rfl rfl) rfl rfl rfl (fun b12 => ?_)
  refine RunL.val (Val.pure rfl) rfl rfl rfl ?_
  refine RunL.val (Val.pure rfl) rfl rfl rfl ?_
  refine RunL.keep (Sub.refl _) (.cons .here rfl (.cons .here rfl (.cons .here rfl (.cons (.there .here) rfl (.cons .here rfl .nil))))) ?_
  refine RunL.append (A := [(b12, _), (b10, _), (b8, _), (b2, _)]) (B := _) (x := (some (b7, 3, []))) (ys := []) ap_23 rfl rfl rfl (sm_own b7) rfl (fun _ => ⟨rfl, rfl⟩) (fun w hm j u h => by cases h) (one_of rfl) (by simp only [maxLen]; omega) (by omega) rfl (fun z15 hz15 => ?_)
  obtain ⟨bz15, cz15, rz15, rfl, lz151, lz152, lz153⟩ := hz15.has (by omega)
  refine RunL.val (Val.build (parts := [(0, .tmp 12), (1, .tmp 15)]) rfl zero_25 places_25 rfl) rfl rfl rfl ?_
  refine RunL.sto (Sto.store rfl rfl (.there (.there (.there .here))) ty_25 rfl rfl) rfl rfl ?_
  refine RunL.nil ?_
  refine RunE.next ?_
  refine RunC.ret ?_
  exact RunE.ret (chg := []) (.r1 rfl (.agg rfl (.tail _ (.tail _ (.tail _ (.head _)))) ty_25 rfl)) (fun _ hm => ⟨⟨b12, b8, b10, bz15, cz15, rz15⟩, rfl, hm.pick (.cons .here rfl (.cons (.there .here) rfl (.cons .here rfl (.cons (.there .here) rfl .nil))))⟩)
theorem sample1_calls (b : Nat) (W : World) (h : W.heap[b]? = some (.cells smMore.cells.toArray 50 (0, 0))) : Calls Tryd.prog 37 #[.slice (some ⟨b, 0, none⟩) 1 1] W (News (fun z : SZ => (smA z [smMore]).v) (fun z => smW z [smMore]) W) := by
  refine calls_start Tryd.func37 rfl rfl ?_
  refine RunC.seq ?_
  refine RunC.region ?_
  refine RunL.new (New.alloc zero_25) rfl rfl rfl (fun b2 => ?_)
  refine RunL.nil ?_
  refine RunE.next ?_
  refine RunC.seq ?_
  refine RunC.region ?_
  iterate 3 refine RunL.callP (isCall_func rfl ent_38) rfl rfl rfl (fun w hm => torn_calls _ _ w) ?_
  refine RunL.new (New.buildSlice (parts := [(0, .tmp 4), (1, .tmp 5), (2, .tmp 6)]) rfl sl_23 zero_50 rfl rfl rfl rfl) rfl rfl rfl (fun b7 => ?_)
  refine RunL.val (Val.pure rfl) rfl rfl rfl ?_
  refine RunL.nil ?_
  refine RunE.next ?_
  refine RunC.seq ?_
  refine RunC.region ?_
  refine RunL.new (New.buildSlice (parts := [(0, .const (.string ⟨#[102,97,108,108,115]⟩)), (1, .const (.string ⟨#[109,105,108,108]⟩)), (2, .const (.string ⟨#[112,97,115,115]⟩))]) rfl sl_44 zero_9 rfl rfl rfl rfl) rfl rfl rfl (fun b8 => ?_)
  refine RunL.val (Val.build (parts := [(0, .const (.int .i64 1)), (1, .tmp 8)]) rfl zero_46 places_46 rfl) rfl rfl rfl ?_
  refine RunL.new (New.buildSlice (parts := [(0, .const (.string ⟨#[109,105,108,108]⟩)), (1, .const (.string ⟨#[108,97,107,101]⟩))]) rfl sl_44 zero_9 rfl rfl rfl rfl) rfl rfl rfl (fun b10 => ?_)
  refine RunL.val (Val.build (parts := [(0, .const (.int .i64 2)), (1, .tmp 10)]) rfl zero_46 places_46 rfl) rfl rfl rfl ?_
  refine RunL.new (New.buildSlice (parts := [(0, .tmp 9), (1, .tmp 11)]) rfl sl_22 zero_46 rfl rfl rfl rfl) rfl rfl rfl (fun b12 => ?_)
  refine RunL.val (Val.pure rfl) rfl rfl rfl ?_
  refine RunL.val (Val.pure rfl) rfl rfl rfl ?_
  refine RunL.keep (Sub.refl _) (.cons .here rfl (.cons .here rfl (.cons .here rfl (.cons (.there .here) rfl (.cons .here rfl .nil))))) ?_
  refine RunL.append (A := [(b12, _), (b10, _), (b8, _), (b2, _)]) (B := _) (x := (some (b7, 3, []))) (ys := smMore.cells) ap_23 rfl rfl rfl (sm_own b7) rfl (fun h => by cases h) (fun w hm => src_blk (hm.old_at h (by simp))) (one_of rfl) (by simp only [maxLen]; omega) (by omega) rfl (fun z15 hz15 => ?_)
  obtain ⟨bz15, cz15, rz15, rfl, lz151, lz152, lz153⟩ := hz15.has (by omega)
  refine RunL.val (Val.build (parts := [(0, .tmp 12), (1, .tmp 15)]) rfl zero_25 places_25 rfl) rfl rfl rfl ?_
  refine RunL.sto (Sto.store rfl rfl (.there (.there (.there .here))) ty_25 rfl rfl) rfl rfl ?_
  refine RunL.nil ?_
  refine RunE.next ?_
  refine RunC.ret ?_
  exact RunE.ret (chg := []) (.r1 rfl (.agg rfl (.tail _ (.tail _ (.tail _ (.head _)))) ty_25 rfl)) (fun _ hm => ⟨⟨b12, b8, b10, bz15, cz15, rz15⟩, rfl, hm.pick (.cons .here rfl (.cons (.there .here) rfl (.cons .here rfl (.cons (.there .here) rfl .nil))))⟩)
end Go.Proofs.YtlhdalcipflblaaDoor
