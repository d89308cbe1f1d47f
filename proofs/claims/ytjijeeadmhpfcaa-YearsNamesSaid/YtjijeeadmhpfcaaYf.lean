/- Walks of package years: what is asked of a thing. -/
import Derived.Test.YtjijeeadmhpfcaaYe
import Derived.Test.YtjijeeadmhpfcaaMore6
set_option linter.unusedSimpArgs false
set_option linter.unusedVariables false
namespace Go.Proofs.Ytjijeeadmhpfcaa
open Go Go.Eng Go.Pw1

def Zok (z : Z2) : Prop := (0 ≤ z.1.1 ∧ z.1.1 ≤ 1100000000) ∧ (0 ≤ z.1.2 ∧ z.1.2 ≤ 1100000000) ∧ (0 ≤ z.2.1 ∧ z.2.1 ≤ 1100000000) ∧ (0 ≤ z.2.2 ∧ z.2.2 ≤ 1100000000)
theorem farG_ok (g : Gl) (n : Int) : Zok (farG g n) := by
  have h1 := distX_rng g.f n
  have h2 := distX_rng g.s n
  exact ⟨⟨h1.1, h1.2.1⟩, ⟨h1.2.2.1, h1.2.2.2⟩, ⟨h2.1, h2.2.1⟩, ⟨h2.2.2.1, h2.2.2.2⟩⟩
theorem Zok.mul {z : Z2} (h : Zok z) : ∀ x y : Int, (-4000 ≤ x ∧ x ≤ 4000) → y ∈ [z.1.1, z.1.2, z.2.1, z.2.2] → -5000000000000 ≤ x * y ∧ x * y ≤ 5000000000000 := by
  intro x y hx hy
  obtain ⟨h1, h2, h3, h4⟩ := h
  have hy2 : 0 ≤ y ∧ y ≤ 1100000000 := by
    simp only [List.mem_cons, List.not_mem_nil, or_false] at hy
    rcases hy with rfl | rfl | rfl | rfl <;> assumption
  have m1 := Int.mul_le_mul_of_nonneg_right hx.1 hy2.1
  have m2 := Int.mul_le_mul_of_nonneg_right hx.2 hy2.1
  omega
theorem fold_bd {A : Int} : ∀ (l : List Int) (x : Int), (-A ≤ x ∧ x ≤ A) → (∀ y ∈ l, -A ≤ y ∧ y ≤ A) → (-A ≤ minL x l ∧ minL x l ≤ A) ∧ -A ≤ maxL x l ∧ maxL x l ≤ A
  | [], x, hx, _ => ⟨hx, hx⟩
  | y :: l, x, hx, h => by
    have hy := h y (by simp)
    have h1 := fold_bd l (min x y) (by omega) (fun u hu => h u (by simp [hu]))
    have h2 := fold_bd l (max x y) (by omega) (fun u hu => h u (by simp [hu]))
    exact ⟨h1.1, h2.2⟩
theorem htP_bd {p : Pr} (hp : p.Ok) {t : Th} (ht : t ∈ p.things) {z : Int × Int} (hz : ∀ x y : Int, (-4000 ≤ x ∧ x ≤ 4000) → y ∈ [z.1, z.2] → -5000000000000 ≤ x * y ∧ x * y ≤ 5000000000000) :
    (-5000000000000 ≤ (htP p t z).1 ∧ (htP p t z).1 ≤ 5000000000000) ∧ -5000000000000 ≤ (htP p t z).2 ∧ (htP p t z).2 ≤ 5000000000000 := by
  have f1 := hp.f1
  have f2 := hp.f2
  obtain ⟨h3, h4, h5⟩ := (hp.ths _ ht).1.2.1
  have e1 := hz t.ly.lo z.1 (by omega) (by simp)
  have e2 := hz t.ly.lo z.2 (by omega) (by simp)
  have e3 := hz t.ly.hi z.1 (by omega) (by simp)
  have e4 := hz t.ly.hi z.2 (by omega) (by simp)
  refine fold_bd _ _ (ediv_bd (by omega) e1) (fun y hy => ?_)
  simp only [htL, List.mem_cons, List.not_mem_nil, or_false] at hy
  rcases hy with rfl | rfl | rfl | rfl | rfl | rfl | rfl <;> exact ediv_bd (by omega) (by assumption)
theorem seen_in {g : Gl} {n : Int} (h : seenG g n = true) : g.f.Ok ∧ g.s.Ok ∧ ∃ k : Nat, n = k ∧ k < g.f.things.length ∧ k < g.s.things.length := by
  simp only [seenG, Bool.and_eq_true, decide_eq_true_eq] at h
  obtain ⟨h1, k, rfl, hk⟩ := dist_in h.1
  obtain ⟨h2, k2, hk2, hk3⟩ := dist_in h.2
  obtain rfl : k = k2 := by omega
  exact ⟨h1, h2, k, rfl, hk, hk3⟩
theorem sank_bd {g : Gl} {n : Int} (h : seenG g n = true) {z : Z2} (hz : Zok z) : ((-5000000000000 ≤ (htG g n z).1.1 ∧ (htG g n z).1.1 ≤ 5000000000000) ∧ -5000000000000 ≤ (htG g n z).1.2 ∧ (htG g n z).1.2 ≤ 5000000000000) ∧ (-5000000000000 ≤ (htG g n z).2.1 ∧ (htG g n z).2.1 ≤ 5000000000000) ∧ -5000000000000 ≤ (htG g n z).2.2 ∧ (htG g n z).2.2 ≤ 5000000000000 := by
  obtain ⟨hpf, hps, k, rfl, h1, h2⟩ := seen_in h
  have hm := hz.mul
  rw [htG, thingAt_eq h1 rfl, thingAt_eq h2 rfl]
  exact ⟨htP_bd hpf (List.getElem_mem h1) (fun x y hx hy => hm x y hx (by simp only [List.mem_cons, List.not_mem_nil, or_false] at hy; rcases hy with rfl | rfl <;> simp)), htP_bd hps (List.getElem_mem h2) (fun x y hx hy => hm x y hx (by simp only [List.mem_cons, List.not_mem_nil, or_false] at hy; rcases hy with rfl | rfl <;> simp))⟩
theorem yanswerM_calls (n : Int) (b : Nat) (z : Z2) (hz : Zok z) (W : World) : Calls Try.prog 125 #[.agg #[], .pointer (some ⟨b, 0, none⟩), .int .i64 n, z2v z] W (Pure (b2v (movedZ z)) W) := by
  obtain ⟨h1, h2, h3, h4⟩ := hz
  refine calls_start Try.func125 rfl rfl ?_
  refine RunC.seq ?_
  refine RunC.region ?_
  refine RunL.new (New.box rfl) rfl rfl rfl (fun b4 => ?_)
  refine RunL.new (New.box rfl) rfl rfl rfl (fun b7 => ?_)
  refine RunL.new (New.alloc zero_64) rfl rfl rfl (fun b8 => ?_)
  refine RunL.nil ?_
  refine RunE.next ?_
  refine RunC.seq ?_
  refine RunC.region ?_
  refine RunL.val (Val.indexAddr_arr rfl rfl arr_72 (by decide) (by decide)) rfl rfl rfl ?_
  refine RunL.val (Val.load_agg rfl (.tail _ (.head _)) ty_64 rfl) rfl rfl rfl ?_
  refine RunL.val (Val.indexAddr_arr rfl rfl arr_72 (by decide) (by decide)) rfl rfl rfl ?_
  refine RunL.val (Val.load_agg rfl (.tail _ (.head _)) ty_64 rfl) rfl rfl rfl ?_
  refine RunL.callP (isCall_func rfl ent_57) rfl rfl rfl (fun w hm => yless_calls z.2 z.1 (by omega) w) ?_
  refine RunL.sto (Sto.store rfl rfl .here ty_64 rfl rfl) rfl rfl ?_
  refine RunL.nil ?_
  refine RunE.next ?_
  refine RunC.ret ?_
  exact RunE.retP (.r1 rfl (.agg rfl (.head _) ty_64 rfl)) (by first | rfl | simp)
theorem yheightsG_calls (g : Gl) (a : Ga) (n : Int) (z : Z2) (b : Nat) (W : World) (hb : W.heap[b]? = some (.cells (g.cells a).toArray 110 (0, 0))) (hG : GIn W g a) (hs : seenG g n = true) (hz : Zok z) :
    Calls Try.prog 43 #[.pointer (some ⟨b, 0, none⟩), .int .i64 n, z2v z] W (Pure (z2v (htG g n z)) W) := by
  obtain ⟨hpf, hps, k, rfl, h1, h2⟩ := seen_in hs
  rw [htG, thingAt_eq h1 rfl, thingAt_eq h2 rfl]
  exact yheights_calls g a k _ _ z b W hb hG h1 h2 rfl rfl hpf hps hz.mul
theorem yanswerS_calls (g : Gl) (a : Ga) (n : Int) (z : Z2) (b : Nat) (W : World) (hb : W.heap[b]? = some (.cells (g.cells a).toArray 110 (0, 0))) (hG : GIn W g a) (hs : seenG g n = true) (hz : Zok z) :
    Calls Try.prog 126 #[.agg #[], .pointer (some ⟨b, 0, none⟩), .int .i64 n, z2v z] W (Pure (b2v (sankZ g n z)) W) := by
  obtain ⟨⟨h1, h2⟩, h3, h4⟩ := sank_bd hs hz
  refine calls_start Try.func126 rfl rfl ?_
  refine RunC.seq ?_
  refine RunC.region ?_
  refine RunL.new (New.box rfl) rfl rfl rfl (fun b4 => ?_)
  refine RunL.new (New.box rfl) rfl rfl rfl (fun b7 => ?_)
  refine RunL.new (New.alloc zero_64) rfl rfl rfl (fun b8 => ?_)
  refine RunL.nil ?_
  refine RunE.next ?_
  refine RunC.seq ?_
  refine RunC.region ?_
  refine RunL.val (Val.pure rfl) rfl rfl rfl ?_
  refine RunL.val (Val.pure rfl) rfl rfl rfl ?_
  refine RunL.val (Val.load_agg rfl (.tail _ (.head _)) ty_72 rfl) rfl rfl rfl ?_
  refine RunL.callP (isCall_func rfl ent_43) rfl rfl rfl (fun w hm => yheightsG_calls g a n z b w (hm.old_at hb (by simp)) (hG.mono hm) hs hz) ?_
  refine RunL.new (New.alloc zero_72) rfl rfl rfl (fun b9 => ?_)
  refine RunL.sto (Sto.store rfl rfl .here ty_72 rfl rfl) rfl rfl ?_
  refine RunL.nil ?_
  refine RunE.next ?_
  refine RunC.seq ?_
  refine RunC.region ?_
  refine RunL.val (Val.indexAddr_arr rfl rfl arr_72 (by decide) (by decide)) rfl rfl rfl ?_
  refine RunL.val (Val.load_agg rfl (.head _) ty_64 rfl) rfl rfl rfl ?_
  refine RunL.val (Val.indexAddr_arr rfl rfl arr_72 (by decide) (by decide)) rfl rfl rfl ?_
  refine RunL.val (Val.load_agg rfl (.head _) ty_64 rfl) rfl rfl rfl ?_
  refine RunL.callP (isCall_func rfl ent_57) rfl rfl rfl (fun w hm => yless_calls (htG g n z).1 (htG g n z).2 (by omega) w) ?_
  refine RunL.sto (Sto.store rfl rfl (.there .here) ty_64 rfl rfl) rfl rfl ?_
  refine RunL.nil ?_
  refine RunE.next ?_
  refine RunC.ret ?_
  exact RunE.retP (.r1 rfl (.agg rfl (.tail _ (.head _)) ty_64 rfl)) (by first | rfl | simp)
def ask1 {α : Type} (g : Gl) (n : Int) (f : Z2 → α) : Except Int α := if seenG g n then .ok (f (farG g n)) else .error 11
theorem yaskM_calls (g : Gl) (a : Ga) (n : Int) (b : Nat) (W : World) (hb : W.heap[b]? = some (.cells (g.cells a).toArray 110 (0, 0))) (hG : GIn W g a) :
    Calls Try.prog 37 #[.pointer (some ⟨b, 0, none⟩), .int .i64 n, .iface 69 (.agg #[])] W (Try ymisf (ask1 g n fun z => b2v (movedZ z)) W) := by
  refine calls_start Try.func37 rfl rfl ?_
  refine RunC.seq ?_
  refine RunC.region ?_
  refine RunL.new (New.alloc zero_64) rfl rfl rfl (fun b6 => ?_)
  refine RunL.nil ?_
  refine RunE.next ?_
  refine RunC.seq ?_
  refine RunC.region ?_
  refine RunL.val (Val.pure rfl) rfl rfl rfl ?_
  refine RunL.val (Val.pure rfl) rfl rfl rfl ?_
  refine RunL.callP (isCall_func rfl ent_41) rfl rfl rfl (fun w hm => yfar_calls g a n b w (hm.old_at hb (by simp)) (hG.mono hm)) ?_
  iterate 3 refine RunL.val (Val.pure rfl) rfl rfl rfl ?_
  refine RunL.new (New.alloc zero_72) rfl rfl rfl (fun b7 => ?_)
  refine RunL.sto (Sto.store rfl rfl .here ty_72 rfl rfl) rfl rfl ?_
  refine RunL.val (Val.pure rfl) rfl rfl rfl ?_
  refine RunL.nil ?_
  refine RunE.next ?_
  refine RunC.seq ?_
  refine RunC.region ?_
  refine RunL.val (Val.pure rfl) rfl rfl rfl ?_
  refine RunL.callT (isCall_func rfl ent_42) rfl rfl rfl (fun w hm => yneed_calls _ _ w) (fun e16 he16 => ?_) (fun v16 hv16 => ?_)
  · obtain ⟨er16, rfl⟩ := need_err he16
    refine RunE.pass_panic ?_
    exact RunE.panicT (by simp [ask1, er16])
  obtain ⟨ok16, rfl⟩ := need_ok hv16
  refine RunL.nil ?_
  refine RunE.next ?_
  refine RunC.seq ?_
  refine RunC.region ?_
  iterate 3 refine RunL.val (Val.pure rfl) rfl rfl rfl ?_
  refine RunL.val (Val.load_agg rfl (.head _) ty_72 rfl) rfl rfl rfl ?_
  refine RunL.callP (isCall_invoke rfl rfl (fun w => meth_69_pairworks_years_answer _ w) ent_125) rfl rfl rfl (fun w hm => yanswerM_calls n b _ (farG_ok g n) w) ?_
  refine RunL.sto (Sto.store rfl rfl (.there .here) ty_64 rfl rfl) rfl rfl ?_
  refine RunL.nil ?_
  refine RunE.next ?_
  refine RunC.ret ?_
  exact RunE.retT (.r1 rfl (.agg rfl (.tail _ (.head _)) ty_64 rfl)) (by simp [ask1, ok16, b2v])
theorem yaskS_calls (g : Gl) (a : Ga) (n : Int) (b : Nat) (W : World) (hb : W.heap[b]? = some (.cells (g.cells a).toArray 110 (0, 0))) (hG : GIn W g a) :
    Calls Try.prog 37 #[.pointer (some ⟨b, 0, none⟩), .int .i64 n, .iface 78 (.agg #[])] W (Try ymisf (ask1 g n fun z => b2v (sankZ g n z)) W) := by
  refine calls_start Try.func37 rfl rfl ?_
  refine RunC.seq ?_
  refine RunC.region ?_
  refine RunL.new (New.alloc zero_64) rfl rfl rfl (fun b6 => ?_)
  refine RunL.nil ?_
  refine RunE.next ?_
  refine RunC.seq ?_
  refine RunC.region ?_
  refine RunL.val (Val.pure rfl) rfl rfl rfl ?_
  refine RunL.val (Val.pure rfl) rfl rfl rfl ?_
  refine RunL.callP (isCall_func rfl ent_41) rfl rfl rfl (fun w hm => yfar_calls g a n b w (hm.old_at hb (by simp)) (hG.mono hm)) ?_
  iterate 3 refine RunL.val (Val.pure rfl) rfl rfl rfl ?_
  refine RunL.new (New.alloc zero_72) rfl rfl rfl (fun b7 => ?_)
  refine RunL.sto (Sto.store rfl rfl .here ty_72 rfl rfl) rfl rfl ?_
  refine RunL.val (Val.pure rfl) rfl rfl rfl ?_
  refine RunL.nil ?_
  refine RunE.next ?_
  refine RunC.seq ?_
  refine RunC.region ?_
  refine RunL.val (Val.pure rfl) rfl rfl rfl ?_
  refine RunL.callT (isCall_func rfl ent_42) rfl rfl rfl (fun w hm => yneed_calls _ _ w) (fun e16 he16 => ?_) (fun v16 hv16 => ?_)
  · obtain ⟨er16, rfl⟩ := need_err he16
    refine RunE.pass_panic ?_
    exact RunE.panicT (by simp [ask1, er16])
  obtain ⟨ok16, rfl⟩ := need_ok hv16
  refine RunL.nil ?_
  refine RunE.next ?_
  refine RunC.seq ?_
  refine RunC.region ?_
  iterate 3 refine RunL.val (Val.pure rfl) rfl rfl rfl ?_
  refine RunL.val (Val.load_agg rfl (.head _) ty_72 rfl) rfl rfl rfl ?_
  refine RunL.callP (isCall_invoke rfl rfl (fun w => meth_78_pairworks_years_answer _ w) ent_126) rfl rfl rfl (fun w hm => yanswerS_calls g a n _ b w (hm.old_at hb (by simp)) (hG.mono hm) ok16 (farG_ok g n)) ?_
  refine RunL.sto (Sto.store rfl rfl (.there .here) ty_64 rfl rfl) rfl rfl ?_
  refine RunL.nil ?_
  refine RunE.next ?_
  refine RunC.ret ?_
  exact RunE.retT (.r1 rfl (.agg rfl (.tail _ (.head _)) ty_64 rfl)) (by simp [ask1, ok16, b2v])
end Go.Proofs.Ytjijeeadmhpfcaa
