/- Walks of the laws of layer 1: PairTrue: what is drawn. -/
import Derived.Test.YthppnhjggdebbaaLh
import Derived.Test.YthppnhjggdebbaaMore4
import Derived.Test.YthppnhjggdebbaaFacts7
set_option linter.unusedSimpArgs false
set_option linter.unusedVariables false
namespace Go.Proofs.Ythppnhjggdebbaa
open Go Go.Eng Go.Pw1

/-- The numbers by which all is drawn. -/
structure By (l : List Int) : Prop where
  pos : 0 < l.length
  le : l.length ≤ maxLen
  rng : ∀ v ∈ l, 0 ≤ v ∧ v ≤ 65535
abbrev u16s (l : List Int) : List (List Value) := l.map fun v => [.int .u16 v]
theorem draw_calls (l : List Int) (hl : By l) (n : Int) (hn : 0 < n ∧ n ≤ 1000000) (a : Nat) (ha : a ≤ 1000000) (q : Option Addr) (b o cap bat bby : Nat) (W : World) (hat : W.heap[bat]? = some (.cells [.int .i64 (a : Int)].toArray 3 (0, 0)))
    (hby : W.heap[bby]? = some (.cells [.slice q l.length cap].toArray 39 (0, 0))) (hne : bby ≠ bat) (hbb : b ≠ bat) (hS : Sl W q b o 1 (u16s l)) :
    Calls Try.prog 72 #[.int .i64 n, .pointer (some ⟨bat, 0, none⟩), .pointer (some ⟨bby, 0, none⟩)] W (TurnsX bat (.cells [.int .i64 ((a + 1 : Nat) : Int)].toArray 3 (0, 0)) (fun r : Int => .int .i64 r) (fun r => 0 ≤ r ∧ r < n) W) := by
  have hil : (a + 1) % l.length < l.length := Nat.mod_lt _ hl.pos
  have hle := hl.le
  obtain ⟨v, hv⟩ : ∃ v, l[(a + 1) % l.length] = v := ⟨_, rfl⟩
  have hvr := hl.rng v (hv ▸ List.getElem_mem hil)
  refine calls_start_chg hat Try.func72 rfl rfl ?_
  refine RunC.seq ?_
  refine RunC.region ?_
  refine RunL.val (Val.pure rfl) rfl rfl rfl ?_
  refine RunL.nil ?_
  refine RunE.next ?_
  refine RunC.seq ?_
  refine RunC.region ?_
  refine RunL.val (Val.load_one rfl (.head _) ty_3 rfl) rfl rfl rfl ?_
  refine RunL.val (Val.addN (b := 1) (a + 1) rfl rfl rfl (i64_inN (by omega))) rfl rfl rfl ?_
  refine RunL.sto (Sto.store_chg rfl rfl .here ty_3 rfl rfl) rfl rfl ?_
  refine RunL.nil ?_
  refine RunE.next ?_
  refine RunC.seq ?_
  refine RunC.draw 12 fol_ .nil ?_
  refine RunA.val (i := 0) rfl (by kernel_rfl) (by kernel_rfl) (Val.oload_one rfl hby (by simp [hne]) ty_39 rfl) rfl rfl rfl (fun _ _ _ h => h) .nil rfl ?_
  refine RunA.val (i := 1) rfl (by kernel_rfl) (by kernel_rfl) (Val.load_one rfl (.head _) ty_3 rfl) rfl rfl rfl (fun _ _ _ h => h) .nil rfl ?_
  refine RunA.val (i := 2) rfl (by kernel_rfl) (by kernel_rfl) (Val.oload_one rfl hby (by simp [hne]) ty_39 rfl) rfl rfl rfl (fun _ _ _ h => h) .nil rfl ?_
  refine RunA.val (i := 3) rfl (by kernel_rfl) (by kernel_rfl) (Val.len_sl rfl sl_39) rfl rfl rfl (fun _ _ _ h => h) .nil rfl ?_
  refine RunA.val (i := 4) rfl (by kernel_rfl) (by kernel_rfl) (Val.remN (a := a + 1) (b := l.length) rfl rfl hl.pos) rfl rfl rfl (fun _ _ _ h => h) .nil rfl ?_
  refine RunA.val (i := 5) rfl (by kernel_rfl) (by kernel_rfl) (Val.indexAddr_slp rfl rfl sl_39 (by omega) (by omega) (hS.ptrM hil)) rfl rfl rfl (fun _ _ _ h => h) .nil rfl ?_
  refine RunA.val (i := 6) rfl (by kernel_rfl) (by kernel_rfl) (Val.load_gen rfl (fun w hm => hS.loadM1 (by decide) hm (by simp [hbb]) ty_55 hil (v := .int .u16 v) (by simp [hv]))) rfl rfl rfl (fun _ _ _ h => h) .nil rfl ?_
  refine RunA.val (i := 7) rfl (by kernel_rfl) (by kernel_rfl) (Val.convInt rfl und_55 und_3 (IntWalk.i64_in _ ⟨by omega, by omega⟩)) rfl rfl rfl (fun _ _ _ h => h) .nil rfl ?_
  refine RunA.val (i := 8) rfl (by kernel_rfl) (by kernel_rfl) (Val.load_one rfl (.head _) ty_3 rfl) rfl rfl rfl (fun _ _ _ h => h) .nil rfl ?_
  refine RunA.val (i := 9) rfl (by kernel_rfl) (by kernel_rfl) (Val.mul rfl rfl (IntWalk.i64_in _ ⟨by omega, by omega⟩)) rfl rfl rfl (fun _ _ _ h => h) .nil rfl ?_
  refine RunA.val (i := 10) rfl (by kernel_rfl) (by kernel_rfl) (Val.add rfl rfl (IntWalk.i64_in _ ⟨by omega, by omega⟩)) rfl rfl rfl (fun _ _ _ h => h) .nil rfl ?_
  refine RunA.val (i := 11) rfl (by kernel_rfl) (by kernel_rfl) (Val.pure rfl) rfl rfl rfl (fun _ _ _ h => h) .nil rfl ?_
  refine RunA.toB (by kernel_rfl) ?_
  refine RunB.one (i := 12) (by kernel_rfl) ?_
  refine RunI.val rfl (Val.rem rfl rfl (by omega) (by omega)) rfl rfl rfl (RunK.toB ?_)
  refine RunB.one (i := 13) (by kernel_rfl) ?_
  refine RunI.val rfl (Val.pure rfl) rfl rfl rfl (RunK.toB ?_)
  refine RunB.done (by kernel_rfl) ?_
  refine RunE.next ?_
  refine RunC.ret ?_
  exact RunE.retX ((v + 13 * ((a + 1 : Nat) : Int)) % n) ⟨Int.emod_nonneg _ (by omega), Int.emod_lt_of_pos _ (by omega)⟩ (.r1 rfl (.tmp rfl)) rfl
theorem draws_calls (l : List Int) (q : Option Addr) (cap : Nat) (W : World) : Calls Try.prog 27 #[.slice q l.length cap] W (News (fun β : Nat × Nat => .func (.func 72) #[] #[.pointer (some ⟨β.1, 0, none⟩), .pointer (some ⟨β.2, 0, none⟩)])
    (fun β => [(β.1, .cells [.int .i64 ((0 : Nat) : Int)].toArray 3 (0, 0)), (β.2, .cells [.slice q l.length cap].toArray 39 (0, 0))]) W) := by
  refine calls_start Try.func27 rfl rfl ?_
  refine RunC.seq ?_
  refine RunC.region ?_
  refine RunL.new (New.box rfl) rfl rfl rfl (fun b1 => ?_)
  refine RunL.val (Val.pure rfl) rfl rfl rfl ?_
  refine RunL.nil ?_
  refine RunE.next ?_
  refine RunC.seq ?_
  refine RunC.region ?_
  refine RunL.new (New.alloc zero_3) rfl rfl rfl (fun b3 => ?_)
  refine RunL.sto (Sto.store rfl rfl .here ty_3 rfl rfl) rfl rfl ?_
  refine RunL.nil ?_
  refine RunE.next ?_
  refine RunC.seq ?_
  refine RunC.region ?_
  refine RunL.val (Val.pure rfl) rfl rfl rfl ?_
  refine RunL.val (Val.pure rfl) rfl rfl rfl ?_
  refine RunL.nil ?_
  refine RunE.next ?_
  refine RunC.ret ?_
  exact RunE.ret (chg := []) (.r1 rfl (.tmp rfl)) (fun _ hm => ⟨(b3, b1), rfl, hm.pick (.cons .here rfl (.cons .here rfl .nil))⟩)
theorem about_calls (l : List Int) (hl : By l) (x wide : Int) (hx : -100000 ≤ x ∧ x ≤ 100000) (hw : 0 < wide ∧ wide ≤ 1000) (a : Nat) (ha : a ≤ 100000) (q : Option Addr) (b o cap bat bby bf : Nat) (W : World) (hat : W.heap[bat]? = some (.cells [.int .i64 (a : Int)].toArray 3 (0, 0)))
    (hby : W.heap[bby]? = some (.cells [.slice q l.length cap].toArray 39 (0, 0))) (hf : W.heap[bf]? = some (.cells [.func (.func 72) #[] #[.pointer (some ⟨bat, 0, none⟩), .pointer (some ⟨bby, 0, none⟩)]].toArray 40 (0, 0))) (hne : bby ≠ bat) (hnf : bf ≠ bat) (hbb : b ≠ bat) (hS : Sl W q b o 1 (u16s l)) :
    Calls Try.prog 29 #[.int .i64 x, .int .i64 wide, .pointer (some ⟨bf, 0, none⟩)] W (TurnsX bat (.cells [.int .i64 ((a + 1 + 1 : Nat) : Int)].toArray 3 (0, 0)) (fun r : Int × Int => .agg #[.int .i64 (x - r.1), .int .i64 (x + r.2)]) (fun r => (0 ≤ r.1 ∧ r.1 < wide) ∧ (0 ≤ r.2 ∧ r.2 < wide)) W) := by
  refine calls_start_chg hat Try.func29 rfl rfl ?_
  refine RunC.seq ?_
  refine RunC.region ?_
  refine RunL.new (New.alloc zero_23) rfl rfl rfl (fun b5 => ?_)
  refine RunL.nil ?_
  refine RunE.next ?_
  refine RunC.seq ?_
  refine RunC.drawK 10 fol_ (.cons .here rfl .nil) ?_
  refine RunA.valC (i := 0) rfl (by kernel_rfl) (by kernel_rfl) (fun c hck => (Val.pure rfl)) rfl rfl rfl (fun _ _ _ h => h) (.cons .here rfl .nil) rfl ?_
  refine RunA.valC (i := 1) rfl (by kernel_rfl) (by kernel_rfl) (fun c hck => (Val.oload_one rfl hf (notin_of hck (by simp [hnf])) ty_40 rfl)) rfl rfl rfl (fun _ _ _ h => h) (.cons .here rfl .nil) rfl ?_
  refine RunA.valC (i := 2) rfl (by kernel_rfl) (by kernel_rfl) (fun c hck => (Val.pure rfl)) rfl rfl rfl (fun _ _ _ h => h) (.cons .here rfl .nil) rfl ?_
  refine RunA.valC (i := 5) rfl (by kernel_rfl) (by kernel_rfl) (fun c hck => (Val.pure rfl)) rfl rfl rfl (fun _ _ _ h => h) (.cons .here rfl .nil) rfl ?_
  refine RunA.valC (i := 6) rfl (by kernel_rfl) (by kernel_rfl) (fun c hck => (Val.oload_one rfl hf (notin_of hck (by simp [hnf])) ty_40 rfl)) rfl rfl rfl (fun _ _ _ h => h) (.cons .here rfl .nil) rfl ?_
  refine RunA.valC (i := 7) rfl (by kernel_rfl) (by kernel_rfl) (fun c hck => (Val.pure rfl)) rfl rfl rfl (fun _ _ _ h => h) (.cons .here rfl .nil) rfl ?_
  refine RunA.one (i := 3) (by kernel_rfl) (by kernel_rfl) ?_
  refine RunI.callX_chg rfl (isCall_value rfl rfl ent_72) rfl rfl rfl .here (fun w hm => draw_calls l hl _ (by omega) _ (by omega) q b o cap _ _ w (hm.at (.head _)) (hm.old_at hby (by simp [hne])) hne hbb (hS.mono (by decide) hm (by simp [hbb]))) (fun x9 hx9 => (RunK.toA (.cons .here rfl .nil) (.cons .here rfl .nil) rfl ?_))
  refine RunA.valC (i := 4) rfl (by kernel_rfl) (by kernel_rfl) (fun c hck => (Val.sub' rfl rfl (IntWalk.i64_in _ ⟨by omega, by omega⟩))) rfl rfl rfl (fun _ _ _ h => h) (.cons .here rfl .nil) rfl ?_
  refine RunA.one (i := 8) (by kernel_rfl) (by kernel_rfl) ?_
  refine RunI.callX_chg rfl (isCall_value rfl rfl ent_72) rfl rfl rfl .here (fun w hm => draw_calls l hl _ (by omega) _ (by omega) q b o cap _ _ w (hm.at (.head _)) (hm.old_at hby (by simp [hne])) hne hbb (hS.mono (by decide) hm (by simp [hbb]))) (fun x14 hx14 => (RunK.toA (.cons .here rfl .nil) (.cons .here rfl .nil) rfl ?_))
  refine RunA.valC (i := 9) rfl (by kernel_rfl) (by kernel_rfl) (fun c hck => (Val.add rfl rfl (IntWalk.i64_in _ ⟨by omega, by omega⟩))) rfl rfl rfl (fun _ _ _ h => h) (.cons .here rfl .nil) rfl ?_
  refine RunA.toB (by kernel_rfl) ?_
  refine RunB.one (i := 10) (by kernel_rfl) ?_
  refine RunI.callP rfl (isCall_func rfl ent_28) rfl rfl rfl (fun w hm => lspan_calls _ _ w) (RunK.toB ?_)
  refine RunB.one (i := 11) (by kernel_rfl) ?_
  refine RunI.sto rfl (Sto.store rfl rfl .here ty_23 rfl rfl) rfl rfl (RunK.toB ?_)
  refine RunB.done (by kernel_rfl) ?_
  refine RunE.next ?_
  refine RunC.ret ?_
  exact RunE.retX (x9, x14) ⟨hx9, hx14⟩ (.r1 rfl (.agg rfl (.tail _ (.head _)) ty_23 rfl)) rfl
end Go.Proofs.Ythppnhjggdebbaa
