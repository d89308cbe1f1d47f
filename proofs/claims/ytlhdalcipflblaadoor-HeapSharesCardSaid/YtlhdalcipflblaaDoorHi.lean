/- Walks of package heap: counting from the first card on, and shares. -/
import Derived.Test.YtlhdalcipflblaaDoorHh
import Derived.Test.YtlhdalcipflblaaDoorHy4
set_option linter.unusedSimpArgs false
set_option linter.unusedVariables false
namespace Go.Hp
open Go Go.Eng Go.Pw1
theorem sets_len (fs : List Nat) : ∀ x ∈ setsV fs, x.length = 1 := fun x hx => by
  obtain ⟨a, _, rfl⟩ := List.mem_map.1 hx
  rfl
theorem sets_fl (fs : List Nat) : (setsV fs).flatten.length = fs.length * 1 := flat_len (f := fun (x : Nat) => [Value.int .u64 (x : Int)]) (fun _ => rfl) fs
theorem sets_ne {fs : List Nat} {c : Nat} (h : c < fs.length) : setsV fs ≠ [] := fun e => by
  have := congrArg List.length e
  simp [setsV] at this
  subst this
  simp at h
theorem paste_set {fs : List Nat} {c v : Nat} (h : c < fs.length) {t : List Value} : paste ((setsV fs).flatten ++ t) c [.int .u64 (v : Int)] = some ((setsV (fs.set c v)).flatten ++ t) := by
  have := paste_row (f := fun (x : Nat) => [Value.int .u64 (x : Int)]) (sz := 1) (fun _ => rfl) (a' := v) (j := 0) (vs := [.int .u64 (v : Int)]) (t := t) h rfl
  simpa [setsV] using this
theorem setC_len {fs : List Nat} {c e : Nat} : (setC fs c e).length = fs.length := by simp [setC]
theorem setC_lt {fs : List Nat} {c e n : Nat} (hc : c < fs.length) (h : ∀ f ∈ fs, f < 2 ^ n) : ∀ f ∈ setC fs c e, f < 2 ^ n := fun f hf => by
  rcases List.mem_or_eq_of_mem_set hf with h1 | h1
  · exact h f h1
  · subst h1
    rw [List.getD_eq_getElem?_getD, List.getElem?_eq_getElem hc, Option.getD_some]
    exact Nat.lt_of_le_of_lt Nat.and_le_left (h _ (List.getElem_mem hc))
theorem good_nil {ne : Nat} {fs : List Nat} : GoodM ne fs [] := fun e he => by cases he
abbrev cntF (z : Nat × Nat) : Value := .func (.func 68) #[] #[.pointer (some ⟨z.1, 0, none⟩), .pointer (some ⟨z.2, 0, none⟩)]
abbrev cntB (bh : Nat) (z : Nat × Nat) : Blks := [(z.2, .cells [cntF z].toArray 84 (0, 0)), (z.1, .cells [.pointer (some ⟨bh, 0, none⟩)].toArray 64 (0, 0))]
abbrev stB (fs : List Nat) (z : Nat × Nat × List Value) : Blks := [(z.1, .cells ((setsV fs).flatten ++ z.2.2).toArray 68 (0, 0))]
theorem stB_sl {fs : List Nat} {z : Nat × Nat × List Value} {w : World} (h : w.heap[z.1]? = some (.cells ((setsV fs).flatten ++ z.2.2).toArray 68 (0, 0))) : Sl w (some ⟨z.1, 0, none⟩) z.1 0 1 (setsV fs) := Sl.rowsR h (sets_len fs)
end Go.Hp
namespace Go.Proofs.YtlhdalcipflblaaDoor
open Go Go.Eng Go.Hp Go.Pw1

theorem clone_calls (fs : List Nat) (hf : 0 < fs.length) (hl : fs.length ≤ 8) (q : Option Addr) (b o cap : Nat) (W : World) (hS : Sl W q b o 1 (setsV fs)) : Calls Tryd.prog 70 #[.slice q fs.length cap] W (News (fun z : Nat × Nat × List Value => .slice (some ⟨z.1, 0, none⟩) fs.length z.2.1) (fun z => stB fs z) W) := by
  obtain rfl := hS.ptrM hf
  refine calls_start Tryd.func70 rfl rfl ?_
  refine RunC.seq ?_
  refine RunC.region ?_
  refine RunL.val (Val.pure rfl) rfl rfl rfl ?_
  refine RunL.nil ?_
  refine RunE.next ?_
  refine RunC.seq ?_
  refine RunC.seq ?_
  refine RunC.region ?_
  refine RunL.val (Val.pure rfl) rfl rfl rfl ?_
  refine RunL.val (Val.eqlSlNil rfl sls_70) rfl rfl rfl ?_
  refine RunL.nil ?_
  refine RunE.next ?_
  refine RunC.cond rfl (fun h => absurd h (by simp)) ?_
  intro c0
  clear c0
  refine RunC.skip ?_
  refine RunE.next ?_
  refine RunC.seq ?_
  refine RunC.region ?_
  refine RunL.new (New.buildSlice0 sl_70) rfl rfl rfl (fun b5 => ?_)
  refine RunL.val (Val.pure rfl) rfl rfl rfl ?_
  refine RunL.append (A := []) (B := _) (x := (some (b5, 0, []))) (ys := (setsV fs).flatten) ap_70 rfl rfl rfl OwnOk.empty (sets_fl fs) (fun h => by cases h) (fun w hm => (hS.mono (by decide) hm (by simp)).flat (by decide)) (one_flat (fun _ => rfl) _) (by simp only [maxLen]; omega) (by omega) rfl (fun z7 hz7 => ?_)
  obtain ⟨bz7, cz7, rz7, rfl, lz71, lz72, lz73⟩ := hz7.has (by omega)
  refine RunL.val (Val.pure rfl) rfl rfl rfl ?_
  refine RunL.nil ?_
  refine RunE.next ?_
  refine RunC.ret ?_
  exact RunE.ret (chg := []) (.r1 rfl (.tmp rfl)) (fun _ hm => ⟨(bz7, cz7, rz7), by simp only [ownV, Nat.zero_add], hm.pick (.cons .here rfl .nil)⟩)
theorem count0_calls (bh : Nat) (W : World) : Calls Tryd.prog 51 #[.pointer (some ⟨bh, 0, none⟩)] W (News cntF (cntB bh) W) := by
  refine calls_start Tryd.func51 rfl rfl ?_
  refine RunC.seq ?_
  refine RunC.region ?_
  refine RunL.new (New.box rfl) rfl rfl rfl (fun b1 => ?_)
  refine RunL.val (Val.pure rfl) rfl rfl rfl ?_
  refine RunL.nil ?_
  refine RunE.next ?_
  refine RunC.seq ?_
  refine RunC.region ?_
  refine RunL.new (New.alloc zero_84) rfl rfl rfl (fun b3 => ?_)
  refine RunL.nil ?_
  refine RunE.next ?_
  refine RunC.seq ?_
  refine RunC.region ?_
  refine RunL.val (Val.pure rfl) rfl rfl rfl ?_
  refine RunL.sto (Sto.store rfl rfl .here ty_84 rfl rfl) rfl rfl ?_
  refine RunL.nil ?_
  refine RunE.next ?_
  refine RunC.seq ?_
  refine RunC.region ?_
  refine RunL.val (Val.load_one rfl (.head _) ty_84 rfl) rfl rfl rfl ?_
  refine RunL.val (Val.pure rfl) rfl rfl rfl ?_
  refine RunL.nil ?_
  refine RunE.next ?_
  refine RunC.ret ?_
  exact RunE.ret (chg := []) (.r1 rfl (.tmp rfl)) (fun _ hm => ⟨(b1, b3), rfl, hm.pick (.cons .here rfl (.cons .here rfl .nil))⟩)
theorem share_calls (m : MxA) (nE : Nat) (qe : Option Addr) (ce : Nat) (fs : List Nat) (qf : Option Addr) (bf cf : Nat) (c e : Nat) (hc : c < fs.length) (he : e < nE) (bh bk : Nat) (W : World) (hH : HpAt W bh bk m nE qe ce fs qf bf cf) :
    Calls Tryd.prog 54 #[.pointer (some ⟨bh, 0, none⟩), .int .i64 (c : Int), .int .i64 (e : Int)] W (Pure (.int .i64 ((shareL nE fs c e : Nat) : Int)) W) := by
  have hv := hH.v
  have hl8 := hH.le
  have hne := hH.ne
  have h2e : 2 ^ e < 2 ^ 12 := Nat.pow_lt_pow_right (by decide) (by omega)
  obtain ⟨f, hf⟩ : ∃ f, fs[c] = f := ⟨_, rfl⟩
  have hfl : f < 2 ^ 12 := by
    have q1 := hH.lt f (hf ▸ List.getElem_mem hc)
    have q2 : 2 ^ nE ≤ 2 ^ 12 := Nat.pow_le_pow_right (by decide) hne
    omega
  have hfe : f &&& 2 ^ e ≤ f := Nat.and_le_left
  have hset : fs.set c (f &&& 2 ^ e) = setC fs c e := by
    unfold setC
    rw [List.getD_eq_getElem?_getD, List.getElem?_eq_getElem hc, Option.getD_some, hf]
  refine calls_start Tryd.func54 rfl rfl ?_
  refine RunC.seq ?_
  refine RunC.region ?_
  refine RunL.val (Val.pure rfl) rfl rfl rfl ?_
  refine RunL.nil ?_
  refine RunE.next ?_
  refine RunC.seq ?_
  refine RunC.drawX (X := Nat × Nat × (Nat × Nat × List Value)) 14 (n0 := []) (fun y q => (7, .pointer (some ⟨y.1, 0, none⟩)) :: q) (fun y => []) (fun y => [(y.1, .cells [.slice m.q m.bxs.length m.cap, .slice m.q2 m.cards.length m.cap2, .slice qe nE ce, .slice (some ⟨y.2.2.1, 0, none⟩) fs.length y.2.2.2.1, .map (some y.2.1)].toArray 73 (0, 0)), (y.2.1, mapG []), (y.2.2.1, .cells ((setsV fs).flatten ++ y.2.2.2.2).toArray 68 (0, 0))]) (fun y => []) (fun y => True) fol_ .nil (Sub.cons (t := 0) rfl (Sub.cons (t := 1) rfl (Sub.cons (t := 2) rfl (Sub.nil _)))) .nil ?_ ?_
  · refine RunA.val (i := 0) rfl (by kernel_rfl) (by kernel_rfl) (Val.pure rfl) rfl rfl rfl (fun _ _ _ h => h) .nil rfl ?_
    refine RunA.val (i := 1) rfl (by kernel_rfl) (by kernel_rfl) (Val.pure rfl) rfl rfl rfl (fun _ _ _ h => h) .nil rfl ?_
    refine RunA.val (i := 2) rfl (by kernel_rfl) (by kernel_rfl) (Val.fieldAddr rfl fld_73_0) rfl rfl rfl (fun _ _ _ h => h) .nil rfl ?_
    refine RunA.val (i := 3) rfl (by kernel_rfl) (by kernel_rfl) (Val.oload_agg rfl hv (by simp) ty_25 rfl) rfl rfl rfl (fun _ _ _ h => h) .nil rfl ?_
    refine RunA.val (i := 4) rfl (by kernel_rfl) (by kernel_rfl) (Val.pure rfl) rfl rfl rfl (fun _ _ _ h => h) .nil rfl ?_
    refine RunA.val (i := 5) rfl (by kernel_rfl) (by kernel_rfl) (Val.pure rfl) rfl rfl rfl (fun _ _ _ h => h) .nil rfl ?_
    refine RunA.val (i := 6) rfl (by kernel_rfl) (by kernel_rfl) (Val.fieldAddr rfl fld_73_1) rfl rfl rfl (fun _ _ _ h => h) .nil rfl ?_
    refine RunA.val (i := 7) rfl (by kernel_rfl) (by kernel_rfl) (Val.oload_one rfl hv (by simp) ty_69 rfl) rfl rfl rfl (fun _ _ _ h => h) .nil rfl ?_
    refine RunA.val (i := 8) rfl (by kernel_rfl) (by kernel_rfl) (Val.pure rfl) rfl rfl rfl (fun _ _ _ h => h) .nil rfl ?_
    refine RunA.val (i := 9) rfl (by kernel_rfl) (by kernel_rfl) (Val.pure rfl) rfl rfl rfl (fun _ _ _ h => h) .nil rfl ?_
    refine RunA.val (i := 10) rfl (by kernel_rfl) (by kernel_rfl) (Val.fieldAddr rfl fld_73_2) rfl rfl rfl (fun _ _ _ h => h) .nil rfl ?_
    refine RunA.val (i := 11) rfl (by kernel_rfl) (by kernel_rfl) (Val.oload_one rfl hv (by simp) ty_70 rfl) rfl rfl rfl (fun _ _ _ h => h) .nil rfl ?_
    refine RunA.all (rs := [12, 13]) (by kernel_rfl) (by simp) (by kernel_rfl) (fun m hm => ?_)
    simp only [List.mem_cons, List.not_mem_nil, or_false] at hm
    rcases hm with rfl | rfl
    · refine RunI.callN rfl (isCall_func rfl ent_70) rfl rfl rfl (fun w hm => clone_calls fs (by omega) hl8 qf bf 0 cf w (hH.sl.mono (by decide) hm (by simp))) (fun b20 => (RunK.toA (.cons .here rfl .nil) .nil rfl ?_))
      refine RunA.one (i := 13) (by kernel_rfl) (by kernel_rfl) ?_
      refine RunI.new rfl New.makeMapG rfl rfl rfl (fun b21 => (RunK.toA (.cons .here rfl (.cons .here rfl .nil)) (.cons (.there .here) rfl .nil) rfl ?_))
      refine RunA.toB (by kernel_rfl) ?_
      refine RunB.one (i := 14) (by kernel_rfl) ?_
      refine RunI.val rfl (Val.build (parts := [(0, .tmp 11), (1, .tmp 15), (2, .tmp 20), (3, .tmp 21)]) rfl zero_73 places_73 rfl) rfl rfl rfl (RunK.toB ?_)
      refine RunB.one (i := 15) (by kernel_rfl) ?_
      refine RunI.new rfl (New.box rfl) rfl rfl rfl (fun b23 => (RunK.toB ?_))
      refine RunB.one (i := 16) (by kernel_rfl) ?_
      refine RunI.val rfl (Val.pure rfl) rfl rfl rfl (RunK.toB ?_)
      refine RunB.done (by kernel_rfl) ?_
      exact RunE.joinX (b23, b21, b20) trivial rfl (Sub.consE (t := 7) rfl rfl (Sub.cons (t := 0) rfl (Sub.cons (t := 1) rfl (Sub.cons (t := 2) rfl (Sub.nil _))))) (.cons .here rfl (.cons .here rfl (.cons .here rfl .nil)))
    · refine RunI.new rfl New.makeMapG rfl rfl rfl (fun b21 => (RunK.toA (.cons .here rfl .nil) .nil rfl ?_))
      refine RunA.one (i := 12) (by kernel_rfl) (by kernel_rfl) ?_
      refine RunI.callN rfl (isCall_func rfl ent_70) rfl rfl rfl (fun w hm => clone_calls fs (by omega) hl8 qf bf 0 cf w (hH.sl.mono (by decide) hm (by simp))) (fun b20 => (RunK.toA (.cons .here rfl (.cons .here rfl .nil)) (.cons (.there .here) rfl .nil) rfl ?_))
      refine RunA.toB (by kernel_rfl) ?_
      refine RunB.one (i := 14) (by kernel_rfl) ?_
      refine RunI.val rfl (Val.build (parts := [(0, .tmp 11), (1, .tmp 15), (2, .tmp 20), (3, .tmp 21)]) rfl zero_73 places_73 rfl) rfl rfl rfl (RunK.toB ?_)
      refine RunB.one (i := 15) (by kernel_rfl) ?_
      refine RunI.new rfl (New.box rfl) rfl rfl rfl (fun b23 => (RunK.toB ?_))
      refine RunB.one (i := 16) (by kernel_rfl) ?_
      refine RunI.val rfl (Val.pure rfl) rfl rfl rfl (RunK.toB ?_)
      refine RunB.done (by kernel_rfl) ?_
      exact RunE.joinX (b23, b21, b20) trivial rfl (Sub.consE (t := 7) rfl rfl (Sub.cons (t := 0) rfl (Sub.cons (t := 1) rfl (Sub.cons (t := 2) rfl (Sub.nil _))))) (.cons .here rfl (.cons (.there .here) rfl (.cons .here rfl .nil)))
  · intro y yI
    obtain ⟨b23, b21, b20⟩ := y
    dsimp only
    refine RunE.next ?_
    refine RunC.seq ?_
    refine RunC.draw 9 fol_ (.cons .here rfl (.cons .here rfl (.cons .here rfl .nil))) ?_
    refine RunA.val (i := 0) rfl (by kernel_rfl) (by kernel_rfl) (Val.pure rfl) rfl rfl rfl (fun _ _ _ h => h) (.cons .here rfl (.cons .here rfl (.cons .here rfl .nil))) rfl ?_
    refine RunA.val (i := 1) rfl (by kernel_rfl) (by kernel_rfl) (Val.pure rfl) rfl rfl rfl (fun _ _ _ h => h) (.cons .here rfl (.cons .here rfl (.cons .here rfl .nil))) rfl ?_
    refine RunA.val (i := 2) rfl (by kernel_rfl) (by kernel_rfl) (Val.fieldAddr rfl fld_73_2) rfl rfl rfl (fun _ _ _ h => h) (.cons .here rfl (.cons .here rfl (.cons .here rfl .nil))) rfl ?_
    refine RunA.val (i := 3) rfl (by kernel_rfl) (by kernel_rfl) (Val.load_one rfl (.head _) ty_70 rfl) rfl rfl rfl (fun _ _ _ h => h) (.cons .here rfl (.cons .here rfl (.cons .here rfl .nil))) rfl ?_
    refine RunA.val (i := 4) rfl (by kernel_rfl) (by kernel_rfl) (Val.pure rfl) rfl rfl rfl (fun _ _ _ h => h) (.cons .here rfl (.cons .here rfl (.cons .here rfl .nil))) rfl ?_
    refine RunA.val (i := 5) rfl (by kernel_rfl) (by kernel_rfl) (Val.indexAddr_sl rfl rfl sl_70 (by omega) (by omega)) rfl rfl rfl (fun _ _ _ h => h) (.cons .here rfl (.cons .here rfl (.cons .here rfl .nil))) rfl ?_
    refine RunA.val (i := 6) rfl (by kernel_rfl) (by kernel_rfl) (Val.load_gen rfl (fun w hm => (stB_sl (hm.at (.tail _ (.tail _ (.head _))))).loadM1 (by decide) (Mem.refl w) (by simp) ty_68 hc (v := .int .u64 (f : Int)) (by simp [hf]))) rfl rfl rfl (fun _ _ _ h => h) (.cons .here rfl (.cons .here rfl (.cons .here rfl .nil))) rfl ?_
    refine RunA.val (i := 7) rfl (by kernel_rfl) (by kernel_rfl) (Val.pure rfl) rfl rfl rfl (fun _ _ _ h => h) (.cons .here rfl (.cons .here rfl (.cons .here rfl .nil))) rfl ?_
    refine RunA.val (i := 8) rfl (by kernel_rfl) (by kernel_rfl) (Val.shl1 (b := e) rfl rfl (by show e ≤ 64; omega) (u64_in (n := 2 ^ e) (by omega))) rfl rfl rfl (fun _ _ _ h => h) (.cons .here rfl (.cons .here rfl (.cons .here rfl .nil))) rfl ?_
    refine RunA.toB (by kernel_rfl) ?_
    refine RunB.one (i := 9) (by kernel_rfl) ?_
    refine RunI.val rfl (Val.and (a := f) (b := 2 ^ e) rfl rfl (by show _ < 18446744073709551616; omega) (by show _ < 18446744073709551616; omega) (u64_in (by omega))) rfl rfl rfl (RunK.toB ?_)
    refine RunB.one (i := 10) (by kernel_rfl) ?_
    refine RunI.val rfl (Val.indexAddr_sl rfl rfl sl_70 (by omega) (by omega)) rfl rfl rfl (RunK.toB ?_)
    refine RunB.one (i := 11) (by kernel_rfl) ?_
    refine RunI.sto rfl (Sto.store (cs := (setsV fs).flatten ++ b20.2.2) (cs' := (setsV (setC fs c e)).flatten ++ b20.2.2) rfl rfl (.there (.there .here)) ty_68 rfl (by rw [← hset, Nat.zero_add, Int.toNat_natCast, Nat.mul_one]; exact paste_set hc)) rfl rfl (RunK.toB ?_)
    refine RunB.done (by kernel_rfl) ?_
    refine RunE.next ?_
    refine RunC.seq ?_
    refine RunC.region ?_
    refine RunL.val (Val.pure rfl) rfl rfl rfl ?_
    refine RunL.callN (isCall_func rfl ent_51) rfl rfl rfl (fun w hm => count0_calls b23 w) (fun b36 => ?_)
    refine RunL.callZ (isCall_value rfl rfl ent_68) rfl rfl rfl (fun _ => (.there (.there (.there .here)))) (fun w hm => on_calls fs.length 0 m nE qe ce (setC fs c e) (some ⟨b20.1, 0, none⟩) b20.1 b20.2.1 (by rw [setC_len]; omega) 0 (by decide) [] good_nil b23 b21 b36.1 b36.2 w ⟨(by rw [setC_len]; exact hm.at (.tail _ (.tail _ (.head _)))), stB_sl (hm.at (.tail _ (.tail _ (.tail _ (.tail _ (.head _)))))), (by rw [setC_len]; exact hH.len), (by rw [setC_len]; exact hl8), hne, setC_lt hc hH.lt⟩ (hm.at (.tail _ (.tail _ (.tail _ (.head _))))) (hm.at (.tail _ (.head _))) (hm.at (.head _))) (fun x37 hx37 => ?_)
    refine RunL.val (Val.pure rfl) rfl rfl rfl ?_
    refine RunL.nil ?_
    refine RunE.next ?_
    refine RunC.ret ?_
    exact RunE.retP (.r1 rfl (.tmp rfl)) (by first | rfl | simp)
end Go.Proofs.YtlhdalcipflblaaDoor
