/- Walks of the laws of layer 1: PairTrue. -/
import Derived.Test.YthppnhjggdebbaaLi
set_option linter.unusedSimpArgs false
set_option linter.unusedVariables false
namespace Go.Proofs.Ythppnhjggdebbaa
open Go Go.Eng Go.Pw1

theorem ne_of_T {W w : World} {chg news : Blks} {b b' : Nat} {c c' : Array Value} {T T' : TypeId} {f f' : Nat × Nat} (hm : Mem W chg news w) (h : (b, .cells c T f) ∈ chg ++ news) (h' : (b', .cells c' T' f') ∈ chg ++ news) (hT : T ≠ T') : b ≠ b' := fun e => by
  have h1 := hm.at h
  have h2 := hm.at h'
  rw [e, h2] at h1
  simp at h1
  exact hT h1.2.1.symm
theorem rCountMax_calls (s : Nat) (hs : s < 4096) (W : World) : Calls Try.prog 31 #[.int .i64 (max 0 (s : Int))] W (Pure (.int .i64 (pc s 12 : Int)) W) := by
  rw [show max 0 (s : Int) = s by omega]
  exact rCount_calls s hs W
theorem own_ptr {sz : Nat} {x : Eng.Own} {k : Nat} {xs : List Value} (h : OwnOk sz x k xs) (hk : 0 < k) : ownQ x = some ⟨ownK x, 0, none⟩ := by
  obtain ⟨b, c, r, rfl, _⟩ := h.has hk
  rfl
set_option maxHeartbeats 1000000 in
theorem true_calls (things : Nat) (hth : things ≤ 255) (l : List Int) (hlm : l.length ≤ maxLen) (hlr : ∀ v ∈ l, 0 ≤ v ∧ v ≤ 65535) (q : Option Addr) (b o cap : Nat) (W : World) (hS : Sl W q b o 1 (u16s l)) :
    Calls Try.prog 5 #[.int .u8 (things : Int), .slice q l.length cap] W (Pure (.bool true) W) := by
  refine calls_start Try.func5 rfl rfl ?_
  refine RunC.seq ?_
  refine RunC.region ?_
  refine RunL.val (Val.pure rfl) rfl rfl rfl ?_
  refine RunL.nil ?_
  refine RunE.next ?_
  refine RunC.seq ?_
  refine RunC.seq ?_
  refine RunC.region ?_
  refine RunL.val (Val.pure rfl) rfl rfl rfl ?_
  refine RunL.val (Val.len_sl rfl sl_39) rfl rfl rfl ?_
  refine RunL.val (Val.pure rfl) rfl rfl rfl ?_
  refine RunL.nil ?_
  refine RunE.next ?_
  refine RunC.cond rfl ?_ ?_
  · intro c0
    have c0' := c0; clear c0
    try simp only [decide_eq_true_eq, decide_eq_false_iff_not, Bool.not_eq_true', Bool.not_eq_false', Bool.and_eq_true, Bool.or_eq_true, Bool.and_eq_false_iff, Bool.or_eq_false_iff, Int.not_le, Int.not_lt] at c0'
    refine RunC.seq ?_
    refine RunC.region ?_
    refine RunL.callP (isCall_func rfl ent_12) rfl rfl rfl (fun w hm => awake_calls w) ?_
    refine RunL.val (Val.pure rfl) rfl rfl rfl ?_
    refine RunL.nil ?_
    refine RunE.next ?_
    refine RunC.ret ?_
    refine RunE.pass_ret ?_
    exact RunE.retP (.r1 rfl (.tmp rfl)) (by first | rfl | simp)
  · intro c0
    have c0' := c0; clear c0
    try simp only [decide_eq_true_eq, decide_eq_false_iff_not, Bool.not_eq_true', Bool.not_eq_false', Bool.and_eq_true, Bool.or_eq_true, Bool.and_eq_false_iff, Bool.or_eq_false_iff, Int.not_le, Int.not_lt] at c0'
    have hpos : 0 < l.length := by omega
    have hlne : u16s l ≠ [] := by intro h; have h2 := congrArg List.length h; simp at h2; rw [h2] at hpos; simp at hpos
    have hl : By l := ⟨hpos, hlm, hlr⟩
    refine RunC.skip ?_
    refine RunE.next ?_
    refine RunC.seq ?_
    refine RunC.region ?_
    refine RunL.val (Val.pure rfl) rfl rfl rfl ?_
    refine RunL.callN (isCall_func rfl ent_27) rfl rfl rfl (fun w hm => draws_calls l q cap w) (fun b41 => ?_)
    refine RunL.new (New.alloc zero_40) rfl rfl rfl (fun b5 => ?_)
    refine RunL.sto (Sto.store rfl rfl .here ty_40 rfl rfl) rfl rfl ?_
    refine RunL.nil ?_
    refine RunE.next ?_
    refine RunC.seq ?_
    refine RunC.draw 7 fol_ (.cons .here rfl (.cons (.there .here) rfl .nil)) ?_
    refine RunA.val (i := 0) rfl (by kernel_rfl) (by kernel_rfl) (Val.load_one rfl (.head _) ty_40 rfl) rfl rfl rfl (fun _ _ _ h => h) (.cons .here rfl (.cons (.there .here) rfl .nil)) rfl ?_
    refine RunA.val (i := 3) rfl (by kernel_rfl) (by kernel_rfl) (Val.load_one rfl (.head _) ty_40 rfl) rfl rfl rfl (fun _ _ _ h => h) (.cons .here rfl (.cons (.there .here) rfl .nil)) rfl ?_
    refine RunA.one (i := 1) (by kernel_rfl) (by kernel_rfl) ?_
    refine RunI.callX rfl (isCall_value rfl rfl ent_72) rfl rfl rfl (.there .here) (fun w hm => draw_calls l hl _ (by omega) _ (by omega) q b o cap _ _ w (hm.at (.tail _ (.head _))) (hm.at (.tail _ (.tail _ (.head _)))) (ne_of_T hm (.tail _ (.tail _ (.head _))) (.tail _ (.head _)) (by decide)) (hS.ne (by decide) hm (.tail _ (.head _)) hlne) (hS.mono (by decide) hm (by simp))) (fun x43 hx43 => (RunK.toA (.cons .here rfl (.cons (.there .here) rfl .nil)) (.cons .here rfl (.cons .here rfl .nil)) rfl ?_))
    refine RunA.val (i := 2) rfl (by kernel_rfl) (by kernel_rfl) (Val.add rfl rfl (IntWalk.i64_in _ ⟨by omega, by omega⟩)) rfl rfl rfl (fun _ _ _ h => h) (.cons .here rfl (.cons (.there .here) rfl .nil)) rfl ?_
    refine RunA.one (i := 4) (by kernel_rfl) (by kernel_rfl) ?_
    refine RunI.callX rfl (isCall_value rfl rfl ent_72) rfl rfl rfl (.there .here) (fun w hm => draw_calls l hl _ (by omega) _ (by omega) q b o cap _ _ w (hm.at (.tail _ (.head _))) (hm.at (.tail _ (.tail _ (.head _)))) (ne_of_T hm (.tail _ (.tail _ (.head _))) (.tail _ (.head _)) (by decide)) (hS.ne (by decide) hm (.tail _ (.head _)) hlne) (hS.mono (by decide) hm (by simp))) (fun x46 hx46 => (RunK.toA (.cons .here rfl (.cons (.there .here) rfl .nil)) (.cons .here rfl (.cons .here rfl .nil)) rfl ?_))
    refine RunA.val (i := 5) rfl (by kernel_rfl) (by kernel_rfl) (Val.add rfl rfl (IntWalk.i64_in _ ⟨by omega, by omega⟩)) rfl rfl rfl (fun _ _ _ h => h) (.cons .here rfl (.cons (.there .here) rfl .nil)) rfl ?_
    refine RunA.val (i := 6) rfl (by kernel_rfl) (by kernel_rfl) (Val.pure rfl) rfl rfl rfl (fun _ _ _ h => h) (.cons .here rfl (.cons (.there .here) rfl .nil)) rfl ?_
    refine RunA.toB (by kernel_rfl) ?_
    refine RunB.one (i := 7) (by kernel_rfl) ?_
    refine RunI.val rfl (Val.pure rfl) rfl rfl rfl (RunK.toB ?_)
    refine RunB.done (by kernel_rfl) ?_
    refine RunE.next ?_
    refine RunC.seq ?_
    refine RunC.drawX (X := Nat × Pr) 28 (n0 := [(b5, _), (b41.2, _)]) (fun y q => (8, .pointer (some ⟨y.1, 0, none⟩)) :: q) (fun y => []) (fun y => [(y.1, .cells [.int .i64 y.2.focal.lo, .int .i64 y.2.focal.hi, .int .i64 y.2.base.lo, .int .i64 y.2.base.hi, .int .i64 y.2.tilt, .int .i64 y.2.near, .int .i64 y.2.far, .slice none 0 0].toArray 26 (0, 0)), (b41.1, .cells [.int .i64 ((0 + 1 + 1 + 1 + 1 + 1 + 1 + 1 + 1 + 1 : Nat) : Int)].toArray 3 (0, 0))]) (fun y => []) (fun y => y.2.Ok ∧ InB ((5000 + x43) * (60 + x46)) (powers0 y.2) ∧ y.2.things = [] ∧ y.2.far ≤ 100000 ∧ y.2.tilt ≤ 8) fol_ (.cons .here rfl (.cons (.there .here) rfl .nil)) (Sub.cons (t := 0) rfl (Sub.cons (t := 1) rfl (Sub.cons (t := 4) rfl (Sub.cons (t := 5) rfl (Sub.cons (t := 6) rfl (Sub.cons (t := 7) rfl (Sub.nil _))))))) (.cons .here rfl (.cons (.there .here) rfl .nil)) ?_ ?_
    · refine RunA.val (i := 0) rfl (by kernel_rfl) (by kernel_rfl) (Val.pure rfl) rfl rfl rfl (fun _ _ _ h => h) (.cons .here rfl (.cons (.there .here) rfl .nil)) rfl ?_
      refine RunA.val (i := 1) rfl (by kernel_rfl) (by kernel_rfl) (Val.load_one rfl (.head _) ty_40 rfl) rfl rfl rfl (fun _ _ _ h => h) (.cons .here rfl (.cons (.there .here) rfl .nil)) rfl ?_
      refine RunA.val (i := 4) rfl (by kernel_rfl) (by kernel_rfl) (Val.pure rfl) rfl rfl rfl (fun _ _ _ h => h) (.cons .here rfl (.cons (.there .here) rfl .nil)) rfl ?_
      refine RunA.val (i := 5) rfl (by kernel_rfl) (by kernel_rfl) (Val.load_one rfl (.head _) ty_40 rfl) rfl rfl rfl (fun _ _ _ h => h) (.cons .here rfl (.cons (.there .here) rfl .nil)) rfl ?_
      refine RunA.val (i := 9) rfl (by kernel_rfl) (by kernel_rfl) (Val.pure rfl) rfl rfl rfl (fun _ _ _ h => h) (.cons .here rfl (.cons (.there .here) rfl .nil)) rfl ?_
      refine RunA.val (i := 10) rfl (by kernel_rfl) (by kernel_rfl) (Val.load_one rfl (.head _) ty_40 rfl) rfl rfl rfl (fun _ _ _ h => h) (.cons .here rfl (.cons (.there .here) rfl .nil)) rfl ?_
      refine RunA.val (i := 13) rfl (by kernel_rfl) (by kernel_rfl) (Val.pure rfl) rfl rfl rfl (fun _ _ _ h => h) (.cons .here rfl (.cons (.there .here) rfl .nil)) rfl ?_
      refine RunA.val (i := 14) rfl (by kernel_rfl) (by kernel_rfl) (Val.load_one rfl (.head _) ty_40 rfl) rfl rfl rfl (fun _ _ _ h => h) (.cons .here rfl (.cons (.there .here) rfl .nil)) rfl ?_
      refine RunA.val (i := 18) rfl (by kernel_rfl) (by kernel_rfl) (Val.load_one rfl (.head _) ty_40 rfl) rfl rfl rfl (fun _ _ _ h => h) (.cons .here rfl (.cons (.there .here) rfl .nil)) rfl ?_
      refine RunA.val (i := 20) rfl (by kernel_rfl) (by kernel_rfl) (Val.load_one rfl (.head _) ty_40 rfl) rfl rfl rfl (fun _ _ _ h => h) (.cons .here rfl (.cons (.there .here) rfl .nil)) rfl ?_
      refine RunA.val (i := 23) rfl (by kernel_rfl) (by kernel_rfl) (Val.load_one rfl (.head _) ty_40 rfl) rfl rfl rfl (fun _ _ _ h => h) (.cons .here rfl (.cons (.there .here) rfl .nil)) rfl ?_
      refine RunA.all (rs := [2, 27]) (by kernel_rfl) (by simp) (by kernel_rfl) (fun m hm => ?_)
      simp only [List.mem_cons, List.not_mem_nil, or_false] at hm
      rcases hm with rfl | rfl
      · refine RunI.callX rfl (isCall_value rfl rfl ent_72) rfl rfl rfl (.there .here) (fun w hm => draw_calls l hl _ (by omega) _ (by omega) q b o cap _ _ w (hm.at (.tail _ (.head _))) (hm.at (.tail _ (.tail _ (.head _)))) (ne_of_T hm (.tail _ (.tail _ (.head _))) (.tail _ (.head _)) (by decide)) (hS.ne (by decide) hm (.tail _ (.head _)) hlne) (hS.mono (by decide) hm (by simp))) (fun x50 hx50 => (RunK.toA (.cons .here rfl (.cons (.there .here) rfl .nil)) (.cons .here rfl (.cons .here rfl .nil)) rfl ?_))
        refine RunA.val (i := 3) rfl (by kernel_rfl) (by kernel_rfl) (Val.sub' rfl rfl (IntWalk.i64_in _ ⟨by omega, by omega⟩)) rfl rfl rfl (fun _ _ _ h => h) (.cons .here rfl (.cons (.there .here) rfl .nil)) rfl ?_
        refine RunA.all (rs := [6, 27]) (by kernel_rfl) (by simp) (by kernel_rfl) (fun m hm => ?_)
        simp only [List.mem_cons, List.not_mem_nil, or_false] at hm
        rcases hm with rfl | rfl
        · refine RunI.callX rfl (isCall_value rfl rfl ent_72) rfl rfl rfl (.there .here) (fun w hm => draw_calls l hl _ (by omega) _ (by omega) q b o cap _ _ w (hm.at (.tail _ (.head _))) (hm.at (.tail _ (.tail _ (.head _)))) (ne_of_T hm (.tail _ (.tail _ (.head _))) (.tail _ (.head _)) (by decide)) (hS.ne (by decide) hm (.tail _ (.head _)) hlne) (hS.mono (by decide) hm (by simp))) (fun x54 hx54 => (RunK.toA (.cons .here rfl (.cons (.there .here) rfl .nil)) (.cons .here rfl (.cons .here rfl .nil)) rfl ?_))
          refine RunA.val (i := 7) rfl (by kernel_rfl) (by kernel_rfl) (Val.add rfl rfl (IntWalk.i64_in _ ⟨by omega, by omega⟩)) rfl rfl rfl (fun _ _ _ h => h) (.cons .here rfl (.cons (.there .here) rfl .nil)) rfl ?_
          refine RunA.all (rs := [8, 27]) (by kernel_rfl) (by simp) (by kernel_rfl) (fun m hm => ?_)
          simp only [List.mem_cons, List.not_mem_nil, or_false] at hm
          rcases hm with rfl | rfl
          · refine RunI.callP rfl (isCall_func rfl ent_28) rfl rfl rfl (fun w hm => lspan_calls _ _ w) (RunK.toA (.cons .here rfl (.cons (.there .here) rfl .nil)) (.cons .here rfl (.cons .here rfl .nil)) rfl ?_)
            refine RunA.all (rs := [11, 27]) (by kernel_rfl) (by simp) (by kernel_rfl) (fun m hm => ?_)
            simp only [List.mem_cons, List.not_mem_nil, or_false] at hm
            rcases hm with rfl | rfl
            · refine RunI.callX rfl (isCall_value rfl rfl ent_72) rfl rfl rfl (.there .here) (fun w hm => draw_calls l hl _ (by omega) _ (by omega) q b o cap _ _ w (hm.at (.tail _ (.head _))) (hm.at (.tail _ (.tail _ (.head _)))) (ne_of_T hm (.tail _ (.tail _ (.head _))) (.tail _ (.head _)) (by decide)) (hS.ne (by decide) hm (.tail _ (.head _)) hlne) (hS.mono (by decide) hm (by simp))) (fun x59 hx59 => (RunK.toA (.cons .here rfl (.cons (.there .here) rfl .nil)) (.cons .here rfl (.cons .here rfl .nil)) rfl ?_))
              refine RunA.val (i := 12) rfl (by kernel_rfl) (by kernel_rfl) (Val.sub' rfl rfl (IntWalk.i64_in _ ⟨by omega, by omega⟩)) rfl rfl rfl (fun _ _ _ h => h) (.cons .here rfl (.cons (.there .here) rfl .nil)) rfl ?_
              refine RunA.all (rs := [15, 27]) (by kernel_rfl) (by simp) (by kernel_rfl) (fun m hm => ?_)
              simp only [List.mem_cons, List.not_mem_nil, or_false] at hm
              rcases hm with rfl | rfl
              · refine RunI.callX rfl (isCall_value rfl rfl ent_72) rfl rfl rfl (.there .here) (fun w hm => draw_calls l hl _ (by omega) _ (by omega) q b o cap _ _ w (hm.at (.tail _ (.head _))) (hm.at (.tail _ (.tail _ (.head _)))) (ne_of_T hm (.tail _ (.tail _ (.head _))) (.tail _ (.head _)) (by decide)) (hS.ne (by decide) hm (.tail _ (.head _)) hlne) (hS.mono (by decide) hm (by simp))) (fun x63 hx63 => (RunK.toA (.cons .here rfl (.cons (.there .here) rfl .nil)) (.cons .here rfl (.cons .here rfl .nil)) rfl ?_))
                refine RunA.val (i := 16) rfl (by kernel_rfl) (by kernel_rfl) (Val.add rfl rfl (IntWalk.i64_in _ ⟨by omega, by omega⟩)) rfl rfl rfl (fun _ _ _ h => h) (.cons .here rfl (.cons (.there .here) rfl .nil)) rfl ?_
                refine RunA.all (rs := [17, 27]) (by kernel_rfl) (by simp) (by kernel_rfl) (fun m hm => ?_)
                simp only [List.mem_cons, List.not_mem_nil, or_false] at hm
                rcases hm with rfl | rfl
                · refine RunI.callP rfl (isCall_func rfl ent_28) rfl rfl rfl (fun w hm => lspan_calls _ _ w) (RunK.toA (.cons .here rfl (.cons (.there .here) rfl .nil)) (.cons .here rfl (.cons .here rfl .nil)) rfl ?_)
                  refine RunA.all (rs := [19, 27]) (by kernel_rfl) (by simp) (by kernel_rfl) (fun m hm => ?_)
                  simp only [List.mem_cons, List.not_mem_nil, or_false] at hm
                  rcases hm with rfl | rfl
                  · refine RunI.callX rfl (isCall_value rfl rfl ent_72) rfl rfl rfl (.there .here) (fun w hm => draw_calls l hl _ (by omega) _ (by omega) q b o cap _ _ w (hm.at (.tail _ (.head _))) (hm.at (.tail _ (.tail _ (.head _)))) (ne_of_T hm (.tail _ (.tail _ (.head _))) (.tail _ (.head _)) (by decide)) (hS.ne (by decide) hm (.tail _ (.head _)) hlne) (hS.mono (by decide) hm (by simp))) (fun x67 hx67 => (RunK.toA (.cons .here rfl (.cons (.there .here) rfl .nil)) (.cons .here rfl (.cons .here rfl .nil)) rfl ?_))
                    refine RunA.all (rs := [21, 27]) (by kernel_rfl) (by simp) (by kernel_rfl) (fun m hm => ?_)
                    simp only [List.mem_cons, List.not_mem_nil, or_false] at hm
                    rcases hm with rfl | rfl
                    · refine RunI.callX rfl (isCall_value rfl rfl ent_72) rfl rfl rfl (.there .here) (fun w hm => draw_calls l hl _ (by omega) _ (by omega) q b o cap _ _ w (hm.at (.tail _ (.head _))) (hm.at (.tail _ (.tail _ (.head _)))) (ne_of_T hm (.tail _ (.tail _ (.head _))) (.tail _ (.head _)) (by decide)) (hS.ne (by decide) hm (.tail _ (.head _)) hlne) (hS.mono (by decide) hm (by simp))) (fun x69 hx69 => (RunK.toA (.cons .here rfl (.cons (.there .here) rfl .nil)) (.cons .here rfl (.cons .here rfl .nil)) rfl ?_))
                      refine RunA.val (i := 22) rfl (by kernel_rfl) (by kernel_rfl) (Val.add rfl rfl (IntWalk.i64_in _ ⟨by omega, by omega⟩)) rfl rfl rfl (fun _ _ _ h => h) (.cons .here rfl (.cons (.there .here) rfl .nil)) rfl ?_
                      refine RunA.all (rs := [24, 27]) (by kernel_rfl) (by simp) (by kernel_rfl) (fun m hm => ?_)
                      simp only [List.mem_cons, List.not_mem_nil, or_false] at hm
                      rcases hm with rfl | rfl
                      · refine RunI.callX rfl (isCall_value rfl rfl ent_72) rfl rfl rfl (.there .here) (fun w hm => draw_calls l hl _ (by omega) _ (by omega) q b o cap _ _ w (hm.at (.tail _ (.head _))) (hm.at (.tail _ (.tail _ (.head _)))) (ne_of_T hm (.tail _ (.tail _ (.head _))) (.tail _ (.head _)) (by decide)) (hS.ne (by decide) hm (.tail _ (.head _)) hlne) (hS.mono (by decide) hm (by simp))) (fun x72 hx72 => (RunK.toA (.cons .here rfl (.cons (.there .here) rfl .nil)) (.cons .here rfl (.cons .here rfl .nil)) rfl ?_))
                        refine RunA.val (i := 25) rfl (by kernel_rfl) (by kernel_rfl) (Val.add rfl rfl (IntWalk.i64_in _ ⟨by omega, by omega⟩)) rfl rfl rfl (fun _ _ _ h => h) (.cons .here rfl (.cons (.there .here) rfl .nil)) rfl ?_
                        refine RunA.val (i := 26) rfl (by kernel_rfl) (by kernel_rfl) (Val.build (parts := [(0, .tmp 56), (1, .tmp 65), (2, .tmp 67), (3, .tmp 70), (4, .tmp 73)]) rfl zero_26 places_26 rfl) rfl rfl rfl (fun _ _ _ h => h) (.cons .here rfl (.cons (.there .here) rfl .nil)) rfl ?_
                        refine RunA.one (i := 27) (by kernel_rfl) (by kernel_rfl) ?_
                        refine RunI.new rfl (New.alloc zero_26) rfl rfl rfl (fun b8 => (RunK.toA (.cons .here rfl (.cons .here rfl (.cons (.there .here) rfl .nil))) (.cons (.there .here) rfl (.cons (.there .here) rfl .nil)) rfl ?_))
                        refine RunA.toB (by kernel_rfl) ?_
                        refine RunB.one (i := 28) (by kernel_rfl) ?_
                        refine RunI.sto rfl (Sto.store rfl rfl .here ty_26 rfl rfl) rfl rfl (RunK.toB ?_)
                        refine RunB.done (by kernel_rfl) ?_
                        obtain ⟨hpO, hpP, _, _⟩ := trueP_ok (f := 5000 + x43) (b := 60 + x46) (d1 := x50) (d2 := x54) (d3 := x59) (d4 := x63) (tl := x67) (n := x69) (r := x72) (by omega) (by omega) hx50 hx54 hx59 hx63 hx67 hx69 hx72
                        exact RunE.joinX (b8, trueP (5000 + x43) (60 + x46) x50 x54 x59 x63 x67 x69 x72) ⟨hpO, hpP, rfl, by simp only [trueP]; omega, by simp only [trueP]; omega⟩ rfl (Sub.consE (t := 8) rfl rfl (Sub.cons (t := 0) rfl (Sub.cons (t := 1) rfl (Sub.cons (t := 4) rfl (Sub.cons (t := 5) rfl (Sub.cons (t := 6) rfl (Sub.cons (t := 7) rfl (Sub.nil _)))))))) (.cons .here rfl (.cons (.there .here) rfl (.cons .here rfl (.cons .here rfl .nil))))
                      · refine RunI.new rfl (New.alloc zero_26) rfl rfl rfl (fun b8 => (RunK.toA (.cons .here rfl (.cons .here rfl (.cons (.there .here) rfl .nil))) (.cons (.there .here) rfl (.cons (.there .here) rfl .nil)) rfl ?_))
                        refine RunA.one (i := 24) (by kernel_rfl) (by kernel_rfl) ?_
                        refine RunI.callX rfl (isCall_value rfl rfl ent_72) rfl rfl rfl (.there (.there .here)) (fun w hm => draw_calls l hl _ (by omega) _ (by omega) q b o cap _ _ w (hm.at (.tail _ (.tail _ (.head _)))) (hm.at (.tail _ (.tail _ (.tail _ (.head _))))) (ne_of_T hm (.tail _ (.tail _ (.tail _ (.head _)))) (.tail _ (.tail _ (.head _))) (by decide)) (hS.ne (by decide) hm (.tail _ (.tail _ (.head _))) hlne) (hS.mono (by decide) hm (by simp))) (fun x72 hx72 => (RunK.toA (.cons .here rfl (.cons .here rfl (.cons (.there .here) rfl .nil))) (.cons .here rfl (.cons .here rfl (.cons .here rfl .nil))) rfl ?_))
                        refine RunA.val (i := 25) rfl (by kernel_rfl) (by kernel_rfl) (Val.add rfl rfl (IntWalk.i64_in _ ⟨by omega, by omega⟩)) rfl rfl rfl (fun _ _ _ h => h) (.cons .here rfl (.cons .here rfl (.cons (.there .here) rfl .nil))) rfl ?_
                        refine RunA.val (i := 26) rfl (by kernel_rfl) (by kernel_rfl) (Val.build (parts := [(0, .tmp 56), (1, .tmp 65), (2, .tmp 67), (3, .tmp 70), (4, .tmp 73)]) rfl zero_26 places_26 rfl) rfl rfl rfl (fun _ _ _ h => h) (.cons .here rfl (.cons .here rfl (.cons (.there .here) rfl .nil))) rfl ?_
                        refine RunA.toB (by kernel_rfl) ?_
                        refine RunB.one (i := 28) (by kernel_rfl) ?_
                        refine RunI.sto rfl (Sto.store rfl rfl .here ty_26 rfl rfl) rfl rfl (RunK.toB ?_)
                        refine RunB.done (by kernel_rfl) ?_
                        obtain ⟨hpO, hpP, _, _⟩ := trueP_ok (f := 5000 + x43) (b := 60 + x46) (d1 := x50) (d2 := x54) (d3 := x59) (d4 := x63) (tl := x67) (n := x69) (r := x72) (by omega) (by omega) hx50 hx54 hx59 hx63 hx67 hx69 hx72
                        exact RunE.joinX (b8, trueP (5000 + x43) (60 + x46) x50 x54 x59 x63 x67 x69 x72) ⟨hpO, hpP, rfl, by simp only [trueP]; omega, by simp only [trueP]; omega⟩ rfl (Sub.consE (t := 8) rfl rfl (Sub.cons (t := 0) rfl (Sub.cons (t := 1) rfl (Sub.cons (t := 4) rfl (Sub.cons (t := 5) rfl (Sub.cons (t := 6) rfl (Sub.cons (t := 7) rfl (Sub.nil _)))))))) (.cons .here rfl (.cons (.there .here) rfl (.cons .here rfl (.cons .here rfl .nil))))
                    · refine RunI.new rfl (New.alloc zero_26) rfl rfl rfl (fun b8 => (RunK.toA (.cons .here rfl (.cons .here rfl (.cons (.there .here) rfl .nil))) (.cons (.there .here) rfl (.cons (.there .here) rfl .nil)) rfl ?_))
                      refine RunA.one (i := 21) (by kernel_rfl) (by kernel_rfl) ?_
                      refine RunI.callX rfl (isCall_value rfl rfl ent_72) rfl rfl rfl (.there (.there .here)) (fun w hm => draw_calls l hl _ (by omega) _ (by omega) q b o cap _ _ w (hm.at (.tail _ (.tail _ (.head _)))) (hm.at (.tail _ (.tail _ (.tail _ (.head _))))) (ne_of_T hm (.tail _ (.tail _ (.tail _ (.head _)))) (.tail _ (.tail _ (.head _))) (by decide)) (hS.ne (by decide) hm (.tail _ (.tail _ (.head _))) hlne) (hS.mono (by decide) hm (by simp))) (fun x69 hx69 => (RunK.toA (.cons .here rfl (.cons .here rfl (.cons (.there .here) rfl .nil))) (.cons .here rfl (.cons .here rfl (.cons .here rfl .nil))) rfl ?_))
                      refine RunA.val (i := 22) rfl (by kernel_rfl) (by kernel_rfl) (Val.add rfl rfl (IntWalk.i64_in _ ⟨by omega, by omega⟩)) rfl rfl rfl (fun _ _ _ h => h) (.cons .here rfl (.cons .here rfl (.cons (.there .here) rfl .nil))) rfl ?_
                      refine RunA.one (i := 24) (by kernel_rfl) (by kernel_rfl) ?_
                      refine RunI.callX rfl (isCall_value rfl rfl ent_72) rfl rfl rfl (.there (.there .here)) (fun w hm => draw_calls l hl _ (by omega) _ (by omega) q b o cap _ _ w (hm.at (.tail _ (.tail _ (.head _)))) (hm.at (.tail _ (.tail _ (.tail _ (.head _))))) (ne_of_T hm (.tail _ (.tail _ (.tail _ (.head _)))) (.tail _ (.tail _ (.head _))) (by decide)) (hS.ne (by decide) hm (.tail _ (.tail _ (.head _))) hlne) (hS.mono (by decide) hm (by simp))) (fun x72 hx72 => (RunK.toA (.cons .here rfl (.cons .here rfl (.cons (.there .here) rfl .nil))) (.cons .here rfl (.cons .here rfl (.cons .here rfl .nil))) rfl ?_))
                      refine RunA.val (i := 25) rfl (by kernel_rfl) (by kernel_rfl) (Val.add rfl rfl (IntWalk.i64_in _ ⟨by omega, by omega⟩)) rfl rfl rfl (fun _ _ _ h => h) (.cons .here rfl (.cons .here rfl (.cons (.there .here) rfl .nil))) rfl ?_
                      refine RunA.val (i := 26) rfl (by kernel_rfl) (by kernel_rfl) (Val.build (parts := [(0, .tmp 56), (1, .tmp 65), (2, .tmp 67), (3, .tmp 70), (4, .tmp 73)]) rfl zero_26 places_26 rfl) rfl rfl rfl (fun _ _ _ h => h) (.cons .here rfl (.cons .here rfl (.cons (.there .here) rfl .nil))) rfl ?_
                      refine RunA.toB (by kernel_rfl) ?_
                      refine RunB.one (i := 28) (by kernel_rfl) ?_
                      refine RunI.sto rfl (Sto.store rfl rfl .here ty_26 rfl rfl) rfl rfl (RunK.toB ?_)
                      refine RunB.done (by kernel_rfl) ?_
                      obtain ⟨hpO, hpP, _, _⟩ := trueP_ok (f := 5000 + x43) (b := 60 + x46) (d1 := x50) (d2 := x54) (d3 := x59) (d4 := x63) (tl := x67) (n := x69) (r := x72) (by omega) (by omega) hx50 hx54 hx59 hx63 hx67 hx69 hx72
                      exact RunE.joinX (b8, trueP (5000 + x43) (60 + x46) x50 x54 x59 x63 x67 x69 x72) ⟨hpO, hpP, rfl, by simp only [trueP]; omega, by simp only [trueP]; omega⟩ rfl (Sub.consE (t := 8) rfl rfl (Sub.cons (t := 0) rfl (Sub.cons (t := 1) rfl (Sub.cons (t := 4) rfl (Sub.cons (t := 5) rfl (Sub.cons (t := 6) rfl (Sub.cons (t := 7) rfl (Sub.nil _)))))))) (.cons .here rfl (.cons (.there .here) rfl (.cons .here rfl (.cons .here rfl .nil))))
                  · refine RunI.new rfl (New.alloc zero_26) rfl rfl rfl (fun b8 => (RunK.toA (.cons .here rfl (.cons .here rfl (.cons (.there .here) rfl .nil))) (.cons (.there .here) rfl (.cons (.there .here) rfl .nil)) rfl ?_))
                    refine RunA.one (i := 19) (by kernel_rfl) (by kernel_rfl) ?_
                    refine RunI.callX rfl (isCall_value rfl rfl ent_72) rfl rfl rfl (.there (.there .here)) (fun w hm => draw_calls l hl _ (by omega) _ (by omega) q b o cap _ _ w (hm.at (.tail _ (.tail _ (.head _)))) (hm.at (.tail _ (.tail _ (.tail _ (.head _))))) (ne_of_T hm (.tail _ (.tail _ (.tail _ (.head _)))) (.tail _ (.tail _ (.head _))) (by decide)) (hS.ne (by decide) hm (.tail _ (.tail _ (.head _))) hlne) (hS.mono (by decide) hm (by simp))) (fun x67 hx67 => (RunK.toA (.cons .here rfl (.cons .here rfl (.cons (.there .here) rfl .nil))) (.cons .here rfl (.cons .here rfl (.cons .here rfl .nil))) rfl ?_))
                    refine RunA.one (i := 21) (by kernel_rfl) (by kernel_rfl) ?_
                    refine RunI.callX rfl (isCall_value rfl rfl ent_72) rfl rfl rfl (.there (.there .here)) (fun w hm => draw_calls l hl _ (by omega) _ (by omega) q b o cap _ _ w (hm.at (.tail _ (.tail _ (.head _)))) (hm.at (.tail _ (.tail _ (.tail _ (.head _))))) (ne_of_T hm (.tail _ (.tail _ (.tail _ (.head _)))) (.tail _ (.tail _ (.head _))) (by decide)) (hS.ne (by decide) hm (.tail _ (.tail _ (.head _))) hlne) (hS.mono (by decide) hm (by simp))) (fun x69 hx69 => (RunK.toA (.cons .here rfl (.cons .here rfl (.cons (.there .here) rfl .nil))) (.cons .here rfl (.cons .here rfl (.cons .here rfl .nil))) rfl ?_))
                    refine RunA.val (i := 22) rfl (by kernel_rfl) (by kernel_rfl) (Val.add rfl rfl (IntWalk.i64_in _ ⟨by omega, by omega⟩)) rfl rfl rfl (fun _ _ _ h => h) (.cons .here rfl (.cons .here rfl (.cons (.there .here) rfl .nil))) rfl ?_
                    refine RunA.one (i := 24) (by kernel_rfl) (by kernel_rfl) ?_
                    refine RunI.callX rfl (isCall_value rfl rfl ent_72) rfl rfl rfl (.there (.there .here)) (fun w hm => draw_calls l hl _ (by omega) _ (by omega) q b o cap _ _ w (hm.at (.tail _ (.tail _ (.head _)))) (hm.at (.tail _ (.tail _ (.tail _ (.head _))))) (ne_of_T hm (.tail _ (.tail _ (.tail _ (.head _)))) (.tail _ (.tail _ (.head _))) (by decide)) (hS.ne (by decide) hm (.tail _ (.tail _ (.head _))) hlne) (hS.mono (by decide) hm (by simp))) (fun x72 hx72 => (RunK.toA (.cons .here rfl (.cons .here rfl (.cons (.there .here) rfl .nil))) (.cons .here rfl (.cons .here rfl (.cons .here rfl .nil))) rfl ?_))
                    refine RunA.val (i := 25) rfl (by kernel_rfl) (by kernel_rfl) (Val.add rfl rfl (IntWalk.i64_in _ ⟨by omega, by omega⟩)) rfl rfl rfl (fun _ _ _ h => h) (.cons .here rfl (.cons .here rfl (.cons (.there .here) rfl .nil))) rfl ?_
                    refine RunA.val (i := 26) rfl (by kernel_rfl) (by kernel_rfl) (Val.build (parts := [(0, .tmp 56), (1, .tmp 65), (2, .tmp 67), (3, .tmp 70), (4, .tmp 73)]) rfl zero_26 places_26 rfl) rfl rfl rfl (fun _ _ _ h => h) (.cons .here rfl (.cons .here rfl (.cons (.there .here) rfl .nil))) rfl ?_
                    refine RunA.toB (by kernel_rfl) ?_
                    refine RunB.one (i := 28) (by kernel_rfl) ?_
                    refine RunI.sto rfl (Sto.store rfl rfl .here ty_26 rfl rfl) rfl rfl (RunK.toB ?_)
                    refine RunB.done (by kernel_rfl) ?_
                    obtain ⟨hpO, hpP, _, _⟩ := trueP_ok (f := 5000 + x43) (b := 60 + x46) (d1 := x50) (d2 := x54) (d3 := x59) (d4 := x63) (tl := x67) (n := x69) (r := x72) (by omega) (by omega) hx50 hx54 hx59 hx63 hx67 hx69 hx72
                    exact RunE.joinX (b8, trueP (5000 + x43) (60 + x46) x50 x54 x59 x63 x67 x69 x72) ⟨hpO, hpP, rfl, by simp only [trueP]; omega, by simp only [trueP]; omega⟩ rfl (Sub.consE (t := 8) rfl rfl (Sub.cons (t := 0) rfl (Sub.cons (t := 1) rfl (Sub.cons (t := 4) rfl (Sub.cons (t := 5) rfl (Sub.cons (t := 6) rfl (Sub.cons (t := 7) rfl (Sub.nil _)))))))) (.cons .here rfl (.cons (.there .here) rfl (.cons .here rfl (.cons .here rfl .nil))))
                · refine RunI.new rfl (New.alloc zero_26) rfl rfl rfl (fun b8 => (RunK.toA (.cons .here rfl (.cons .here rfl (.cons (.there .here) rfl .nil))) (.cons (.there .here) rfl (.cons (.there .here) rfl .nil)) rfl ?_))
                  refine RunA.one (i := 17) (by kernel_rfl) (by kernel_rfl) ?_
                  refine RunI.callP rfl (isCall_func rfl ent_28) rfl rfl rfl (fun w hm => lspan_calls _ _ w) (RunK.toA (.cons .here rfl (.cons .here rfl (.cons (.there .here) rfl .nil))) (.cons .here rfl (.cons .here rfl (.cons .here rfl .nil))) rfl ?_)
                  refine RunA.one (i := 19) (by kernel_rfl) (by kernel_rfl) ?_
                  refine RunI.callX rfl (isCall_value rfl rfl ent_72) rfl rfl rfl (.there (.there .here)) (fun w hm => draw_calls l hl _ (by omega) _ (by omega) q b o cap _ _ w (hm.at (.tail _ (.tail _ (.head _)))) (hm.at (.tail _ (.tail _ (.tail _ (.head _))))) (ne_of_T hm (.tail _ (.tail _ (.tail _ (.head _)))) (.tail _ (.tail _ (.head _))) (by decide)) (hS.ne (by decide) hm (.tail _ (.tail _ (.head _))) hlne) (hS.mono (by decide) hm (by simp))) (fun x67 hx67 => (RunK.toA (.cons .here rfl (.cons .here rfl (.cons (.there .here) rfl .nil))) (.cons .here rfl (.cons .here rfl (.cons .here rfl .nil))) rfl ?_))
                  refine RunA.one (i := 21) (by kernel_rfl) (by kernel_rfl) ?_
                  refine RunI.callX rfl (isCall_value rfl rfl ent_72) rfl rfl rfl (.there (.there .here)) (fun w hm => draw_calls l hl _ (by omega) _ (by omega) q b o cap _ _ w (hm.at (.tail _ (.tail _ (.head _)))) (hm.at (.tail _ (.tail _ (.tail _ (.head _))))) (ne_of_T hm (.tail _ (.tail _ (.tail _ (.head _)))) (.tail _ (.tail _ (.head _))) (by decide)) (hS.ne (by decide) hm (.tail _ (.tail _ (.head _))) hlne) (hS.mono (by decide) hm (by simp))) (fun x69 hx69 => (RunK.toA (.cons .here rfl (.cons .here rfl (.cons (.there .here) rfl .nil))) (.cons .here rfl (.cons .here rfl (.cons .here rfl .nil))) rfl ?_))
                  refine RunA.val (i := 22) rfl (by kernel_rfl) (by kernel_rfl) (Val.add rfl rfl (IntWalk.i64_in _ ⟨by omega, by omega⟩)) rfl rfl rfl (fun _ _ _ h => h) (.cons .here rfl (.cons .here rfl (.cons (.there .here) rfl .nil))) rfl ?_
                  refine RunA.one (i := 24) (by kernel_rfl) (by kernel_rfl) ?_
                  refine RunI.callX rfl (isCall_value rfl rfl ent_72) rfl rfl rfl (.there (.there .here)) (fun w hm => draw_calls l hl _ (by omega) _ (by omega) q b o cap _ _ w (hm.at (.tail _ (.tail _ (.head _)))) (hm.at (.tail _ (.tail _ (.tail _ (.head _))))) (ne_of_T hm (.tail _ (.tail _ (.tail _ (.head _)))) (.tail _ (.tail _ (.head _))) (by decide)) (hS.ne (by decide) hm (.tail _ (.tail _ (.head _))) hlne) (hS.mono (by decide) hm (by simp))) (fun x72 hx72 => (RunK.toA (.cons .here rfl (.cons .here rfl (.cons (.there .here) rfl .nil))) (.cons .here rfl (.cons .here rfl (.cons .here rfl .nil))) rfl ?_))
                  refine RunA.val (i := 25) rfl (by kernel_rfl) (by kernel_rfl) (Val.add rfl rfl (IntWalk.i64_in _ ⟨by omega, by omega⟩)) rfl rfl rfl (fun _ _ _ h => h) (.cons .here rfl (.cons .here rfl (.cons (.there .here) rfl .nil))) rfl ?_
                  refine RunA.val (i := 26) rfl (by kernel_rfl) (by kernel_rfl) (Val.build (parts := [(0, .tmp 56), (1, .tmp 65), (2, .tmp 67), (3, .tmp 70), (4, .tmp 73)]) rfl zero_26 places_26 rfl) rfl rfl rfl (fun _ _ _ h => h) (.cons .here rfl (.cons .here rfl (.cons (.there .here) rfl .nil))) rfl ?_
                  refine RunA.toB (by kernel_rfl) ?_
                  refine RunB.one (i := 28) (by kernel_rfl) ?_
                  refine RunI.sto rfl (Sto.store rfl rfl .here ty_26 rfl rfl) rfl rfl (RunK.toB ?_)
                  refine RunB.done (by kernel_rfl) ?_
                  obtain ⟨hpO, hpP, _, _⟩ := trueP_ok (f := 5000 + x43) (b := 60 + x46) (d1 := x50) (d2 := x54) (d3 := x59) (d4 := x63) (tl := x67) (n := x69) (r := x72) (by omega) (by omega) hx50 hx54 hx59 hx63 hx67 hx69 hx72
                  exact RunE.joinX (b8, trueP (5000 + x43) (60 + x46) x50 x54 x59 x63 x67 x69 x72) ⟨hpO, hpP, rfl, by simp only [trueP]; omega, by simp only [trueP]; omega⟩ rfl (Sub.consE (t := 8) rfl rfl (Sub.cons (t := 0) rfl (Sub.cons (t := 1) rfl (Sub.cons (t := 4) rfl (Sub.cons (t := 5) rfl (Sub.cons (t := 6) rfl (Sub.cons (t := 7) rfl (Sub.nil _)))))))) (.cons .here rfl (.cons (.there .here) rfl (.cons .here rfl (.cons .here rfl .nil))))
              · refine RunI.new rfl (New.alloc zero_26) rfl rfl rfl (fun b8 => (RunK.toA (.cons .here rfl (.cons .here rfl (.cons (.there .here) rfl .nil))) (.cons (.there .here) rfl (.cons (.there .here) rfl .nil)) rfl ?_))
                refine RunA.one (i := 15) (by kernel_rfl) (by kernel_rfl) ?_
                refine RunI.callX rfl (isCall_value rfl rfl ent_72) rfl rfl rfl (.there (.there .here)) (fun w hm => draw_calls l hl _ (by omega) _ (by omega) q b o cap _ _ w (hm.at (.tail _ (.tail _ (.head _)))) (hm.at (.tail _ (.tail _ (.tail _ (.head _))))) (ne_of_T hm (.tail _ (.tail _ (.tail _ (.head _)))) (.tail _ (.tail _ (.head _))) (by decide)) (hS.ne (by decide) hm (.tail _ (.tail _ (.head _))) hlne) (hS.mono (by decide) hm (by simp))) (fun x63 hx63 => (RunK.toA (.cons .here rfl (.cons .here rfl (.cons (.there .here) rfl .nil))) (.cons .here rfl (.cons .here rfl (.cons .here rfl .nil))) rfl ?_))
                refine RunA.val (i := 16) rfl (by kernel_rfl) (by kernel_rfl) (Val.add rfl rfl (IntWalk.i64_in _ ⟨by omega, by omega⟩)) rfl rfl rfl (fun _ _ _ h => h) (.cons .here rfl (.cons .here rfl (.cons (.there .here) rfl .nil))) rfl ?_
                refine RunA.one (i := 17) (by kernel_rfl) (by kernel_rfl) ?_
                refine RunI.callP rfl (isCall_func rfl ent_28) rfl rfl rfl (fun w hm => lspan_calls _ _ w) (RunK.toA (.cons .here rfl (.cons .here rfl (.cons (.there .here) rfl .nil))) (.cons .here rfl (.cons .here rfl (.cons .here rfl .nil))) rfl ?_)
                refine RunA.one (i := 19) (by kernel_rfl) (by kernel_rfl) ?_
                refine RunI.callX rfl (isCall_value rfl rfl ent_72) rfl rfl rfl (.there (.there .here)) (fun w hm => draw_calls l hl _ (by omega) _ (by omega) q b o cap _ _ w (hm.at (.tail _ (.tail _ (.head _)))) (hm.at (.tail _ (.tail _ (.tail _ (.head _))))) (ne_of_T hm (.tail _ (.tail _ (.tail _ (.head _)))) (.tail _ (.tail _ (.head _))) (by decide)) (hS.ne (by decide) hm (.tail _ (.tail _ (.head _))) hlne) (hS.mono (by decide) hm (by simp))) (fun x67 hx67 => (RunK.toA (.cons .here rfl (.cons .here rfl (.cons (.there .here) rfl .nil))) (.cons .here rfl (.cons .here rfl (.cons .here rfl .nil))) rfl ?_))
                refine RunA.one (i := 21) (by kernel_rfl) (by kernel_rfl) ?_
                refine RunI.callX rfl (isCall_value rfl rfl ent_72) rfl rfl rfl (.there (.there .here)) (fun w hm => draw_calls l hl _ (by omega) _ (by omega) q b o cap _ _ w (hm.at (.tail _ (.tail _ (.head _)))) (hm.at (.tail _ (.tail _ (.tail _ (.head _))))) (ne_of_T hm (.tail _ (.tail _ (.tail _ (.head _)))) (.tail _ (.tail _ (.head _))) (by decide)) (hS.ne (by decide) hm (.tail _ (.tail _ (.head _))) hlne) (hS.mono (by decide) hm (by simp))) (fun x69 hx69 => (RunK.toA (.cons .here rfl (.cons .here rfl (.cons (.there .here) rfl .nil))) (.cons .here rfl (.cons .here rfl (.cons .here rfl .nil))) rfl ?_))
                refine RunA.val (i := 22) rfl (by kernel_rfl) (by kernel_rfl) (Val.add rfl rfl (IntWalk.i64_in _ ⟨by omega, by omega⟩)) rfl rfl rfl (fun _ _ _ h => h) (.cons .here rfl (.cons .here rfl (.cons (.there .here) rfl .nil))) rfl ?_
                refine RunA.one (i := 24) (by kernel_rfl) (by kernel_rfl) ?_
                refine RunI.callX rfl (isCall_value rfl rfl ent_72) rfl rfl rfl (.there (.there .here)) (fun w hm => draw_calls l hl _ (by omega) _ (by omega) q b o cap _ _ w (hm.at (.tail _ (.tail _ (.head _)))) (hm.at (.tail _ (.tail _ (.tail _ (.head _))))) (ne_of_T hm (.tail _ (.tail _ (.tail _ (.head _)))) (.tail _ (.tail _ (.head _))) (by decide)) (hS.ne (by decide) hm (.tail _ (.tail _ (.head _))) hlne) (hS.mono (by decide) hm (by simp))) (fun x72 hx72 => (RunK.toA (.cons .here rfl (.cons .here rfl (.cons (.there .here) rfl .nil))) (.cons .here rfl (.cons .here rfl (.cons .here rfl .nil))) rfl ?_))
                refine RunA.val (i := 25) rfl (by kernel_rfl) (by kernel_rfl) (Val.add rfl rfl (IntWalk.i64_in _ ⟨by omega, by omega⟩)) rfl rfl rfl (fun _ _ _ h => h) (.cons .here rfl (.cons .here rfl (.cons (.there .here) rfl .nil))) rfl ?_
                refine RunA.val (i := 26) rfl (by kernel_rfl) (by kernel_rfl) (Val.build (parts := [(0, .tmp 56), (1, .tmp 65), (2, .tmp 67), (3, .tmp 70), (4, .tmp 73)]) rfl zero_26 places_26 rfl) rfl rfl rfl (fun _ _ _ h => h) (.cons .here rfl (.cons .here rfl (.cons (.there .here) rfl .nil))) rfl ?_
                refine RunA.toB (by kernel_rfl) ?_
                refine RunB.one (i := 28) (by kernel_rfl) ?_
                refine RunI.sto rfl (Sto.store rfl rfl .here ty_26 rfl rfl) rfl rfl (RunK.toB ?_)
                refine RunB.done (by kernel_rfl) ?_
                obtain ⟨hpO, hpP, _, _⟩ := trueP_ok (f := 5000 + x43) (b := 60 + x46) (d1 := x50) (d2 := x54) (d3 := x59) (d4 := x63) (tl := x67) (n := x69) (r := x72) (by omega) (by omega) hx50 hx54 hx59 hx63 hx67 hx69 hx72
                exact RunE.joinX (b8, trueP (5000 + x43) (60 + x46) x50 x54 x59 x63 x67 x69 x72) ⟨hpO, hpP, rfl, by simp only [trueP]; omega, by simp only [trueP]; omega⟩ rfl (Sub.consE (t := 8) rfl rfl (Sub.cons (t := 0) rfl (Sub.cons (t := 1) rfl (Sub.cons (t := 4) rfl (Sub.cons (t := 5) rfl (Sub.cons (t := 6) rfl (Sub.cons (t := 7) rfl (Sub.nil _)))))))) (.cons .here rfl (.cons (.there .here) rfl (.cons .here rfl (.cons .here rfl .nil))))
            · refine RunI.new rfl (New.alloc zero_26) rfl rfl rfl (fun b8 => (RunK.toA (.cons .here rfl (.cons .here rfl (.cons (.there .here) rfl .nil))) (.cons (.there .here) rfl (.cons (.there .here) rfl .nil)) rfl ?_))
              refine RunA.one (i := 11) (by kernel_rfl) (by kernel_rfl) ?_
              refine RunI.callX rfl (isCall_value rfl rfl ent_72) rfl rfl rfl (.there (.there .here)) (fun w hm => draw_calls l hl _ (by omega) _ (by omega) q b o cap _ _ w (hm.at (.tail _ (.tail _ (.head _)))) (hm.at (.tail _ (.tail _ (.tail _ (.head _))))) (ne_of_T hm (.tail _ (.tail _ (.tail _ (.head _)))) (.tail _ (.tail _ (.head _))) (by decide)) (hS.ne (by decide) hm (.tail _ (.tail _ (.head _))) hlne) (hS.mono (by decide) hm (by simp))) (fun x59 hx59 => (RunK.toA (.cons .here rfl (.cons .here rfl (.cons (.there .here) rfl .nil))) (.cons .here rfl (.cons .here rfl (.cons .here rfl .nil))) rfl ?_))
              refine RunA.val (i := 12) rfl (by kernel_rfl) (by kernel_rfl) (Val.sub' rfl rfl (IntWalk.i64_in _ ⟨by omega, by omega⟩)) rfl rfl rfl (fun _ _ _ h => h) (.cons .here rfl (.cons .here rfl (.cons (.there .here) rfl .nil))) rfl ?_
              refine RunA.one (i := 15) (by kernel_rfl) (by kernel_rfl) ?_
              refine RunI.callX rfl (isCall_value rfl rfl ent_72) rfl rfl rfl (.there (.there .here)) (fun w hm => draw_calls l hl _ (by omega) _ (by omega) q b o cap _ _ w (hm.at (.tail _ (.tail _ (.head _)))) (hm.at (.tail _ (.tail _ (.tail _ (.head _))))) (ne_of_T hm (.tail _ (.tail _ (.tail _ (.head _)))) (.tail _ (.tail _ (.head _))) (by decide)) (hS.ne (by decide) hm (.tail _ (.tail _ (.head _))) hlne) (hS.mono (by decide) hm (by simp))) (fun x63 hx63 => (RunK.toA (.cons .here rfl (.cons .here rfl (.cons (.there .here) rfl .nil))) (.cons .here rfl (.cons .here rfl (.cons .here rfl .nil))) rfl ?_))
              refine RunA.val (i := 16) rfl (by kernel_rfl) (by kernel_rfl) (Val.add rfl rfl (IntWalk.i64_in _ ⟨by omega, by omega⟩)) rfl rfl rfl (fun _ _ _ h => h) (.cons .here rfl (.cons .here rfl (.cons (.there .here) rfl .nil))) rfl ?_
              refine RunA.one (i := 17) (by kernel_rfl) (by kernel_rfl) ?_
              refine RunI.callP rfl (isCall_func rfl ent_28) rfl rfl rfl (fun w hm => lspan_calls _ _ w) (RunK.toA (.cons .here rfl (.cons .here rfl (.cons (.there .here) rfl .nil))) (.cons .here rfl (.cons .here rfl (.cons .here rfl .nil))) rfl ?_)
              refine RunA.one (i := 19) (by kernel_rfl) (by kernel_rfl) ?_
              refine RunI.callX rfl (isCall_value rfl rfl ent_72) rfl rfl rfl (.there (.there .here)) (fun w hm => draw_calls l hl _ (by omega) _ (by omega) q b o cap _ _ w (hm.at (.tail _ (.tail _ (.head _)))) (hm.at (.tail _ (.tail _ (.tail _ (.head _))))) (ne_of_T hm (.tail _ (.tail _ (.tail _ (.head _)))) (.tail _ (.tail _ (.head _))) (by decide)) (hS.ne (by decide) hm (.tail _ (.tail _ (.head _))) hlne) (hS.mono (by decide) hm (by simp))) (fun x67 hx67 => (RunK.toA (.cons .here rfl (.cons .here rfl (.cons (.there .here) rfl .nil))) (.cons .here rfl (.cons .here rfl (.cons .here rfl .nil))) rfl ?_))
              refine RunA.one (i := 21) (by kernel_rfl) (by kernel_rfl) ?_
              refine RunI.callX rfl (isCall_value rfl rfl ent_72) rfl rfl rfl (.there (.there .here)) (fun w hm => draw_calls l hl _ (by omega) _ (by omega) q b o cap _ _ w (hm.at (.tail _ (.tail _ (.head _)))) (hm.at (.tail _ (.tail _ (.tail _ (.head _))))) (ne_of_T hm (.tail _ (.tail _ (.tail _ (.head _)))) (.tail _ (.tail _ (.head _))) (by decide)) (hS.ne (by decide) hm (.tail _ (.tail _ (.head _))) hlne) (hS.mono (by decide) hm (by simp))) (fun x69 hx69 => (RunK.toA (.cons .here rfl (.cons .here rfl (.cons (.there .here) rfl .nil))) (.cons .here rfl (.cons .here rfl (.cons .here rfl .nil))) rfl ?_))
              refine RunA.val (i := 22) rfl (by kernel_rfl) (by kernel_rfl) (Val.add rfl rfl (IntWalk.i64_in _ ⟨by omega, by omega⟩)) rfl rfl rfl (fun _ _ _ h => h) (.cons .here rfl (.cons .here rfl (.cons (.there .here) rfl .nil))) rfl ?_
              refine RunA.one (i := 24) (by kernel_rfl) (by kernel_rfl) ?_
              refine RunI.callX rfl (isCall_value rfl rfl ent_72) rfl rfl rfl (.there (.there .here)) (fun w hm => draw_calls l hl _ (by omega) _ (by omega) q b o cap _ _ w (hm.at (.tail _ (.tail _ (.head _)))) (hm.at (.tail _ (.tail _ (.tail _ (.head _))))) (ne_of_T hm (.tail _ (.tail _ (.tail _ (.head _)))) (.tail _ (.tail _ (.head _))) (by decide)) (hS.ne (by decide) hm (.tail _ (.tail _ (.head _))) hlne) (hS.mono (by decide) hm (by simp))) (fun x72 hx72 => (RunK.toA (.cons .here rfl (.cons .here rfl (.cons (.there .here) rfl .nil))) (.cons .here rfl (.cons .here rfl (.cons .here rfl .nil))) rfl ?_))
              refine RunA.val (i := 25) rfl (by kernel_rfl) (by kernel_rfl) (Val.add rfl rfl (IntWalk.i64_in _ ⟨by omega, by omega⟩)) rfl rfl rfl (fun _ _ _ h => h) (.cons .here rfl (.cons .here rfl (.cons (.there .here) rfl .nil))) rfl ?_
              refine RunA.val (i := 26) rfl (by kernel_rfl) (by kernel_rfl) (Val.build (parts := [(0, .tmp 56), (1, .tmp 65), (2, .tmp 67), (3, .tmp 70), (4, .tmp 73)]) rfl zero_26 places_26 rfl) rfl rfl rfl (fun _ _ _ h => h) (.cons .here rfl (.cons .here rfl (.cons (.there .here) rfl .nil))) rfl ?_
              refine RunA.toB (by kernel_rfl) ?_
              refine RunB.one (i := 28) (by kernel_rfl) ?_
              refine RunI.sto rfl (Sto.store rfl rfl .here ty_26 rfl rfl) rfl rfl (RunK.toB ?_)
              refine RunB.done (by kernel_rfl) ?_
              obtain ⟨hpO, hpP, _, _⟩ := trueP_ok (f := 5000 + x43) (b := 60 + x46) (d1 := x50) (d2 := x54) (d3 := x59) (d4 := x63) (tl := x67) (n := x69) (r := x72) (by omega) (by omega) hx50 hx54 hx59 hx63 hx67 hx69 hx72
              exact RunE.joinX (b8, trueP (5000 + x43) (60 + x46) x50 x54 x59 x63 x67 x69 x72) ⟨hpO, hpP, rfl, by simp only [trueP]; omega, by simp only [trueP]; omega⟩ rfl (Sub.consE (t := 8) rfl rfl (Sub.cons (t := 0) rfl (Sub.cons (t := 1) rfl (Sub.cons (t := 4) rfl (Sub.cons (t := 5) rfl (Sub.cons (t := 6) rfl (Sub.cons (t := 7) rfl (Sub.nil _)))))))) (.cons .here rfl (.cons (.there .here) rfl (.cons .here rfl (.cons .here rfl .nil))))
          · refine RunI.new rfl (New.alloc zero_26) rfl rfl rfl (fun b8 => (RunK.toA (.cons .here rfl (.cons .here rfl (.cons (.there .here) rfl .nil))) (.cons (.there .here) rfl (.cons (.there .here) rfl .nil)) rfl ?_))
            refine RunA.one (i := 8) (by kernel_rfl) (by kernel_rfl) ?_
            refine RunI.callP rfl (isCall_func rfl ent_28) rfl rfl rfl (fun w hm => lspan_calls _ _ w) (RunK.toA (.cons .here rfl (.cons .here rfl (.cons (.there .here) rfl .nil))) (.cons .here rfl (.cons .here rfl (.cons .here rfl .nil))) rfl ?_)
            refine RunA.one (i := 11) (by kernel_rfl) (by kernel_rfl) ?_
            refine RunI.callX rfl (isCall_value rfl rfl ent_72) rfl rfl rfl (.there (.there .here)) (fun w hm => draw_calls l hl _ (by omega) _ (by omega) q b o cap _ _ w (hm.at (.tail _ (.tail _ (.head _)))) (hm.at (.tail _ (.tail _ (.tail _ (.head _))))) (ne_of_T hm (.tail _ (.tail _ (.tail _ (.head _)))) (.tail _ (.tail _ (.head _))) (by decide)) (hS.ne (by decide) hm (.tail _ (.tail _ (.head _))) hlne) (hS.mono (by decide) hm (by simp))) (fun x59 hx59 => (RunK.toA (.cons .here rfl (.cons .here rfl (.cons (.there .here) rfl .nil))) (.cons .here rfl (.cons .here rfl (.cons .here rfl .nil))) rfl ?_))
            refine RunA.val (i := 12) rfl (by kernel_rfl) (by kernel_rfl) (Val.sub' rfl rfl (IntWalk.i64_in _ ⟨by omega, by omega⟩)) rfl rfl rfl (fun _ _ _ h => h) (.cons .here rfl (.cons .here rfl (.cons (.there .here) rfl .nil))) rfl ?_
            refine RunA.one (i := 15) (by kernel_rfl) (by kernel_rfl) ?_
            refine RunI.callX rfl (isCall_value rfl rfl ent_72) rfl rfl rfl (.there (.there .here)) (fun w hm => draw_calls l hl _ (by omega) _ (by omega) q b o cap _ _ w (hm.at (.tail _ (.tail _ (.head _)))) (hm.at (.tail _ (.tail _ (.tail _ (.head _))))) (ne_of_T hm (.tail _ (.tail _ (.tail _ (.head _)))) (.tail _ (.tail _ (.head _))) (by decide)) (hS.ne (by decide) hm (.tail _ (.tail _ (.head _))) hlne) (hS.mono (by decide) hm (by simp))) (fun x63 hx63 => (RunK.toA (.cons .here rfl (.cons .here rfl (.cons (.there .here) rfl .nil))) (.cons .here rfl (.cons .here rfl (.cons .here rfl .nil))) rfl ?_))
            refine RunA.val (i := 16) rfl (by kernel_rfl) (by kernel_rfl) (Val.add rfl rfl (IntWalk.i64_in _ ⟨by omega, by omega⟩)) rfl rfl rfl (fun _ _ _ h => h) (.cons .here rfl (.cons .here rfl (.cons (.there .here) rfl .nil))) rfl ?_
            refine RunA.one (i := 17) (by kernel_rfl) (by kernel_rfl) ?_
            refine RunI.callP rfl (isCall_func rfl ent_28) rfl rfl rfl (fun w hm => lspan_calls _ _ w) (RunK.toA (.cons .here rfl (.cons .here rfl (.cons (.there .here) rfl .nil))) (.cons .here rfl (.cons .here rfl (.cons .here rfl .nil))) rfl ?_)
            refine RunA.one (i := 19) (by kernel_rfl) (by kernel_rfl) ?_
            refine RunI.callX rfl (isCall_value rfl rfl ent_72) rfl rfl rfl (.there (.there .here)) (fun w hm => draw_calls l hl _ (by omega) _ (by omega) q b o cap _ _ w (hm.at (.tail _ (.tail _ (.head _)))) (hm.at (.tail _ (.tail _ (.tail _ (.head _))))) (ne_of_T hm (.tail _ (.tail _ (.tail _ (.head _)))) (.tail _ (.tail _ (.head _))) (by decide)) (hS.ne (by decide) hm (.tail _ (.tail _ (.head _))) hlne) (hS.mono (by decide) hm (by simp))) (fun x67 hx67 => (RunK.toA (.cons .here rfl (.cons .here rfl (.cons (.there .here) rfl .nil))) (.cons .here rfl (.cons .here rfl (.cons .here rfl .nil))) rfl ?_))
            refine RunA.one (i := 21) (by kernel_rfl) (by kernel_rfl) ?_
            refine RunI.callX rfl (isCall_value rfl rfl ent_72) rfl rfl rfl (.there (.there .here)) (fun w hm => draw_calls l hl _ (by omega) _ (by omega) q b o cap _ _ w (hm.at (.tail _ (.tail _ (.head _)))) (hm.at (.tail _ (.tail _ (.tail _ (.head _))))) (ne_of_T hm (.tail _ (.tail _ (.tail _ (.head _)))) (.tail _ (.tail _ (.head _))) (by decide)) (hS.ne (by decide) hm (.tail _ (.tail _ (.head _))) hlne) (hS.mono (by decide) hm (by simp))) (fun x69 hx69 => (RunK.toA (.cons .here rfl (.cons .here rfl (.cons (.there .here) rfl .nil))) (.cons .here rfl (.cons .here rfl (.cons .here rfl .nil))) rfl ?_))
            refine RunA.val (i := 22) rfl (by kernel_rfl) (by kernel_rfl) (Val.add rfl rfl (IntWalk.i64_in _ ⟨by omega, by omega⟩)) rfl rfl rfl (fun _ _ _ h => h) (.cons .here rfl (.cons .here rfl (.cons (.there .here) rfl .nil))) rfl ?_
            refine RunA.one (i := 24) (by kernel_rfl) (by kernel_rfl) ?_
            refine RunI.callX rfl (isCall_value rfl rfl ent_72) rfl rfl rfl (.there (.there .here)) (fun w hm => draw_calls l hl _ (by omega) _ (by omega) q b o cap _ _ w (hm.at (.tail _ (.tail _ (.head _)))) (hm.at (.tail _ (.tail _ (.tail _ (.head _))))) (ne_of_T hm (.tail _ (.tail _ (.tail _ (.head _)))) (.tail _ (.tail _ (.head _))) (by decide)) (hS.ne (by decide) hm (.tail _ (.tail _ (.head _))) hlne) (hS.mono (by decide) hm (by simp))) (fun x72 hx72 => (RunK.toA (.cons .here rfl (.cons .here rfl (.cons (.there .here) rfl .nil))) (.cons .here rfl (.cons .here rfl (.cons .here rfl .nil))) rfl ?_))
            refine RunA.val (i := 25) rfl (by kernel_rfl) (by kernel_rfl) (Val.add rfl rfl (IntWalk.i64_in _ ⟨by omega, by omega⟩)) rfl rfl rfl (fun _ _ _ h => h) (.cons .here rfl (.cons .here rfl (.cons (.there .here) rfl .nil))) rfl ?_
            refine RunA.val (i := 26) rfl (by kernel_rfl) (by kernel_rfl) (Val.build (parts := [(0, .tmp 56), (1, .tmp 65), (2, .tmp 67), (3, .tmp 70), (4, .tmp 73)]) rfl zero_26 places_26 rfl) rfl rfl rfl (fun _ _ _ h => h) (.cons .here rfl (.cons .here rfl (.cons (.there .here) rfl .nil))) rfl ?_
            refine RunA.toB (by kernel_rfl) ?_
            refine RunB.one (i := 28) (by kernel_rfl) ?_
            refine RunI.sto rfl (Sto.store rfl rfl .here ty_26 rfl rfl) rfl rfl (RunK.toB ?_)
            refine RunB.done (by kernel_rfl) ?_
            obtain ⟨hpO, hpP, _, _⟩ := trueP_ok (f := 5000 + x43) (b := 60 + x46) (d1 := x50) (d2 := x54) (d3 := x59) (d4 := x63) (tl := x67) (n := x69) (r := x72) (by omega) (by omega) hx50 hx54 hx59 hx63 hx67 hx69 hx72
            exact RunE.joinX (b8, trueP (5000 + x43) (60 + x46) x50 x54 x59 x63 x67 x69 x72) ⟨hpO, hpP, rfl, by simp only [trueP]; omega, by simp only [trueP]; omega⟩ rfl (Sub.consE (t := 8) rfl rfl (Sub.cons (t := 0) rfl (Sub.cons (t := 1) rfl (Sub.cons (t := 4) rfl (Sub.cons (t := 5) rfl (Sub.cons (t := 6) rfl (Sub.cons (t := 7) rfl (Sub.nil _)))))))) (.cons .here rfl (.cons (.there .here) rfl (.cons .here rfl (.cons .here rfl .nil))))
        · refine RunI.new rfl (New.alloc zero_26) rfl rfl rfl (fun b8 => (RunK.toA (.cons .here rfl (.cons .here rfl (.cons (.there .here) rfl .nil))) (.cons (.there .here) rfl (.cons (.there .here) rfl .nil)) rfl ?_))
          refine RunA.one (i := 6) (by kernel_rfl) (by kernel_rfl) ?_
          refine RunI.callX rfl (isCall_value rfl rfl ent_72) rfl rfl rfl (.there (.there .here)) (fun w hm => draw_calls l hl _ (by omega) _ (by omega) q b o cap _ _ w (hm.at (.tail _ (.tail _ (.head _)))) (hm.at (.tail _ (.tail _ (.tail _ (.head _))))) (ne_of_T hm (.tail _ (.tail _ (.tail _ (.head _)))) (.tail _ (.tail _ (.head _))) (by decide)) (hS.ne (by decide) hm (.tail _ (.tail _ (.head _))) hlne) (hS.mono (by decide) hm (by simp))) (fun x54 hx54 => (RunK.toA (.cons .here rfl (.cons .here rfl (.cons (.there .here) rfl .nil))) (.cons .here rfl (.cons .here rfl (.cons .here rfl .nil))) rfl ?_))
          refine RunA.val (i := 7) rfl (by kernel_rfl) (by kernel_rfl) (Val.add rfl rfl (IntWalk.i64_in _ ⟨by omega, by omega⟩)) rfl rfl rfl (fun _ _ _ h => h) (.cons .here rfl (.cons .here rfl (.cons (.there .here) rfl .nil))) rfl ?_
          refine RunA.one (i := 8) (by kernel_rfl) (by kernel_rfl) ?_
          refine RunI.callP rfl (isCall_func rfl ent_28) rfl rfl rfl (fun w hm => lspan_calls _ _ w) (RunK.toA (.cons .here rfl (.cons .here rfl (.cons (.there .here) rfl .nil))) (.cons .here rfl (.cons .here rfl (.cons .here rfl .nil))) rfl ?_)
          refine RunA.one (i := 11) (by kernel_rfl) (by kernel_rfl) ?_
          refine RunI.callX rfl (isCall_value rfl rfl ent_72) rfl rfl rfl (.there (.there .here)) (fun w hm => draw_calls l hl _ (by omega) _ (by omega) q b o cap _ _ w (hm.at (.tail _ (.tail _ (.head _)))) (hm.at (.tail _ (.tail _ (.tail _ (.head _))))) (ne_of_T hm (.tail _ (.tail _ (.tail _ (.head _)))) (.tail _ (.tail _ (.head _))) (by decide)) (hS.ne (by decide) hm (.tail _ (.tail _ (.head _))) hlne) (hS.mono (by decide) hm (by simp))) (fun x59 hx59 => (RunK.toA (.cons .here rfl (.cons .here rfl (.cons (.there .here) rfl .nil))) (.cons .here rfl (.cons .here rfl (.cons .here rfl .nil))) rfl ?_))
          refine RunA.val (i := 12) rfl (by kernel_rfl) (by kernel_rfl) (Val.sub' rfl rfl (IntWalk.i64_in _ ⟨by omega, by omega⟩)) rfl rfl rfl (fun _ _ _ h => h) (.cons .here rfl (.cons .here rfl (.cons (.there .here) rfl .nil))) rfl ?_
          refine RunA.one (i := 15) (by kernel_rfl) (by kernel_rfl) ?_
          refine RunI.callX rfl (isCall_value rfl rfl ent_72) rfl rfl rfl (.there (.there .here)) (fun w hm => draw_calls l hl _ (by omega) _ (by omega) q b o cap _ _ w (hm.at (.tail _ (.tail _ (.head _)))) (hm.at (.tail _ (.tail _ (.tail _ (.head _))))) (ne_of_T hm (.tail _ (.tail _ (.tail _ (.head _)))) (.tail _ (.tail _ (.head _))) (by decide)) (hS.ne (by decide) hm (.tail _ (.tail _ (.head _))) hlne) (hS.mono (by decide) hm (by simp))) (fun x63 hx63 => (RunK.toA (.cons .here rfl (.cons .here rfl (.cons (.there .here) rfl .nil))) (.cons .here rfl (.cons .here rfl (.cons .here rfl .nil))) rfl ?_))
          refine RunA.val (i := 16) rfl (by kernel_rfl) (by kernel_rfl) (Val.add rfl rfl (IntWalk.i64_in _ ⟨by omega, by omega⟩)) rfl rfl rfl (fun _ _ _ h => h) (.cons .here rfl (.cons .here rfl (.cons (.there .here) rfl .nil))) rfl ?_
          refine RunA.one (i := 17) (by kernel_rfl) (by kernel_rfl) ?_
          refine RunI.callP rfl (isCall_func rfl ent_28) rfl rfl rfl (fun w hm => lspan_calls _ _ w) (RunK.toA (.cons .here rfl (.cons .here rfl (.cons (.there .here) rfl .nil))) (.cons .here rfl (.cons .here rfl (.cons .here rfl .nil))) rfl ?_)
          refine RunA.one (i := 19) (by kernel_rfl) (by kernel_rfl) ?_
          refine RunI.callX rfl (isCall_value rfl rfl ent_72) rfl rfl rfl (.there (.there .here)) (fun w hm => draw_calls l hl _ (by omega) _ (by omega) q b o cap _ _ w (hm.at (.tail _ (.tail _ (.head _)))) (hm.at (.tail _ (.tail _ (.tail _ (.head _))))) (ne_of_T hm (.tail _ (.tail _ (.tail _ (.head _)))) (.tail _ (.tail _ (.head _))) (by decide)) (hS.ne (by decide) hm (.tail _ (.tail _ (.head _))) hlne) (hS.mono (by decide) hm (by simp))) (fun x67 hx67 => (RunK.toA (.cons .here rfl (.cons .here rfl (.cons (.there .here) rfl .nil))) (.cons .here rfl (.cons .here rfl (.cons .here rfl .nil))) rfl ?_))
          refine RunA.one (i := 21) (by kernel_rfl) (by kernel_rfl) ?_
          refine RunI.callX rfl (isCall_value rfl rfl ent_72) rfl rfl rfl (.there (.there .here)) (fun w hm => draw_calls l hl _ (by omega) _ (by omega) q b o cap _ _ w (hm.at (.tail _ (.tail _ (.head _)))) (hm.at (.tail _ (.tail _ (.tail _ (.head _))))) (ne_of_T hm (.tail _ (.tail _ (.tail _ (.head _)))) (.tail _ (.tail _ (.head _))) (by decide)) (hS.ne (by decide) hm (.tail _ (.tail _ (.head _))) hlne) (hS.mono (by decide) hm (by simp))) (fun x69 hx69 => (RunK.toA (.cons .here rfl (.cons .here rfl (.cons (.there .here) rfl .nil))) (.cons .here rfl (.cons .here rfl (.cons .here rfl .nil))) rfl ?_))
          refine RunA.val (i := 22) rfl (by kernel_rfl) (by kernel_rfl) (Val.add rfl rfl (IntWalk.i64_in _ ⟨by omega, by omega⟩)) rfl rfl rfl (fun _ _ _ h => h) (.cons .here rfl (.cons .here rfl (.cons (.there .here) rfl .nil))) rfl ?_
          refine RunA.one (i := 24) (by kernel_rfl) (by kernel_rfl) ?_
          refine RunI.callX rfl (isCall_value rfl rfl ent_72) rfl rfl rfl (.there (.there .here)) (fun w hm => draw_calls l hl _ (by omega) _ (by omega) q b o cap _ _ w (hm.at (.tail _ (.tail _ (.head _)))) (hm.at (.tail _ (.tail _ (.tail _ (.head _))))) (ne_of_T hm (.tail _ (.tail _ (.tail _ (.head _)))) (.tail _ (.tail _ (.head _))) (by decide)) (hS.ne (by decide) hm (.tail _ (.tail _ (.head _))) hlne) (hS.mono (by decide) hm (by simp))) (fun x72 hx72 => (RunK.toA (.cons .here rfl (.cons .here rfl (.cons (.there .here) rfl .nil))) (.cons .here rfl (.cons .here rfl (.cons .here rfl .nil))) rfl ?_))
          refine RunA.val (i := 25) rfl (by kernel_rfl) (by kernel_rfl) (Val.add rfl rfl (IntWalk.i64_in _ ⟨by omega, by omega⟩)) rfl rfl rfl (fun _ _ _ h => h) (.cons .here rfl (.cons .here rfl (.cons (.there .here) rfl .nil))) rfl ?_
          refine RunA.val (i := 26) rfl (by kernel_rfl) (by kernel_rfl) (Val.build (parts := [(0, .tmp 56), (1, .tmp 65), (2, .tmp 67), (3, .tmp 70), (4, .tmp 73)]) rfl zero_26 places_26 rfl) rfl rfl rfl (fun _ _ _ h => h) (.cons .here rfl (.cons .here rfl (.cons (.there .here) rfl .nil))) rfl ?_
          refine RunA.toB (by kernel_rfl) ?_
          refine RunB.one (i := 28) (by kernel_rfl) ?_
          refine RunI.sto rfl (Sto.store rfl rfl .here ty_26 rfl rfl) rfl rfl (RunK.toB ?_)
          refine RunB.done (by kernel_rfl) ?_
          obtain ⟨hpO, hpP, _, _⟩ := trueP_ok (f := 5000 + x43) (b := 60 + x46) (d1 := x50) (d2 := x54) (d3 := x59) (d4 := x63) (tl := x67) (n := x69) (r := x72) (by omega) (by omega) hx50 hx54 hx59 hx63 hx67 hx69 hx72
          exact RunE.joinX (b8, trueP (5000 + x43) (60 + x46) x50 x54 x59 x63 x67 x69 x72) ⟨hpO, hpP, rfl, by simp only [trueP]; omega, by simp only [trueP]; omega⟩ rfl (Sub.consE (t := 8) rfl rfl (Sub.cons (t := 0) rfl (Sub.cons (t := 1) rfl (Sub.cons (t := 4) rfl (Sub.cons (t := 5) rfl (Sub.cons (t := 6) rfl (Sub.cons (t := 7) rfl (Sub.nil _)))))))) (.cons .here rfl (.cons (.there .here) rfl (.cons .here rfl (.cons .here rfl .nil))))
      · refine RunI.new rfl (New.alloc zero_26) rfl rfl rfl (fun b8 => (RunK.toA (.cons .here rfl (.cons .here rfl (.cons (.there .here) rfl .nil))) (.cons (.there .here) rfl (.cons (.there .here) rfl .nil)) rfl ?_))
        refine RunA.one (i := 2) (by kernel_rfl) (by kernel_rfl) ?_
        refine RunI.callX rfl (isCall_value rfl rfl ent_72) rfl rfl rfl (.there (.there .here)) (fun w hm => draw_calls l hl _ (by omega) _ (by omega) q b o cap _ _ w (hm.at (.tail _ (.tail _ (.head _)))) (hm.at (.tail _ (.tail _ (.tail _ (.head _))))) (ne_of_T hm (.tail _ (.tail _ (.tail _ (.head _)))) (.tail _ (.tail _ (.head _))) (by decide)) (hS.ne (by decide) hm (.tail _ (.tail _ (.head _))) hlne) (hS.mono (by decide) hm (by simp))) (fun x50 hx50 => (RunK.toA (.cons .here rfl (.cons .here rfl (.cons (.there .here) rfl .nil))) (.cons .here rfl (.cons .here rfl (.cons .here rfl .nil))) rfl ?_))
        refine RunA.val (i := 3) rfl (by kernel_rfl) (by kernel_rfl) (Val.sub' rfl rfl (IntWalk.i64_in _ ⟨by omega, by omega⟩)) rfl rfl rfl (fun _ _ _ h => h) (.cons .here rfl (.cons .here rfl (.cons (.there .here) rfl .nil))) rfl ?_
        refine RunA.one (i := 6) (by kernel_rfl) (by kernel_rfl) ?_
        refine RunI.callX rfl (isCall_value rfl rfl ent_72) rfl rfl rfl (.there (.there .here)) (fun w hm => draw_calls l hl _ (by omega) _ (by omega) q b o cap _ _ w (hm.at (.tail _ (.tail _ (.head _)))) (hm.at (.tail _ (.tail _ (.tail _ (.head _))))) (ne_of_T hm (.tail _ (.tail _ (.tail _ (.head _)))) (.tail _ (.tail _ (.head _))) (by decide)) (hS.ne (by decide) hm (.tail _ (.tail _ (.head _))) hlne) (hS.mono (by decide) hm (by simp))) (fun x54 hx54 => (RunK.toA (.cons .here rfl (.cons .here rfl (.cons (.there .here) rfl .nil))) (.cons .here rfl (.cons .here rfl (.cons .here rfl .nil))) rfl ?_))
        refine RunA.val (i := 7) rfl (by kernel_rfl) (by kernel_rfl) (Val.add rfl rfl (IntWalk.i64_in _ ⟨by omega, by omega⟩)) rfl rfl rfl (fun _ _ _ h => h) (.cons .here rfl (.cons .here rfl (.cons (.there .here) rfl .nil))) rfl ?_
        refine RunA.one (i := 8) (by kernel_rfl) (by kernel_rfl) ?_
        refine RunI.callP rfl (isCall_func rfl ent_28) rfl rfl rfl (fun w hm => lspan_calls _ _ w) (RunK.toA (.cons .here rfl (.cons .here rfl (.cons (.there .here) rfl .nil))) (.cons .here rfl (.cons .here rfl (.cons .here rfl .nil))) rfl ?_)
        refine RunA.one (i := 11) (by kernel_rfl) (by kernel_rfl) ?_
        refine RunI.callX rfl (isCall_value rfl rfl ent_72) rfl rfl rfl (.there (.there .here)) (fun w hm => draw_calls l hl _ (by omega) _ (by omega) q b o cap _ _ w (hm.at (.tail _ (.tail _ (.head _)))) (hm.at (.tail _ (.tail _ (.tail _ (.head _))))) (ne_of_T hm (.tail _ (.tail _ (.tail _ (.head _)))) (.tail _ (.tail _ (.head _))) (by decide)) (hS.ne (by decide) hm (.tail _ (.tail _ (.head _))) hlne) (hS.mono (by decide) hm (by simp))) (fun x59 hx59 => (RunK.toA (.cons .here rfl (.cons .here rfl (.cons (.there .here) rfl .nil))) (.cons .here rfl (.cons .here rfl (.cons .here rfl .nil))) rfl ?_))
        refine RunA.val (i := 12) rfl (by kernel_rfl) (by kernel_rfl) (Val.sub' rfl rfl (IntWalk.i64_in _ ⟨by omega, by omega⟩)) rfl rfl rfl (fun _ _ _ h => h) (.cons .here rfl (.cons .here rfl (.cons (.there .here) rfl .nil))) rfl ?_
        refine RunA.one (i := 15) (by kernel_rfl) (by kernel_rfl) ?_
        refine RunI.callX rfl (isCall_value rfl rfl ent_72) rfl rfl rfl (.there (.there .here)) (fun w hm => draw_calls l hl _ (by omega) _ (by omega) q b o cap _ _ w (hm.at (.tail _ (.tail _ (.head _)))) (hm.at (.tail _ (.tail _ (.tail _ (.head _))))) (ne_of_T hm (.tail _ (.tail _ (.tail _ (.head _)))) (.tail _ (.tail _ (.head _))) (by decide)) (hS.ne (by decide) hm (.tail _ (.tail _ (.head _))) hlne) (hS.mono (by decide) hm (by simp))) (fun x63 hx63 => (RunK.toA (.cons .here rfl (.cons .here rfl (.cons (.there .here) rfl .nil))) (.cons .here rfl (.cons .here rfl (.cons .here rfl .nil))) rfl ?_))
        refine RunA.val (i := 16) rfl (by kernel_rfl) (by kernel_rfl) (Val.add rfl rfl (IntWalk.i64_in _ ⟨by omega, by omega⟩)) rfl rfl rfl (fun _ _ _ h => h) (.cons .here rfl (.cons .here rfl (.cons (.there .here) rfl .nil))) rfl ?_
        refine RunA.one (i := 17) (by kernel_rfl) (by kernel_rfl) ?_
        refine RunI.callP rfl (isCall_func rfl ent_28) rfl rfl rfl (fun w hm => lspan_calls _ _ w) (RunK.toA (.cons .here rfl (.cons .here rfl (.cons (.there .here) rfl .nil))) (.cons .here rfl (.cons .here rfl (.cons .here rfl .nil))) rfl ?_)
        refine RunA.one (i := 19) (by kernel_rfl) (by kernel_rfl) ?_
        refine RunI.callX rfl (isCall_value rfl rfl ent_72) rfl rfl rfl (.there (.there .here)) (fun w hm => draw_calls l hl _ (by omega) _ (by omega) q b o cap _ _ w (hm.at (.tail _ (.tail _ (.head _)))) (hm.at (.tail _ (.tail _ (.tail _ (.head _))))) (ne_of_T hm (.tail _ (.tail _ (.tail _ (.head _)))) (.tail _ (.tail _ (.head _))) (by decide)) (hS.ne (by decide) hm (.tail _ (.tail _ (.head _))) hlne) (hS.mono (by decide) hm (by simp))) (fun x67 hx67 => (RunK.toA (.cons .here rfl (.cons .here rfl (.cons (.there .here) rfl .nil))) (.cons .here rfl (.cons .here rfl (.cons .here rfl .nil))) rfl ?_))
        refine RunA.one (i := 21) (by kernel_rfl) (by kernel_rfl) ?_
        refine RunI.callX rfl (isCall_value rfl rfl ent_72) rfl rfl rfl (.there (.there .here)) (fun w hm => draw_calls l hl _ (by omega) _ (by omega) q b o cap _ _ w (hm.at (.tail _ (.tail _ (.head _)))) (hm.at (.tail _ (.tail _ (.tail _ (.head _))))) (ne_of_T hm (.tail _ (.tail _ (.tail _ (.head _)))) (.tail _ (.tail _ (.head _))) (by decide)) (hS.ne (by decide) hm (.tail _ (.tail _ (.head _))) hlne) (hS.mono (by decide) hm (by simp))) (fun x69 hx69 => (RunK.toA (.cons .here rfl (.cons .here rfl (.cons (.there .here) rfl .nil))) (.cons .here rfl (.cons .here rfl (.cons .here rfl .nil))) rfl ?_))
        refine RunA.val (i := 22) rfl (by kernel_rfl) (by kernel_rfl) (Val.add rfl rfl (IntWalk.i64_in _ ⟨by omega, by omega⟩)) rfl rfl rfl (fun _ _ _ h => h) (.cons .here rfl (.cons .here rfl (.cons (.there .here) rfl .nil))) rfl ?_
        refine RunA.one (i := 24) (by kernel_rfl) (by kernel_rfl) ?_
        refine RunI.callX rfl (isCall_value rfl rfl ent_72) rfl rfl rfl (.there (.there .here)) (fun w hm => draw_calls l hl _ (by omega) _ (by omega) q b o cap _ _ w (hm.at (.tail _ (.tail _ (.head _)))) (hm.at (.tail _ (.tail _ (.tail _ (.head _))))) (ne_of_T hm (.tail _ (.tail _ (.tail _ (.head _)))) (.tail _ (.tail _ (.head _))) (by decide)) (hS.ne (by decide) hm (.tail _ (.tail _ (.head _))) hlne) (hS.mono (by decide) hm (by simp))) (fun x72 hx72 => (RunK.toA (.cons .here rfl (.cons .here rfl (.cons (.there .here) rfl .nil))) (.cons .here rfl (.cons .here rfl (.cons .here rfl .nil))) rfl ?_))
        refine RunA.val (i := 25) rfl (by kernel_rfl) (by kernel_rfl) (Val.add rfl rfl (IntWalk.i64_in _ ⟨by omega, by omega⟩)) rfl rfl rfl (fun _ _ _ h => h) (.cons .here rfl (.cons .here rfl (.cons (.there .here) rfl .nil))) rfl ?_
        refine RunA.val (i := 26) rfl (by kernel_rfl) (by kernel_rfl) (Val.build (parts := [(0, .tmp 56), (1, .tmp 65), (2, .tmp 67), (3, .tmp 70), (4, .tmp 73)]) rfl zero_26 places_26 rfl) rfl rfl rfl (fun _ _ _ h => h) (.cons .here rfl (.cons .here rfl (.cons (.there .here) rfl .nil))) rfl ?_
        refine RunA.toB (by kernel_rfl) ?_
        refine RunB.one (i := 28) (by kernel_rfl) ?_
        refine RunI.sto rfl (Sto.store rfl rfl .here ty_26 rfl rfl) rfl rfl (RunK.toB ?_)
        refine RunB.done (by kernel_rfl) ?_
        obtain ⟨hpO, hpP, _, _⟩ := trueP_ok (f := 5000 + x43) (b := 60 + x46) (d1 := x50) (d2 := x54) (d3 := x59) (d4 := x63) (tl := x67) (n := x69) (r := x72) (by omega) (by omega) hx50 hx54 hx59 hx63 hx67 hx69 hx72
        exact RunE.joinX (b8, trueP (5000 + x43) (60 + x46) x50 x54 x59 x63 x67 x69 x72) ⟨hpO, hpP, rfl, by simp only [trueP]; omega, by simp only [trueP]; omega⟩ rfl (Sub.consE (t := 8) rfl rfl (Sub.cons (t := 0) rfl (Sub.cons (t := 1) rfl (Sub.cons (t := 4) rfl (Sub.cons (t := 5) rfl (Sub.cons (t := 6) rfl (Sub.cons (t := 7) rfl (Sub.nil _)))))))) (.cons .here rfl (.cons (.there .here) rfl (.cons .here rfl (.cons .here rfl .nil))))
    · intro y yI
      obtain ⟨b8, p0⟩ := y
      obtain ⟨hpO, hpP, p0t, p0f, p0tl⟩ := yI
      dsimp only at hpO hpP p0t p0f p0tl ⊢
      have hP1 : 1 ≤ (5000 + x43) * (60 + x46) := by have m3 := Int.mul_le_mul (show (1 : Int) ≤ 5000 + x43 by omega) (show 1 ≤ 60 + x46 by omega) (by omega) (by omega); omega
      have hP2 : (5000 + x43) * (60 + x46) ≤ 2000000 := by have m4 := Int.mul_le_mul (show 5000 + x43 ≤ 15000 by omega) (show 60 + x46 ≤ 100 by omega) (by omega) (by omega); omega
      refine RunE.next ?_
      refine RunC.seq ?_
      refine RunC.region ?_
      refine RunL.val (Val.pure rfl) rfl rfl rfl ?_
      refine RunL.val (Val.pure rfl) rfl rfl rfl ?_
      refine RunL.val (Val.mul rfl rfl (IntWalk.i64_in _ (rng_of (mul_bd (A := 15000) (B := 100) (by omega) (by omega) (by omega) (by omega)) (by decide)))) rfl rfl rfl ?_
      refine RunL.val (Val.pure rfl) rfl rfl rfl ?_
      refine RunL.nil ?_
      refine RunE.next ?_
      refine RunC.seq ?_
      refine RunC.region ?_
      refine RunL.val (Val.pure rfl) rfl rfl rfl ?_
      refine RunL.val (Val.pure rfl) rfl rfl rfl ?_
      refine RunL.nil ?_
      refine RunE.next ?_
      refine RunC.seq ?_
      refine RunC.region ?_
      refine RunL.val (Val.pure rfl) rfl rfl rfl ?_
      refine RunL.nil ?_
      refine RunE.next ?_
      refine RunC.seq ?_
      refine RunC.region ?_
      refine RunL.val (Val.pure rfl) rfl rfl rfl ?_
      refine RunL.nil ?_
      refine RunE.next ?_
      refine RunC.seq ?_
      refine RunC.seq ?_
      refine RunC.region ?_
      obtain ⟨P, hP⟩ : ∃ P, (5000 + x43) * (60 + x46) = P := ⟨_, rfl⟩
      rw [hP] at hpP hP1 hP2 ⊢
      have t1 := hpO.t1
      have t2 := hpO.t2
      have n1 := hpO.n1
      have n2 := hpO.n2
      have n3 := hpO.n3
      obtain ⟨M, hM⟩ : ∃ M, things % 13 = M := ⟨_, rfl⟩
      have hM12 : M ≤ 12 := by omega
      refine RunL.val (Val.pure rfl) rfl rfl rfl ?_
      refine RunL.val (Val.convInt rfl und_5 und_3 (IntWalk.i64_in _ ⟨by omega, by omega⟩)) rfl rfl rfl ?_
      refine RunL.val (Val.remN (a := things) (b := 13) rfl rfl (by omega)) rfl rfl rfl ?_
      refine RunL.val (Val.pure rfl) rfl rfl rfl ?_
      refine RunL.nil ?_
      refine RunE.next ?_
      refine RunC.block ?_
      refine RunC.loopX (X := Nat × List Pw1.Item × Eng.Own × Eng.Own) (n0 := [(b5, _), (b41.2, _)]) (M) (fun k x q => (82, .int .i64 (k : Int)) :: (12, .int .i64 ((mvK x.2.1 k : Nat) : Int)) :: (11, ownV x.2.2.1 k) :: q) (fun _ _ => _) (fun k x => [(b8, .cells [.int .i64 p0.focal.lo, .int .i64 p0.focal.hi, .int .i64 p0.base.lo, .int .i64 p0.base.hi, .int .i64 p0.tilt, .int .i64 p0.near, .int .i64 p0.far, ownV x.2.2.2 k].toArray 26 (0, 0)), (b41.1, .cells [.int .i64 (x.1 : Int)].toArray 3 (0, 0))]) (fun k x => ownB 3 x.2.2.1 ((x.2.1.map (·.2.1)).map fun z => [Value.int .i64 z]).flatten ++ (ownB 47 x.2.2.2 ((x.2.1.map (·.1)).map Th.cells).flatten ++ [])) (fun k x => x.2.1.length = k ∧ x.1 ≤ 60 + 60 * k ∧ OwnOk 1 x.2.2.1 k ((x.2.1.map (·.2.1)).map fun z => [Value.int .i64 z]).flatten ∧ OwnOk 9 x.2.2.2 k ((x.2.1.map (·.1)).map Th.cells).flatten ∧ ∀ it ∈ x.2.1, Tru p0 P it.1 it.2.1 it.2.2) ((9, [], none, none) : Nat × List Pw1.Item × Eng.Own × Eng.Own) ⟨rfl, by decide, OwnOk.start, OwnOk.start, by simp⟩ rfl (Sub.consE (t := 82) rfl rfl (Sub.consE (t := 12) rfl rfl (Sub.consE (t := 11) rfl rfl (Sub.cons (t := 0) rfl (Sub.cons (t := 1) rfl (Sub.cons (t := 4) rfl (Sub.cons (t := 5) rfl (Sub.cons (t := 8) rfl (Sub.cons (t := 9) rfl (Sub.cons (t := 10) rfl (Sub.cons (t := 81) rfl (Sub.nil _)))))))))))) (.cons .here rfl (.cons .here rfl (.cons .here rfl (.cons .here rfl (Pick.same rfl))))) ?_
      intro k x kN kI
      obtain ⟨hxl, hxa, hx1, hx2, hxT⟩ := id kI
      refine RunC.seq ?_
      refine RunC.region ?_
      refine RunL.val (Val.pure rfl) rfl rfl rfl ?_
      refine RunL.nil ?_
      refine RunE.next ?_
      refine RunC.seq ?_
      refine RunC.cond rfl ?_ ?_
      · intro c1
        have c1' := c1; clear c1
        try simp only [decide_eq_true_eq, decide_eq_false_iff_not, Bool.not_eq_true', Bool.not_eq_false', Bool.and_eq_true, Bool.or_eq_true, Bool.and_eq_false_iff, Bool.or_eq_false_iff, Int.not_le, Int.not_lt] at c1'
        have hk : k < M := by omega
        refine RunC.skip ?_
        refine RunE.next ?_
        refine RunC.seq ?_
        refine RunC.block ?_
        refine RunC.seq ?_
        refine RunC.region ?_
        refine RunL.val (Val.pure rfl) rfl rfl rfl ?_
        refine RunL.val (Val.pure rfl) rfl rfl rfl ?_
        refine RunL.nil ?_
        refine RunE.next ?_
        refine RunC.seq ?_
        refine RunC.draw 16 fol_ (.cons .here rfl (.cons (.there .here) rfl (.cons (.there .here) rfl .nil))) ?_
        refine RunA.val (i := 0) rfl (by kernel_rfl) (by kernel_rfl) (Val.fieldAddr rfl fld_26_3) rfl rfl rfl (fun _ _ _ h => h) (.cons .here rfl (.cons (.there .here) rfl (.cons (.there .here) rfl .nil))) rfl ?_
        refine RunA.val (i := 1) rfl (by kernel_rfl) (by kernel_rfl) (Val.load_one rfl (.head _) ty_3 rfl) rfl rfl rfl (fun _ _ _ h => h) (.cons .here rfl (.cons (.there .here) rfl (.cons (.there .here) rfl .nil))) rfl ?_
        refine RunA.val (i := 2) rfl (by kernel_rfl) (by kernel_rfl) (Val.load_one rfl (.tail _ (.head _)) ty_40 rfl) rfl rfl rfl (fun _ _ _ h => h) (.cons .here rfl (.cons (.there .here) rfl (.cons (.there .here) rfl .nil))) rfl ?_
        refine RunA.val (i := 3) rfl (by kernel_rfl) (by kernel_rfl) (Val.fieldAddr rfl fld_26_4) rfl rfl rfl (fun _ _ _ h => h) (.cons .here rfl (.cons (.there .here) rfl (.cons (.there .here) rfl .nil))) rfl ?_
        refine RunA.val (i := 4) rfl (by kernel_rfl) (by kernel_rfl) (Val.load_one rfl (.head _) ty_3 rfl) rfl rfl rfl (fun _ _ _ h => h) (.cons .here rfl (.cons (.there .here) rfl (.cons (.there .here) rfl .nil))) rfl ?_
        refine RunA.val (i := 5) rfl (by kernel_rfl) (by kernel_rfl) (Val.fieldAddr rfl fld_26_3) rfl rfl rfl (fun _ _ _ h => h) (.cons .here rfl (.cons (.there .here) rfl (.cons (.there .here) rfl .nil))) rfl ?_
        refine RunA.val (i := 6) rfl (by kernel_rfl) (by kernel_rfl) (Val.load_one rfl (.head _) ty_3 rfl) rfl rfl rfl (fun _ _ _ h => h) (.cons .here rfl (.cons (.there .here) rfl (.cons (.there .here) rfl .nil))) rfl ?_
        refine RunA.val (i := 7) rfl (by kernel_rfl) (by kernel_rfl) (Val.sub' rfl rfl (IntWalk.i64_in _ ⟨by omega, by omega⟩)) rfl rfl rfl (fun _ _ _ h => h) (.cons .here rfl (.cons (.there .here) rfl (.cons (.there .here) rfl .nil))) rfl ?_
        refine RunA.val (i := 8) rfl (by kernel_rfl) (by kernel_rfl) (Val.load_one rfl (.tail _ (.head _)) ty_40 rfl) rfl rfl rfl (fun _ _ _ h => h) (.cons .here rfl (.cons (.there .here) rfl (.cons (.there .here) rfl .nil))) rfl ?_
        refine RunA.one (i := 9) (by kernel_rfl) (by kernel_rfl) ?_
        refine RunI.callX rfl (isCall_value rfl rfl ent_72) rfl rfl rfl (.there .here) (fun w hm => draw_calls l hl _ (by omega) _ (by omega) q b o cap _ _ w (hm.at (.tail _ (.head _))) (hm.at (.tail _ (.tail _ (.tail _ (.head _))))) (ne_of_T hm (.tail _ (.tail _ (.tail _ (.head _)))) (.tail _ (.head _)) (by decide)) (hS.ne (by decide) hm (.tail _ (.head _)) hlne) (hS.mono (by decide) hm (by simp))) (fun x94 hx94 => (RunK.toA (.cons .here rfl (.cons (.there .here) rfl (.cons (.there .here) rfl .nil))) (.cons .here rfl (.cons .here rfl (.cons .here rfl .nil))) rfl ?_))
        refine RunA.val (i := 10) rfl (by kernel_rfl) (by kernel_rfl) (Val.add rfl rfl (IntWalk.i64_in _ ⟨by omega, by omega⟩)) rfl rfl rfl (fun _ _ _ h => h) (.cons .here rfl (.cons (.there .here) rfl (.cons (.there .here) rfl .nil))) rfl ?_
        have hmm := mul_bd (a := p0.far - p0.near) (b := 1 + x94) (A := p0.far - p0.near) (B := 2) (by omega) (by omega) (by omega) (by omega)
        refine RunA.val (i := 11) rfl (by kernel_rfl) (by kernel_rfl) (Val.mul rfl rfl (IntWalk.i64_in _ ⟨by omega, by omega⟩)) rfl rfl rfl (fun _ _ _ h => h) (.cons .here rfl (.cons (.there .here) rfl (.cons (.there .here) rfl .nil))) rfl ?_
        refine RunA.val (i := 12) rfl (by kernel_rfl) (by kernel_rfl) (Val.quo rfl rfl (by omega) (by omega) (IntWalk.i64_in _ ⟨by omega, by omega⟩)) rfl rfl rfl (fun _ _ _ h => h) (.cons .here rfl (.cons (.there .here) rfl (.cons (.there .here) rfl .nil))) rfl ?_
        refine RunA.val (i := 13) rfl (by kernel_rfl) (by kernel_rfl) (Val.min rfl rfl) rfl rfl rfl (fun _ _ _ h => h) (.cons .here rfl (.cons (.there .here) rfl (.cons (.there .here) rfl .nil))) rfl ?_
        refine RunA.val (i := 14) rfl (by kernel_rfl) (by kernel_rfl) (Val.add rfl rfl (IntWalk.i64_in _ ⟨by omega, by omega⟩)) rfl rfl rfl (fun _ _ _ h => h) (.cons .here rfl (.cons (.there .here) rfl (.cons (.there .here) rfl .nil))) rfl ?_
        refine RunA.one (i := 15) (by kernel_rfl) (by kernel_rfl) ?_
        refine RunI.callX rfl (isCall_value rfl rfl ent_72) rfl rfl rfl (.there .here) (fun w hm => draw_calls l hl _ (by omega) _ (by omega) q b o cap _ _ w (hm.at (.tail _ (.head _))) (hm.at (.tail _ (.tail _ (.tail _ (.head _))))) (ne_of_T hm (.tail _ (.tail _ (.tail _ (.head _)))) (.tail _ (.head _)) (by decide)) (hS.ne (by decide) hm (.tail _ (.head _)) hlne) (hS.mono (by decide) hm (by simp))) (fun x100 hx100 => (RunK.toA (.cons .here rfl (.cons (.there .here) rfl (.cons (.there .here) rfl .nil))) (.cons .here rfl (.cons .here rfl (.cons .here rfl .nil))) rfl ?_))
        refine RunA.toB (by kernel_rfl) ?_
        refine RunB.one (i := 16) (by kernel_rfl) ?_
        refine RunI.val rfl (Val.add rfl rfl (IntWalk.i64_in _ ⟨by omega, by omega⟩)) rfl rfl rfl (RunK.toB ?_)
        refine RunB.one (i := 17) (by kernel_rfl) ?_
        refine RunI.val rfl (Val.pure rfl) rfl rfl rfl (RunK.toB ?_)
        refine RunB.done (by kernel_rfl) ?_
        refine RunE.next ?_
        refine RunC.seq ?_
        refine RunC.region ?_
        obtain ⟨z, hz⟩ : ∃ z, p0.near + x100 = z := ⟨_, rfl⟩
        rw [hz]
        have hz1 : p0.near ≤ z := by omega
        have hz2 : z ≤ p0.far := by omega
        refine RunL.val (Val.pure rfl) rfl rfl rfl ?_
        refine RunL.val (Val.pure rfl) rfl rfl rfl ?_
        refine RunL.val (Val.quo rfl rfl (by omega) (by omega) (IntWalk.i64_in _ (div_rng (by omega) (by omega) (by omega)))) rfl rfl rfl ?_
        refine RunL.val (Val.pure rfl) rfl rfl rfl ?_
        refine RunL.nil ?_
        refine RunE.next ?_
        refine RunC.seq ?_
        refine RunC.draw 7 fol_ (.cons .here rfl (.cons (.there .here) rfl (.cons (.there .here) rfl .nil))) ?_
        obtain ⟨s, hs⟩ : ∃ s, P / z = s := ⟨_, rfl⟩
        rw [hs]
        have hs0 : 0 ≤ s := by rw [← hs]; exact Int.ediv_nonneg (by omega) (by omega)
        have hs1 : s < 1001 := by rw [← hs, div_lt (by omega)]; omega
        refine RunA.val (i := 0) rfl (by kernel_rfl) (by kernel_rfl) (Val.load_one rfl (.tail _ (.head _)) ty_40 rfl) rfl rfl rfl (fun _ _ _ h => h) (.cons .here rfl (.cons (.there .here) rfl (.cons (.there .here) rfl .nil))) rfl ?_
        refine RunA.val (i := 3) rfl (by kernel_rfl) (by kernel_rfl) (Val.load_one rfl (.tail _ (.head _)) ty_40 rfl) rfl rfl rfl (fun _ _ _ h => h) (.cons .here rfl (.cons (.there .here) rfl (.cons (.there .here) rfl .nil))) rfl ?_
        refine RunA.one (i := 1) (by kernel_rfl) (by kernel_rfl) ?_
        refine RunI.callX rfl (isCall_value rfl rfl ent_72) rfl rfl rfl (.there .here) (fun w hm => draw_calls l hl _ (by omega) _ (by omega) q b o cap _ _ w (hm.at (.tail _ (.head _))) (hm.at (.tail _ (.tail _ (.tail _ (.head _))))) (ne_of_T hm (.tail _ (.tail _ (.tail _ (.head _)))) (.tail _ (.head _)) (by decide)) (hS.ne (by decide) hm (.tail _ (.head _)) hlne) (hS.mono (by decide) hm (by simp))) (fun x106 hx106 => (RunK.toA (.cons .here rfl (.cons (.there .here) rfl (.cons (.there .here) rfl .nil))) (.cons .here rfl (.cons .here rfl (.cons .here rfl .nil))) rfl ?_))
        refine RunA.val (i := 2) rfl (by kernel_rfl) (by kernel_rfl) (Val.sub' rfl rfl (IntWalk.i64_in _ ⟨by omega, by omega⟩)) rfl rfl rfl (fun _ _ _ h => h) (.cons .here rfl (.cons (.there .here) rfl (.cons (.there .here) rfl .nil))) rfl ?_
        refine RunA.one (i := 4) (by kernel_rfl) (by kernel_rfl) ?_
        refine RunI.callX rfl (isCall_value rfl rfl ent_72) rfl rfl rfl (.there .here) (fun w hm => draw_calls l hl _ (by omega) _ (by omega) q b o cap _ _ w (hm.at (.tail _ (.head _))) (hm.at (.tail _ (.tail _ (.tail _ (.head _))))) (ne_of_T hm (.tail _ (.tail _ (.tail _ (.head _)))) (.tail _ (.head _)) (by decide)) (hS.ne (by decide) hm (.tail _ (.head _)) hlne) (hS.mono (by decide) hm (by simp))) (fun x109 hx109 => (RunK.toA (.cons .here rfl (.cons (.there .here) rfl (.cons (.there .here) rfl .nil))) (.cons .here rfl (.cons .here rfl (.cons .here rfl .nil))) rfl ?_))
        refine RunA.val (i := 5) rfl (by kernel_rfl) (by kernel_rfl) (Val.sub' rfl rfl (IntWalk.i64_in _ ⟨by omega, by omega⟩)) rfl rfl rfl (fun _ _ _ h => h) (.cons .here rfl (.cons (.there .here) rfl (.cons (.there .here) rfl .nil))) rfl ?_
        refine RunA.val (i := 6) rfl (by kernel_rfl) (by kernel_rfl) (Val.pure rfl) rfl rfl rfl (fun _ _ _ h => h) (.cons .here rfl (.cons (.there .here) rfl (.cons (.there .here) rfl .nil))) rfl ?_
        refine RunA.toB (by kernel_rfl) ?_
        refine RunB.one (i := 7) (by kernel_rfl) ?_
        refine RunI.val rfl (Val.pure rfl) rfl rfl rfl (RunK.toB ?_)
        refine RunB.done (by kernel_rfl) ?_
        refine RunE.next ?_
        refine RunC.seq ?_
        refine RunC.drawX (X := Nat × Th) 28 (n0 := [(b8, _), (b5, _), (b41.2, _)]) (fun y q => (18, .pointer (some ⟨y.1, 0, none⟩)) :: q) (fun y => []) (fun y => [(y.1, .cells [.int .i64 y.2.lx.lo, .int .i64 y.2.lx.hi, .int .i64 y.2.ly.lo, .int .i64 y.2.ly.hi, .int .i64 y.2.rx.lo, .int .i64 y.2.rx.hi, .int .i64 y.2.ry.lo, .int .i64 y.2.ry.hi, .int .i64 y.2.far].toArray 47 (0, 0)), (b41.1, .cells [.int .i64 ((x.1 + 1 + 1 + 1 + 1 + 1 + 1 + 1 + 1 + 1 + 1 + 1 + 1 + 1 : Nat) : Int)].toArray 3 (0, 0))]) (fun y => ownB 3 x.2.2.1 ((x.2.1.map (·.2.1)).map fun z => [Value.int .i64 z]).flatten ++ (ownB 47 x.2.2.2 ((x.2.1.map (·.1)).map Th.cells).flatten ++ [])) (fun y => Tru p0 P y.2 z false ∧ Tru p0 P { y.2 with far := z } z false ∧ y.2.far = 0) fol_ (.cons .here rfl (.cons (.there .here) rfl (.cons (.there .here) rfl .nil))) (Sub.cons (t := 0) rfl (Sub.cons (t := 1) rfl (Sub.cons (t := 4) rfl (Sub.cons (t := 5) rfl (Sub.cons (t := 8) rfl (Sub.cons (t := 9) rfl (Sub.cons (t := 10) rfl (Sub.cons (t := 11) rfl (Sub.cons (t := 12) rfl (Sub.cons (t := 13) rfl (Sub.cons (t := 14) rfl (Sub.cons (t := 15) rfl (Sub.cons (t := 81) rfl (Sub.cons (t := 82) rfl (Sub.nil _))))))))))))))) (.cons .here rfl (.cons (.there .here) rfl (.cons (.there .here) rfl .nil))) ?_ ?_
        · obtain ⟨x0, hx0⟩ : ∃ x0, x106 - 500 = x0 := ⟨_, rfl⟩
          obtain ⟨y0, hy0⟩ : ∃ y0, x109 - 500 = y0 := ⟨_, rfl⟩
          rw [hx0, hy0]
          refine RunA.val (i := 0) rfl (by kernel_rfl) (by kernel_rfl) (Val.pure rfl) rfl rfl rfl (fun _ _ _ h => h) (.cons .here rfl (.cons (.there .here) rfl (.cons (.there .here) rfl .nil))) rfl ?_
          refine RunA.val (i := 1) rfl (by kernel_rfl) (by kernel_rfl) (Val.pure rfl) rfl rfl rfl (fun _ _ _ h => h) (.cons .here rfl (.cons (.there .here) rfl (.cons (.there .here) rfl .nil))) rfl ?_
          refine RunA.val (i := 3) rfl (by kernel_rfl) (by kernel_rfl) (Val.pure rfl) rfl rfl rfl (fun _ _ _ h => h) (.cons .here rfl (.cons (.there .here) rfl (.cons (.there .here) rfl .nil))) rfl ?_
          refine RunA.val (i := 4) rfl (by kernel_rfl) (by kernel_rfl) (Val.pure rfl) rfl rfl rfl (fun _ _ _ h => h) (.cons .here rfl (.cons (.there .here) rfl (.cons (.there .here) rfl .nil))) rfl ?_
          refine RunA.val (i := 7) rfl (by kernel_rfl) (by kernel_rfl) (Val.pure rfl) rfl rfl rfl (fun _ _ _ h => h) (.cons .here rfl (.cons (.there .here) rfl (.cons (.there .here) rfl .nil))) rfl ?_
          refine RunA.val (i := 8) rfl (by kernel_rfl) (by kernel_rfl) (Val.pure rfl) rfl rfl rfl (fun _ _ _ h => h) (.cons .here rfl (.cons (.there .here) rfl (.cons (.there .here) rfl .nil))) rfl ?_
          refine RunA.val (i := 9) rfl (by kernel_rfl) (by kernel_rfl) (Val.pure rfl) rfl rfl rfl (fun _ _ _ h => h) (.cons .here rfl (.cons (.there .here) rfl (.cons (.there .here) rfl .nil))) rfl ?_
          refine RunA.val (i := 10) rfl (by kernel_rfl) (by kernel_rfl) (Val.sub' rfl rfl (IntWalk.i64_in _ ⟨by omega, by omega⟩)) rfl rfl rfl (fun _ _ _ h => h) (.cons .here rfl (.cons (.there .here) rfl (.cons (.there .here) rfl .nil))) rfl ?_
          refine RunA.val (i := 12) rfl (by kernel_rfl) (by kernel_rfl) (Val.pure rfl) rfl rfl rfl (fun _ _ _ h => h) (.cons .here rfl (.cons (.there .here) rfl (.cons (.there .here) rfl .nil))) rfl ?_
          refine RunA.val (i := 13) rfl (by kernel_rfl) (by kernel_rfl) (Val.pure rfl) rfl rfl rfl (fun _ _ _ h => h) (.cons .here rfl (.cons (.there .here) rfl (.cons (.there .here) rfl .nil))) rfl ?_
          refine RunA.val (i := 14) rfl (by kernel_rfl) (by kernel_rfl) (Val.load_one rfl (.tail _ (.head _)) ty_40 rfl) rfl rfl rfl (fun _ _ _ h => h) (.cons .here rfl (.cons (.there .here) rfl (.cons (.there .here) rfl .nil))) rfl ?_
          refine RunA.val (i := 15) rfl (by kernel_rfl) (by kernel_rfl) (Val.fieldAddr rfl fld_26_2) rfl rfl rfl (fun _ _ _ h => h) (.cons .here rfl (.cons (.there .here) rfl (.cons (.there .here) rfl .nil))) rfl ?_
          refine RunA.val (i := 16) rfl (by kernel_rfl) (by kernel_rfl) (Val.load_one rfl (.head _) ty_3 rfl) rfl rfl rfl (fun _ _ _ h => h) (.cons .here rfl (.cons (.there .here) rfl (.cons (.there .here) rfl .nil))) rfl ?_
          refine RunA.val (i := 17) rfl (by kernel_rfl) (by kernel_rfl) (Val.mul rfl rfl (IntWalk.i64_in _ ⟨by omega, by omega⟩)) rfl rfl rfl (fun _ _ _ h => h) (.cons .here rfl (.cons (.there .here) rfl (.cons (.there .here) rfl .nil))) rfl ?_
          refine RunA.val (i := 18) rfl (by kernel_rfl) (by kernel_rfl) (Val.add rfl rfl (IntWalk.i64_in _ ⟨by omega, by omega⟩)) rfl rfl rfl (fun _ _ _ h => h) (.cons .here rfl (.cons (.there .here) rfl (.cons (.there .here) rfl .nil))) rfl ?_
          refine RunA.val (i := 21) rfl (by kernel_rfl) (by kernel_rfl) (Val.fieldAddr rfl fld_26_2) rfl rfl rfl (fun _ _ _ h => h) (.cons .here rfl (.cons (.there .here) rfl (.cons (.there .here) rfl .nil))) rfl ?_
          refine RunA.val (i := 22) rfl (by kernel_rfl) (by kernel_rfl) (Val.load_one rfl (.head _) ty_3 rfl) rfl rfl rfl (fun _ _ _ h => h) (.cons .here rfl (.cons (.there .here) rfl (.cons (.there .here) rfl .nil))) rfl ?_
          refine RunA.all (rs := [2, 27]) (by kernel_rfl) (by simp) (by kernel_rfl) (fun m hm => ?_)
          simp only [List.mem_cons, List.not_mem_nil, or_false] at hm
          rcases hm with rfl | rfl
          · refine RunI.callX rfl (isCall_value rfl rfl ent_29) rfl rfl rfl (.there .here) (fun w hm => about_calls l hl _ _ (by omega) (by omega) _ (by omega) q b o cap _ _ _ w (hm.at (.tail _ (.head _))) (hm.at (.tail _ (.tail _ (.tail _ (.head _))))) (hm.at (.tail _ (.tail _ (.head _)))) (ne_of_T hm (.tail _ (.tail _ (.tail _ (.head _)))) (.tail _ (.head _)) (by decide)) (ne_of_T hm (.tail _ (.tail _ (.head _))) (.tail _ (.head _)) (by decide)) (hS.ne (by decide) hm (.tail _ (.head _)) hlne) (hS.mono (by decide) hm (by simp))) (fun x113 hx113 => (RunK.toA (.cons .here rfl (.cons (.there .here) rfl (.cons (.there .here) rfl .nil))) (.cons .here rfl (.cons .here rfl (.cons .here rfl .nil))) rfl ?_))
            refine RunA.all (rs := [5, 27]) (by kernel_rfl) (by simp) (by kernel_rfl) (fun m hm => ?_)
            simp only [List.mem_cons, List.not_mem_nil, or_false] at hm
            rcases hm with rfl | rfl
            · refine RunI.callX rfl (isCall_value rfl rfl ent_29) rfl rfl rfl (.there .here) (fun w hm => about_calls l hl _ _ (by omega) (by omega) _ (by omega) q b o cap _ _ _ w (hm.at (.tail _ (.head _))) (hm.at (.tail _ (.tail _ (.tail _ (.head _))))) (hm.at (.tail _ (.tail _ (.head _)))) (ne_of_T hm (.tail _ (.tail _ (.tail _ (.head _)))) (.tail _ (.head _)) (by decide)) (ne_of_T hm (.tail _ (.tail _ (.head _))) (.tail _ (.head _)) (by decide)) (hS.ne (by decide) hm (.tail _ (.head _)) hlne) (hS.mono (by decide) hm (by simp))) (fun x116 hx116 => (RunK.toA (.cons .here rfl (.cons (.there .here) rfl (.cons (.there .here) rfl .nil))) (.cons .here rfl (.cons .here rfl (.cons .here rfl .nil))) rfl ?_))
              refine RunA.val (i := 6) rfl (by kernel_rfl) (by kernel_rfl) (Val.build (parts := [(0, .tmp 113), (1, .tmp 116)]) rfl zero_45 places_45 rfl) rfl rfl rfl (fun _ _ _ h => h) (.cons .here rfl (.cons (.there .here) rfl (.cons (.there .here) rfl .nil))) rfl ?_
              refine RunA.all (rs := [11, 27]) (by kernel_rfl) (by simp) (by kernel_rfl) (fun m hm => ?_)
              simp only [List.mem_cons, List.not_mem_nil, or_false] at hm
              rcases hm with rfl | rfl
              · refine RunI.callX rfl (isCall_value rfl rfl ent_29) rfl rfl rfl (.there .here) (fun w hm => about_calls l hl _ _ (by omega) (by omega) _ (by omega) q b o cap _ _ _ w (hm.at (.tail _ (.head _))) (hm.at (.tail _ (.tail _ (.tail _ (.head _))))) (hm.at (.tail _ (.tail _ (.head _)))) (ne_of_T hm (.tail _ (.tail _ (.tail _ (.head _)))) (.tail _ (.head _)) (by decide)) (ne_of_T hm (.tail _ (.tail _ (.head _))) (.tail _ (.head _)) (by decide)) (hS.ne (by decide) hm (.tail _ (.head _)) hlne) (hS.mono (by decide) hm (by simp))) (fun x122 hx122 => (RunK.toA (.cons .here rfl (.cons (.there .here) rfl (.cons (.there .here) rfl .nil))) (.cons .here rfl (.cons .here rfl (.cons .here rfl .nil))) rfl ?_))
                refine RunA.all (rs := [19, 27]) (by kernel_rfl) (by simp) (by kernel_rfl) (fun m hm => ?_)
                simp only [List.mem_cons, List.not_mem_nil, or_false] at hm
                rcases hm with rfl | rfl
                · refine RunI.callX rfl (isCall_value rfl rfl ent_72) rfl rfl rfl (.there .here) (fun w hm => draw_calls l hl _ (by omega) _ (by omega) q b o cap _ _ w (hm.at (.tail _ (.head _))) (hm.at (.tail _ (.tail _ (.tail _ (.head _))))) (ne_of_T hm (.tail _ (.tail _ (.tail _ (.head _)))) (.tail _ (.head _)) (by decide)) (hS.ne (by decide) hm (.tail _ (.head _)) hlne) (hS.mono (by decide) hm (by simp))) (fun x130 hx130 => (RunK.toA (.cons .here rfl (.cons (.there .here) rfl (.cons (.there .here) rfl .nil))) (.cons .here rfl (.cons .here rfl (.cons .here rfl .nil))) rfl ?_))
                  refine RunA.val (i := 20) rfl (by kernel_rfl) (by kernel_rfl) (Val.add rfl rfl (IntWalk.i64_in _ ⟨by omega, by omega⟩)) rfl rfl rfl (fun _ _ _ h => h) (.cons .here rfl (.cons (.there .here) rfl (.cons (.there .here) rfl .nil))) rfl ?_
                  refine RunA.val (i := 23) rfl (by kernel_rfl) (by kernel_rfl) (Val.sub' rfl rfl (IntWalk.i64_in _ ⟨by omega, by omega⟩)) rfl rfl rfl (fun _ _ _ h => h) (.cons .here rfl (.cons (.there .here) rfl (.cons (.there .here) rfl .nil))) rfl ?_
                  refine RunA.all (rs := [24, 27]) (by kernel_rfl) (by simp) (by kernel_rfl) (fun m hm => ?_)
                  simp only [List.mem_cons, List.not_mem_nil, or_false] at hm
                  rcases hm with rfl | rfl
                  · refine RunI.callX rfl (isCall_value rfl rfl ent_29) rfl rfl rfl (.there .here) (fun w hm => about_calls l hl _ _ (by omega) (by omega) _ (by omega) q b o cap _ _ _ w (hm.at (.tail _ (.head _))) (hm.at (.tail _ (.tail _ (.tail _ (.head _))))) (hm.at (.tail _ (.tail _ (.head _)))) (ne_of_T hm (.tail _ (.tail _ (.tail _ (.head _)))) (.tail _ (.head _)) (by decide)) (ne_of_T hm (.tail _ (.tail _ (.head _))) (.tail _ (.head _)) (by decide)) (hS.ne (by decide) hm (.tail _ (.head _)) hlne) (hS.mono (by decide) hm (by simp))) (fun x135 hx135 => (RunK.toA (.cons .here rfl (.cons (.there .here) rfl (.cons (.there .here) rfl .nil))) (.cons .here rfl (.cons .here rfl (.cons .here rfl .nil))) rfl ?_))
                    refine RunA.val (i := 25) rfl (by kernel_rfl) (by kernel_rfl) (Val.build (parts := [(0, .tmp 122), (1, .tmp 135)]) rfl zero_45 places_45 rfl) rfl rfl rfl (fun _ _ _ h => h) (.cons .here rfl (.cons (.there .here) rfl (.cons (.there .here) rfl .nil))) rfl ?_
                    refine RunA.val (i := 26) rfl (by kernel_rfl) (by kernel_rfl) (Val.build (parts := [(0, .tmp 117), (1, .tmp 136)]) rfl zero_47 places_47 rfl) rfl rfl rfl (fun _ _ _ h => h) (.cons .here rfl (.cons (.there .here) rfl (.cons (.there .here) rfl .nil))) rfl ?_
                    refine RunA.one (i := 27) (by kernel_rfl) (by kernel_rfl) ?_
                    refine RunI.new rfl (New.alloc zero_47) rfl rfl rfl (fun b18 => (RunK.toA (.cons .here rfl (.cons .here rfl (.cons (.there .here) rfl (.cons (.there .here) rfl .nil)))) (.cons (.there .here) rfl (.cons (.there .here) rfl (.cons (.there .here) rfl .nil))) rfl ?_))
                    refine RunA.toB (by kernel_rfl) ?_
                    refine RunB.one (i := 28) (by kernel_rfl) ?_
                    refine RunI.sto rfl (Sto.store rfl rfl .here ty_47 rfl rfl) rfl rfl (RunK.toB ?_)
                    refine RunB.done (by kernel_rfl) ?_
                    have hT := tru_still (p := p0) (by omega) n1 ⟨hP1, hP2⟩ (x := x0) (y := y0) (by omega) (by omega) hz1 hz2 hs (d := x130) (by omega) hx113 hx116 hx122 hx135 (far := 0) (.inl rfl)
                    have hTz := tru_still (p := p0) (by omega) n1 ⟨hP1, hP2⟩ (x := x0) (y := y0) (by omega) (by omega) hz1 hz2 hs (d := x130) (by omega) hx113 hx116 hx122 hx135 (far := z) (.inr rfl)
                    exact RunE.joinX (b18, ⟨⟨x0 - x113.1, x0 + x113.2⟩, ⟨y0 - x116.1, y0 + x116.2⟩, ⟨x0 - s - x122.1, x0 - s + x122.2⟩, ⟨y0 + x130 - p0.tilt - x135.1, y0 + x130 - p0.tilt + x135.2⟩, 0⟩) ⟨hT, hTz, rfl⟩ rfl (Sub.consE (t := 18) rfl rfl (Sub.cons (t := 0) rfl (Sub.cons (t := 1) rfl (Sub.cons (t := 4) rfl (Sub.cons (t := 5) rfl (Sub.cons (t := 8) rfl (Sub.cons (t := 9) rfl (Sub.cons (t := 10) rfl (Sub.cons (t := 11) rfl (Sub.cons (t := 12) rfl (Sub.cons (t := 13) rfl (Sub.cons (t := 14) rfl (Sub.cons (t := 15) rfl (Sub.cons (t := 81) rfl (Sub.cons (t := 82) rfl (Sub.nil _)))))))))))))))) (.cons .here rfl (.cons (.there .here) rfl (.cons .here rfl (.cons .here rfl (.cons .here rfl (Pick.same rfl))))))
                  · refine RunI.new rfl (New.alloc zero_47) rfl rfl rfl (fun b18 => (RunK.toA (.cons .here rfl (.cons .here rfl (.cons (.there .here) rfl (.cons (.there .here) rfl .nil)))) (.cons (.there .here) rfl (.cons (.there .here) rfl (.cons (.there .here) rfl .nil))) rfl ?_))
                    refine RunA.one (i := 24) (by kernel_rfl) (by kernel_rfl) ?_
                    refine RunI.callX rfl (isCall_value rfl rfl ent_29) rfl rfl rfl (.there (.there .here)) (fun w hm => about_calls l hl _ _ (by omega) (by omega) _ (by omega) q b o cap _ _ _ w (hm.at (.tail _ (.tail _ (.head _)))) (hm.at (.tail _ (.tail _ (.tail _ (.tail _ (.head _)))))) (hm.at (.tail _ (.tail _ (.tail _ (.head _))))) (ne_of_T hm (.tail _ (.tail _ (.tail _ (.tail _ (.head _))))) (.tail _ (.tail _ (.head _))) (by decide)) (ne_of_T hm (.tail _ (.tail _ (.tail _ (.head _)))) (.tail _ (.tail _ (.head _))) (by decide)) (hS.ne (by decide) hm (.tail _ (.tail _ (.head _))) hlne) (hS.mono (by decide) hm (by simp))) (fun x135 hx135 => (RunK.toA (.cons .here rfl (.cons .here rfl (.cons (.there .here) rfl (.cons (.there .here) rfl .nil)))) (.cons .here rfl (.cons .here rfl (.cons .here rfl (.cons .here rfl .nil)))) rfl ?_))
                    refine RunA.val (i := 25) rfl (by kernel_rfl) (by kernel_rfl) (Val.build (parts := [(0, .tmp 122), (1, .tmp 135)]) rfl zero_45 places_45 rfl) rfl rfl rfl (fun _ _ _ h => h) (.cons .here rfl (.cons .here rfl (.cons (.there .here) rfl (.cons (.there .here) rfl .nil)))) rfl ?_
                    refine RunA.val (i := 26) rfl (by kernel_rfl) (by kernel_rfl) (Val.build (parts := [(0, .tmp 117), (1, .tmp 136)]) rfl zero_47 places_47 rfl) rfl rfl rfl (fun _ _ _ h => h) (.cons .here rfl (.cons .here rfl (.cons (.there .here) rfl (.cons (.there .here) rfl .nil)))) rfl ?_
                    refine RunA.toB (by kernel_rfl) ?_
                    refine RunB.one (i := 28) (by kernel_rfl) ?_
                    refine RunI.sto rfl (Sto.store rfl rfl .here ty_47 rfl rfl) rfl rfl (RunK.toB ?_)
                    refine RunB.done (by kernel_rfl) ?_
                    have hT := tru_still (p := p0) (by omega) n1 ⟨hP1, hP2⟩ (x := x0) (y := y0) (by omega) (by omega) hz1 hz2 hs (d := x130) (by omega) hx113 hx116 hx122 hx135 (far := 0) (.inl rfl)
                    have hTz := tru_still (p := p0) (by omega) n1 ⟨hP1, hP2⟩ (x := x0) (y := y0) (by omega) (by omega) hz1 hz2 hs (d := x130) (by omega) hx113 hx116 hx122 hx135 (far := z) (.inr rfl)
                    exact RunE.joinX (b18, ⟨⟨x0 - x113.1, x0 + x113.2⟩, ⟨y0 - x116.1, y0 + x116.2⟩, ⟨x0 - s - x122.1, x0 - s + x122.2⟩, ⟨y0 + x130 - p0.tilt - x135.1, y0 + x130 - p0.tilt + x135.2⟩, 0⟩) ⟨hT, hTz, rfl⟩ rfl (Sub.consE (t := 18) rfl rfl (Sub.cons (t := 0) rfl (Sub.cons (t := 1) rfl (Sub.cons (t := 4) rfl (Sub.cons (t := 5) rfl (Sub.cons (t := 8) rfl (Sub.cons (t := 9) rfl (Sub.cons (t := 10) rfl (Sub.cons (t := 11) rfl (Sub.cons (t := 12) rfl (Sub.cons (t := 13) rfl (Sub.cons (t := 14) rfl (Sub.cons (t := 15) rfl (Sub.cons (t := 81) rfl (Sub.cons (t := 82) rfl (Sub.nil _)))))))))))))))) (.cons .here rfl (.cons (.there .here) rfl (.cons .here rfl (.cons .here rfl (.cons .here rfl (Pick.same rfl))))))
                · refine RunI.new rfl (New.alloc zero_47) rfl rfl rfl (fun b18 => (RunK.toA (.cons .here rfl (.cons .here rfl (.cons (.there .here) rfl (.cons (.there .here) rfl .nil)))) (.cons (.there .here) rfl (.cons (.there .here) rfl (.cons (.there .here) rfl .nil))) rfl ?_))
                  refine RunA.one (i := 19) (by kernel_rfl) (by kernel_rfl) ?_
                  refine RunI.callX rfl (isCall_value rfl rfl ent_72) rfl rfl rfl (.there (.there .here)) (fun w hm => draw_calls l hl _ (by omega) _ (by omega) q b o cap _ _ w (hm.at (.tail _ (.tail _ (.head _)))) (hm.at (.tail _ (.tail _ (.tail _ (.tail _ (.head _)))))) (ne_of_T hm (.tail _ (.tail _ (.tail _ (.tail _ (.head _))))) (.tail _ (.tail _ (.head _))) (by decide)) (hS.ne (by decide) hm (.tail _ (.tail _ (.head _))) hlne) (hS.mono (by decide) hm (by simp))) (fun x130 hx130 => (RunK.toA (.cons .here rfl (.cons .here rfl (.cons (.there .here) rfl (.cons (.there .here) rfl .nil)))) (.cons .here rfl (.cons .here rfl (.cons .here rfl (.cons .here rfl .nil)))) rfl ?_))
                  refine RunA.val (i := 20) rfl (by kernel_rfl) (by kernel_rfl) (Val.add rfl rfl (IntWalk.i64_in _ ⟨by omega, by omega⟩)) rfl rfl rfl (fun _ _ _ h => h) (.cons .here rfl (.cons .here rfl (.cons (.there .here) rfl (.cons (.there .here) rfl .nil)))) rfl ?_
                  refine RunA.val (i := 23) rfl (by kernel_rfl) (by kernel_rfl) (Val.sub' rfl rfl (IntWalk.i64_in _ ⟨by omega, by omega⟩)) rfl rfl rfl (fun _ _ _ h => h) (.cons .here rfl (.cons .here rfl (.cons (.there .here) rfl (.cons (.there .here) rfl .nil)))) rfl ?_
                  refine RunA.one (i := 24) (by kernel_rfl) (by kernel_rfl) ?_
                  refine RunI.callX rfl (isCall_value rfl rfl ent_29) rfl rfl rfl (.there (.there .here)) (fun w hm => about_calls l hl _ _ (by omega) (by omega) _ (by omega) q b o cap _ _ _ w (hm.at (.tail _ (.tail _ (.head _)))) (hm.at (.tail _ (.tail _ (.tail _ (.tail _ (.head _)))))) (hm.at (.tail _ (.tail _ (.tail _ (.head _))))) (ne_of_T hm (.tail _ (.tail _ (.tail _ (.tail _ (.head _))))) (.tail _ (.tail _ (.head _))) (by decide)) (ne_of_T hm (.tail _ (.tail _ (.tail _ (.head _)))) (.tail _ (.tail _ (.head _))) (by decide)) (hS.ne (by decide) hm (.tail _ (.tail _ (.head _))) hlne) (hS.mono (by decide) hm (by simp))) (fun x135 hx135 => (RunK.toA (.cons .here rfl (.cons .here rfl (.cons (.there .here) rfl (.cons (.there .here) rfl .nil)))) (.cons .here rfl (.cons .here rfl (.cons .here rfl (.cons .here rfl .nil)))) rfl ?_))
                  refine RunA.val (i := 25) rfl (by kernel_rfl) (by kernel_rfl) (Val.build (parts := [(0, .tmp 122), (1, .tmp 135)]) rfl zero_45 places_45 rfl) rfl rfl rfl (fun _ _ _ h => h) (.cons .here rfl (.cons .here rfl (.cons (.there .here) rfl (.cons (.there .here) rfl .nil)))) rfl ?_
                  refine RunA.val (i := 26) rfl (by kernel_rfl) (by kernel_rfl) (Val.build (parts := [(0, .tmp 117), (1, .tmp 136)]) rfl zero_47 places_47 rfl) rfl rfl rfl (fun _ _ _ h => h) (.cons .here rfl (.cons .here rfl (.cons (.there .here) rfl (.cons (.there .here) rfl .nil)))) rfl ?_
                  refine RunA.toB (by kernel_rfl) ?_
                  refine RunB.one (i := 28) (by kernel_rfl) ?_
                  refine RunI.sto rfl (Sto.store rfl rfl .here ty_47 rfl rfl) rfl rfl (RunK.toB ?_)
                  refine RunB.done (by kernel_rfl) ?_
                  have hT := tru_still (p := p0) (by omega) n1 ⟨hP1, hP2⟩ (x := x0) (y := y0) (by omega) (by omega) hz1 hz2 hs (d := x130) (by omega) hx113 hx116 hx122 hx135 (far := 0) (.inl rfl)
                  have hTz := tru_still (p := p0) (by omega) n1 ⟨hP1, hP2⟩ (x := x0) (y := y0) (by omega) (by omega) hz1 hz2 hs (d := x130) (by omega) hx113 hx116 hx122 hx135 (far := z) (.inr rfl)
                  exact RunE.joinX (b18, ⟨⟨x0 - x113.1, x0 + x113.2⟩, ⟨y0 - x116.1, y0 + x116.2⟩, ⟨x0 - s - x122.1, x0 - s + x122.2⟩, ⟨y0 + x130 - p0.tilt - x135.1, y0 + x130 - p0.tilt + x135.2⟩, 0⟩) ⟨hT, hTz, rfl⟩ rfl (Sub.consE (t := 18) rfl rfl (Sub.cons (t := 0) rfl (Sub.cons (t := 1) rfl (Sub.cons (t := 4) rfl (Sub.cons (t := 5) rfl (Sub.cons (t := 8) rfl (Sub.cons (t := 9) rfl (Sub.cons (t := 10) rfl (Sub.cons (t := 11) rfl (Sub.cons (t := 12) rfl (Sub.cons (t := 13) rfl (Sub.cons (t := 14) rfl (Sub.cons (t := 15) rfl (Sub.cons (t := 81) rfl (Sub.cons (t := 82) rfl (Sub.nil _)))))))))))))))) (.cons .here rfl (.cons (.there .here) rfl (.cons .here rfl (.cons .here rfl (.cons .here rfl (Pick.same rfl))))))
              · refine RunI.new rfl (New.alloc zero_47) rfl rfl rfl (fun b18 => (RunK.toA (.cons .here rfl (.cons .here rfl (.cons (.there .here) rfl (.cons (.there .here) rfl .nil)))) (.cons (.there .here) rfl (.cons (.there .here) rfl (.cons (.there .here) rfl .nil))) rfl ?_))
                refine RunA.one (i := 11) (by kernel_rfl) (by kernel_rfl) ?_
                refine RunI.callX rfl (isCall_value rfl rfl ent_29) rfl rfl rfl (.there (.there .here)) (fun w hm => about_calls l hl _ _ (by omega) (by omega) _ (by omega) q b o cap _ _ _ w (hm.at (.tail _ (.tail _ (.head _)))) (hm.at (.tail _ (.tail _ (.tail _ (.tail _ (.head _)))))) (hm.at (.tail _ (.tail _ (.tail _ (.head _))))) (ne_of_T hm (.tail _ (.tail _ (.tail _ (.tail _ (.head _))))) (.tail _ (.tail _ (.head _))) (by decide)) (ne_of_T hm (.tail _ (.tail _ (.tail _ (.head _)))) (.tail _ (.tail _ (.head _))) (by decide)) (hS.ne (by decide) hm (.tail _ (.tail _ (.head _))) hlne) (hS.mono (by decide) hm (by simp))) (fun x122 hx122 => (RunK.toA (.cons .here rfl (.cons .here rfl (.cons (.there .here) rfl (.cons (.there .here) rfl .nil)))) (.cons .here rfl (.cons .here rfl (.cons .here rfl (.cons .here rfl .nil)))) rfl ?_))
                refine RunA.one (i := 19) (by kernel_rfl) (by kernel_rfl) ?_
                refine RunI.callX rfl (isCall_value rfl rfl ent_72) rfl rfl rfl (.there (.there .here)) (fun w hm => draw_calls l hl _ (by omega) _ (by omega) q b o cap _ _ w (hm.at (.tail _ (.tail _ (.head _)))) (hm.at (.tail _ (.tail _ (.tail _ (.tail _ (.head _)))))) (ne_of_T hm (.tail _ (.tail _ (.tail _ (.tail _ (.head _))))) (.tail _ (.tail _ (.head _))) (by decide)) (hS.ne (by decide) hm (.tail _ (.tail _ (.head _))) hlne) (hS.mono (by decide) hm (by simp))) (fun x130 hx130 => (RunK.toA (.cons .here rfl (.cons .here rfl (.cons (.there .here) rfl (.cons (.there .here) rfl .nil)))) (.cons .here rfl (.cons .here rfl (.cons .here rfl (.cons .here rfl .nil)))) rfl ?_))
                refine RunA.val (i := 20) rfl (by kernel_rfl) (by kernel_rfl) (Val.add rfl rfl (IntWalk.i64_in _ ⟨by omega, by omega⟩)) rfl rfl rfl (fun _ _ _ h => h) (.cons .here rfl (.cons .here rfl (.cons (.there .here) rfl (.cons (.there .here) rfl .nil)))) rfl ?_
                refine RunA.val (i := 23) rfl (by kernel_rfl) (by kernel_rfl) (Val.sub' rfl rfl (IntWalk.i64_in _ ⟨by omega, by omega⟩)) rfl rfl rfl (fun _ _ _ h => h) (.cons .here rfl (.cons .here rfl (.cons (.there .here) rfl (.cons (.there .here) rfl .nil)))) rfl ?_
                refine RunA.one (i := 24) (by kernel_rfl) (by kernel_rfl) ?_
                refine RunI.callX rfl (isCall_value rfl rfl ent_29) rfl rfl rfl (.there (.there .here)) (fun w hm => about_calls l hl _ _ (by omega) (by omega) _ (by omega) q b o cap _ _ _ w (hm.at (.tail _ (.tail _ (.head _)))) (hm.at (.tail _ (.tail _ (.tail _ (.tail _ (.head _)))))) (hm.at (.tail _ (.tail _ (.tail _ (.head _))))) (ne_of_T hm (.tail _ (.tail _ (.tail _ (.tail _ (.head _))))) (.tail _ (.tail _ (.head _))) (by decide)) (ne_of_T hm (.tail _ (.tail _ (.tail _ (.head _)))) (.tail _ (.tail _ (.head _))) (by decide)) (hS.ne (by decide) hm (.tail _ (.tail _ (.head _))) hlne) (hS.mono (by decide) hm (by simp))) (fun x135 hx135 => (RunK.toA (.cons .here rfl (.cons .here rfl (.cons (.there .here) rfl (.cons (.there .here) rfl .nil)))) (.cons .here rfl (.cons .here rfl (.cons .here rfl (.cons .here rfl .nil)))) rfl ?_))
                refine RunA.val (i := 25) rfl (by kernel_rfl) (by kernel_rfl) (Val.build (parts := [(0, .tmp 122), (1, .tmp 135)]) rfl zero_45 places_45 rfl) rfl rfl rfl (fun _ _ _ h => h) (.cons .here rfl (.cons .here rfl (.cons (.there .here) rfl (.cons (.there .here) rfl .nil)))) rfl ?_
                refine RunA.val (i := 26) rfl (by kernel_rfl) (by kernel_rfl) (Val.build (parts := [(0, .tmp 117), (1, .tmp 136)]) rfl zero_47 places_47 rfl) rfl rfl rfl (fun _ _ _ h => h) (.cons .here rfl (.cons .here rfl (.cons (.there .here) rfl (.cons (.there .here) rfl .nil)))) rfl ?_
                refine RunA.toB (by kernel_rfl) ?_
                refine RunB.one (i := 28) (by kernel_rfl) ?_
                refine RunI.sto rfl (Sto.store rfl rfl .here ty_47 rfl rfl) rfl rfl (RunK.toB ?_)
                refine RunB.done (by kernel_rfl) ?_
                have hT := tru_still (p := p0) (by omega) n1 ⟨hP1, hP2⟩ (x := x0) (y := y0) (by omega) (by omega) hz1 hz2 hs (d := x130) (by omega) hx113 hx116 hx122 hx135 (far := 0) (.inl rfl)
                have hTz := tru_still (p := p0) (by omega) n1 ⟨hP1, hP2⟩ (x := x0) (y := y0) (by omega) (by omega) hz1 hz2 hs (d := x130) (by omega) hx113 hx116 hx122 hx135 (far := z) (.inr rfl)
                exact RunE.joinX (b18, ⟨⟨x0 - x113.1, x0 + x113.2⟩, ⟨y0 - x116.1, y0 + x116.2⟩, ⟨x0 - s - x122.1, x0 - s + x122.2⟩, ⟨y0 + x130 - p0.tilt - x135.1, y0 + x130 - p0.tilt + x135.2⟩, 0⟩) ⟨hT, hTz, rfl⟩ rfl (Sub.consE (t := 18) rfl rfl (Sub.cons (t := 0) rfl (Sub.cons (t := 1) rfl (Sub.cons (t := 4) rfl (Sub.cons (t := 5) rfl (Sub.cons (t := 8) rfl (Sub.cons (t := 9) rfl (Sub.cons (t := 10) rfl (Sub.cons (t := 11) rfl (Sub.cons (t := 12) rfl (Sub.cons (t := 13) rfl (Sub.cons (t := 14) rfl (Sub.cons (t := 15) rfl (Sub.cons (t := 81) rfl (Sub.cons (t := 82) rfl (Sub.nil _)))))))))))))))) (.cons .here rfl (.cons (.there .here) rfl (.cons .here rfl (.cons .here rfl (.cons .here rfl (Pick.same rfl))))))
            · refine RunI.new rfl (New.alloc zero_47) rfl rfl rfl (fun b18 => (RunK.toA (.cons .here rfl (.cons .here rfl (.cons (.there .here) rfl (.cons (.there .here) rfl .nil)))) (.cons (.there .here) rfl (.cons (.there .here) rfl (.cons (.there .here) rfl .nil))) rfl ?_))
              refine RunA.one (i := 5) (by kernel_rfl) (by kernel_rfl) ?_
              refine RunI.callX rfl (isCall_value rfl rfl ent_29) rfl rfl rfl (.there (.there .here)) (fun w hm => about_calls l hl _ _ (by omega) (by omega) _ (by omega) q b o cap _ _ _ w (hm.at (.tail _ (.tail _ (.head _)))) (hm.at (.tail _ (.tail _ (.tail _ (.tail _ (.head _)))))) (hm.at (.tail _ (.tail _ (.tail _ (.head _))))) (ne_of_T hm (.tail _ (.tail _ (.tail _ (.tail _ (.head _))))) (.tail _ (.tail _ (.head _))) (by decide)) (ne_of_T hm (.tail _ (.tail _ (.tail _ (.head _)))) (.tail _ (.tail _ (.head _))) (by decide)) (hS.ne (by decide) hm (.tail _ (.tail _ (.head _))) hlne) (hS.mono (by decide) hm (by simp))) (fun x116 hx116 => (RunK.toA (.cons .here rfl (.cons .here rfl (.cons (.there .here) rfl (.cons (.there .here) rfl .nil)))) (.cons .here rfl (.cons .here rfl (.cons .here rfl (.cons .here rfl .nil)))) rfl ?_))
              refine RunA.val (i := 6) rfl (by kernel_rfl) (by kernel_rfl) (Val.build (parts := [(0, .tmp 113), (1, .tmp 116)]) rfl zero_45 places_45 rfl) rfl rfl rfl (fun _ _ _ h => h) (.cons .here rfl (.cons .here rfl (.cons (.there .here) rfl (.cons (.there .here) rfl .nil)))) rfl ?_
              refine RunA.one (i := 11) (by kernel_rfl) (by kernel_rfl) ?_
              refine RunI.callX rfl (isCall_value rfl rfl ent_29) rfl rfl rfl (.there (.there .here)) (fun w hm => about_calls l hl _ _ (by omega) (by omega) _ (by omega) q b o cap _ _ _ w (hm.at (.tail _ (.tail _ (.head _)))) (hm.at (.tail _ (.tail _ (.tail _ (.tail _ (.head _)))))) (hm.at (.tail _ (.tail _ (.tail _ (.head _))))) (ne_of_T hm (.tail _ (.tail _ (.tail _ (.tail _ (.head _))))) (.tail _ (.tail _ (.head _))) (by decide)) (ne_of_T hm (.tail _ (.tail _ (.tail _ (.head _)))) (.tail _ (.tail _ (.head _))) (by decide)) (hS.ne (by decide) hm (.tail _ (.tail _ (.head _))) hlne) (hS.mono (by decide) hm (by simp))) (fun x122 hx122 => (RunK.toA (.cons .here rfl (.cons .here rfl (.cons (.there .here) rfl (.cons (.there .here) rfl .nil)))) (.cons .here rfl (.cons .here rfl (.cons .here rfl (.cons .here rfl .nil)))) rfl ?_))
              refine RunA.one (i := 19) (by kernel_rfl) (by kernel_rfl) ?_
              refine RunI.callX rfl (isCall_value rfl rfl ent_72) rfl rfl rfl (.there (.there .here)) (fun w hm => draw_calls l hl _ (by omega) _ (by omega) q b o cap _ _ w (hm.at (.tail _ (.tail _ (.head _)))) (hm.at (.tail _ (.tail _ (.tail _ (.tail _ (.head _)))))) (ne_of_T hm (.tail _ (.tail _ (.tail _ (.tail _ (.head _))))) (.tail _ (.tail _ (.head _))) (by decide)) (hS.ne (by decide) hm (.tail _ (.tail _ (.head _))) hlne) (hS.mono (by decide) hm (by simp))) (fun x130 hx130 => (RunK.toA (.cons .here rfl (.cons .here rfl (.cons (.there .here) rfl (.cons (.there .here) rfl .nil)))) (.cons .here rfl (.cons .here rfl (.cons .here rfl (.cons .here rfl .nil)))) rfl ?_))
              refine RunA.val (i := 20) rfl (by kernel_rfl) (by kernel_rfl) (Val.add rfl rfl (IntWalk.i64_in _ ⟨by omega, by omega⟩)) rfl rfl rfl (fun _ _ _ h => h) (.cons .here rfl (.cons .here rfl (.cons (.there .here) rfl (.cons (.there .here) rfl .nil)))) rfl ?_
              refine RunA.val (i := 23) rfl (by kernel_rfl) (by kernel_rfl) (Val.sub' rfl rfl (IntWalk.i64_in _ ⟨by omega, by omega⟩)) rfl rfl rfl (fun _ _ _ h => h) (.cons .here rfl (.cons .here rfl (.cons (.there .here) rfl (.cons (.there .here) rfl .nil)))) rfl ?_
              refine RunA.one (i := 24) (by kernel_rfl) (by kernel_rfl) ?_
              refine RunI.callX rfl (isCall_value rfl rfl ent_29) rfl rfl rfl (.there (.there .here)) (fun w hm => about_calls l hl _ _ (by omega) (by omega) _ (by omega) q b o cap _ _ _ w (hm.at (.tail _ (.tail _ (.head _)))) (hm.at (.tail _ (.tail _ (.tail _ (.tail _ (.head _)))))) (hm.at (.tail _ (.tail _ (.tail _ (.head _))))) (ne_of_T hm (.tail _ (.tail _ (.tail _ (.tail _ (.head _))))) (.tail _ (.tail _ (.head _))) (by decide)) (ne_of_T hm (.tail _ (.tail _ (.tail _ (.head _)))) (.tail _ (.tail _ (.head _))) (by decide)) (hS.ne (by decide) hm (.tail _ (.tail _ (.head _))) hlne) (hS.mono (by decide) hm (by simp))) (fun x135 hx135 => (RunK.toA (.cons .here rfl (.cons .here rfl (.cons (.there .here) rfl (.cons (.there .here) rfl .nil)))) (.cons .here rfl (.cons .here rfl (.cons .here rfl (.cons .here rfl .nil)))) rfl ?_))
              refine RunA.val (i := 25) rfl (by kernel_rfl) (by kernel_rfl) (Val.build (parts := [(0, .tmp 122), (1, .tmp 135)]) rfl zero_45 places_45 rfl) rfl rfl rfl (fun _ _ _ h => h) (.cons .here rfl (.cons .here rfl (.cons (.there .here) rfl (.cons (.there .here) rfl .nil)))) rfl ?_
              refine RunA.val (i := 26) rfl (by kernel_rfl) (by kernel_rfl) (Val.build (parts := [(0, .tmp 117), (1, .tmp 136)]) rfl zero_47 places_47 rfl) rfl rfl rfl (fun _ _ _ h => h) (.cons .here rfl (.cons .here rfl (.cons (.there .here) rfl (.cons (.there .here) rfl .nil)))) rfl ?_
              refine RunA.toB (by kernel_rfl) ?_
              refine RunB.one (i := 28) (by kernel_rfl) ?_
              refine RunI.sto rfl (Sto.store rfl rfl .here ty_47 rfl rfl) rfl rfl (RunK.toB ?_)
              refine RunB.done (by kernel_rfl) ?_
              have hT := tru_still (p := p0) (by omega) n1 ⟨hP1, hP2⟩ (x := x0) (y := y0) (by omega) (by omega) hz1 hz2 hs (d := x130) (by omega) hx113 hx116 hx122 hx135 (far := 0) (.inl rfl)
              have hTz := tru_still (p := p0) (by omega) n1 ⟨hP1, hP2⟩ (x := x0) (y := y0) (by omega) (by omega) hz1 hz2 hs (d := x130) (by omega) hx113 hx116 hx122 hx135 (far := z) (.inr rfl)
              exact RunE.joinX (b18, ⟨⟨x0 - x113.1, x0 + x113.2⟩, ⟨y0 - x116.1, y0 + x116.2⟩, ⟨x0 - s - x122.1, x0 - s + x122.2⟩, ⟨y0 + x130 - p0.tilt - x135.1, y0 + x130 - p0.tilt + x135.2⟩, 0⟩) ⟨hT, hTz, rfl⟩ rfl (Sub.consE (t := 18) rfl rfl (Sub.cons (t := 0) rfl (Sub.cons (t := 1) rfl (Sub.cons (t := 4) rfl (Sub.cons (t := 5) rfl (Sub.cons (t := 8) rfl (Sub.cons (t := 9) rfl (Sub.cons (t := 10) rfl (Sub.cons (t := 11) rfl (Sub.cons (t := 12) rfl (Sub.cons (t := 13) rfl (Sub.cons (t := 14) rfl (Sub.cons (t := 15) rfl (Sub.cons (t := 81) rfl (Sub.cons (t := 82) rfl (Sub.nil _)))))))))))))))) (.cons .here rfl (.cons (.there .here) rfl (.cons .here rfl (.cons .here rfl (.cons .here rfl (Pick.same rfl))))))
          · refine RunI.new rfl (New.alloc zero_47) rfl rfl rfl (fun b18 => (RunK.toA (.cons .here rfl (.cons .here rfl (.cons (.there .here) rfl (.cons (.there .here) rfl .nil)))) (.cons (.there .here) rfl (.cons (.there .here) rfl (.cons (.there .here) rfl .nil))) rfl ?_))
            refine RunA.one (i := 2) (by kernel_rfl) (by kernel_rfl) ?_
            refine RunI.callX rfl (isCall_value rfl rfl ent_29) rfl rfl rfl (.there (.there .here)) (fun w hm => about_calls l hl _ _ (by omega) (by omega) _ (by omega) q b o cap _ _ _ w (hm.at (.tail _ (.tail _ (.head _)))) (hm.at (.tail _ (.tail _ (.tail _ (.tail _ (.head _)))))) (hm.at (.tail _ (.tail _ (.tail _ (.head _))))) (ne_of_T hm (.tail _ (.tail _ (.tail _ (.tail _ (.head _))))) (.tail _ (.tail _ (.head _))) (by decide)) (ne_of_T hm (.tail _ (.tail _ (.tail _ (.head _)))) (.tail _ (.tail _ (.head _))) (by decide)) (hS.ne (by decide) hm (.tail _ (.tail _ (.head _))) hlne) (hS.mono (by decide) hm (by simp))) (fun x113 hx113 => (RunK.toA (.cons .here rfl (.cons .here rfl (.cons (.there .here) rfl (.cons (.there .here) rfl .nil)))) (.cons .here rfl (.cons .here rfl (.cons .here rfl (.cons .here rfl .nil)))) rfl ?_))
            refine RunA.one (i := 5) (by kernel_rfl) (by kernel_rfl) ?_
            refine RunI.callX rfl (isCall_value rfl rfl ent_29) rfl rfl rfl (.there (.there .here)) (fun w hm => about_calls l hl _ _ (by omega) (by omega) _ (by omega) q b o cap _ _ _ w (hm.at (.tail _ (.tail _ (.head _)))) (hm.at (.tail _ (.tail _ (.tail _ (.tail _ (.head _)))))) (hm.at (.tail _ (.tail _ (.tail _ (.head _))))) (ne_of_T hm (.tail _ (.tail _ (.tail _ (.tail _ (.head _))))) (.tail _ (.tail _ (.head _))) (by decide)) (ne_of_T hm (.tail _ (.tail _ (.tail _ (.head _)))) (.tail _ (.tail _ (.head _))) (by decide)) (hS.ne (by decide) hm (.tail _ (.tail _ (.head _))) hlne) (hS.mono (by decide) hm (by simp))) (fun x116 hx116 => (RunK.toA (.cons .here rfl (.cons .here rfl (.cons (.there .here) rfl (.cons (.there .here) rfl .nil)))) (.cons .here rfl (.cons .here rfl (.cons .here rfl (.cons .here rfl .nil)))) rfl ?_))
            refine RunA.val (i := 6) rfl (by kernel_rfl) (by kernel_rfl) (Val.build (parts := [(0, .tmp 113), (1, .tmp 116)]) rfl zero_45 places_45 rfl) rfl rfl rfl (fun _ _ _ h => h) (.cons .here rfl (.cons .here rfl (.cons (.there .here) rfl (.cons (.there .here) rfl .nil)))) rfl ?_
            refine RunA.one (i := 11) (by kernel_rfl) (by kernel_rfl) ?_
            refine RunI.callX rfl (isCall_value rfl rfl ent_29) rfl rfl rfl (.there (.there .here)) (fun w hm => about_calls l hl _ _ (by omega) (by omega) _ (by omega) q b o cap _ _ _ w (hm.at (.tail _ (.tail _ (.head _)))) (hm.at (.tail _ (.tail _ (.tail _ (.tail _ (.head _)))))) (hm.at (.tail _ (.tail _ (.tail _ (.head _))))) (ne_of_T hm (.tail _ (.tail _ (.tail _ (.tail _ (.head _))))) (.tail _ (.tail _ (.head _))) (by decide)) (ne_of_T hm (.tail _ (.tail _ (.tail _ (.head _)))) (.tail _ (.tail _ (.head _))) (by decide)) (hS.ne (by decide) hm (.tail _ (.tail _ (.head _))) hlne) (hS.mono (by decide) hm (by simp))) (fun x122 hx122 => (RunK.toA (.cons .here rfl (.cons .here rfl (.cons (.there .here) rfl (.cons (.there .here) rfl .nil)))) (.cons .here rfl (.cons .here rfl (.cons .here rfl (.cons .here rfl .nil)))) rfl ?_))
            refine RunA.one (i := 19) (by kernel_rfl) (by kernel_rfl) ?_
            refine RunI.callX rfl (isCall_value rfl rfl ent_72) rfl rfl rfl (.there (.there .here)) (fun w hm => draw_calls l hl _ (by omega) _ (by omega) q b o cap _ _ w (hm.at (.tail _ (.tail _ (.head _)))) (hm.at (.tail _ (.tail _ (.tail _ (.tail _ (.head _)))))) (ne_of_T hm (.tail _ (.tail _ (.tail _ (.tail _ (.head _))))) (.tail _ (.tail _ (.head _))) (by decide)) (hS.ne (by decide) hm (.tail _ (.tail _ (.head _))) hlne) (hS.mono (by decide) hm (by simp))) (fun x130 hx130 => (RunK.toA (.cons .here rfl (.cons .here rfl (.cons (.there .here) rfl (.cons (.there .here) rfl .nil)))) (.cons .here rfl (.cons .here rfl (.cons .here rfl (.cons .here rfl .nil)))) rfl ?_))
            refine RunA.val (i := 20) rfl (by kernel_rfl) (by kernel_rfl) (Val.add rfl rfl (IntWalk.i64_in _ ⟨by omega, by omega⟩)) rfl rfl rfl (fun _ _ _ h => h) (.cons .here rfl (.cons .here rfl (.cons (.there .here) rfl (.cons (.there .here) rfl .nil)))) rfl ?_
            refine RunA.val (i := 23) rfl (by kernel_rfl) (by kernel_rfl) (Val.sub' rfl rfl (IntWalk.i64_in _ ⟨by omega, by omega⟩)) rfl rfl rfl (fun _ _ _ h => h) (.cons .here rfl (.cons .here rfl (.cons (.there .here) rfl (.cons (.there .here) rfl .nil)))) rfl ?_
            refine RunA.one (i := 24) (by kernel_rfl) (by kernel_rfl) ?_
            refine RunI.callX rfl (isCall_value rfl rfl ent_29) rfl rfl rfl (.there (.there .here)) (fun w hm => about_calls l hl _ _ (by omega) (by omega) _ (by omega) q b o cap _ _ _ w (hm.at (.tail _ (.tail _ (.head _)))) (hm.at (.tail _ (.tail _ (.tail _ (.tail _ (.head _)))))) (hm.at (.tail _ (.tail _ (.tail _ (.head _))))) (ne_of_T hm (.tail _ (.tail _ (.tail _ (.tail _ (.head _))))) (.tail _ (.tail _ (.head _))) (by decide)) (ne_of_T hm (.tail _ (.tail _ (.tail _ (.head _)))) (.tail _ (.tail _ (.head _))) (by decide)) (hS.ne (by decide) hm (.tail _ (.tail _ (.head _))) hlne) (hS.mono (by decide) hm (by simp))) (fun x135 hx135 => (RunK.toA (.cons .here rfl (.cons .here rfl (.cons (.there .here) rfl (.cons (.there .here) rfl .nil)))) (.cons .here rfl (.cons .here rfl (.cons .here rfl (.cons .here rfl .nil)))) rfl ?_))
            refine RunA.val (i := 25) rfl (by kernel_rfl) (by kernel_rfl) (Val.build (parts := [(0, .tmp 122), (1, .tmp 135)]) rfl zero_45 places_45 rfl) rfl rfl rfl (fun _ _ _ h => h) (.cons .here rfl (.cons .here rfl (.cons (.there .here) rfl (.cons (.there .here) rfl .nil)))) rfl ?_
            refine RunA.val (i := 26) rfl (by kernel_rfl) (by kernel_rfl) (Val.build (parts := [(0, .tmp 117), (1, .tmp 136)]) rfl zero_47 places_47 rfl) rfl rfl rfl (fun _ _ _ h => h) (.cons .here rfl (.cons .here rfl (.cons (.there .here) rfl (.cons (.there .here) rfl .nil)))) rfl ?_
            refine RunA.toB (by kernel_rfl) ?_
            refine RunB.one (i := 28) (by kernel_rfl) ?_
            refine RunI.sto rfl (Sto.store rfl rfl .here ty_47 rfl rfl) rfl rfl (RunK.toB ?_)
            refine RunB.done (by kernel_rfl) ?_
            have hT := tru_still (p := p0) (by omega) n1 ⟨hP1, hP2⟩ (x := x0) (y := y0) (by omega) (by omega) hz1 hz2 hs (d := x130) (by omega) hx113 hx116 hx122 hx135 (far := 0) (.inl rfl)
            have hTz := tru_still (p := p0) (by omega) n1 ⟨hP1, hP2⟩ (x := x0) (y := y0) (by omega) (by omega) hz1 hz2 hs (d := x130) (by omega) hx113 hx116 hx122 hx135 (far := z) (.inr rfl)
            exact RunE.joinX (b18, ⟨⟨x0 - x113.1, x0 + x113.2⟩, ⟨y0 - x116.1, y0 + x116.2⟩, ⟨x0 - s - x122.1, x0 - s + x122.2⟩, ⟨y0 + x130 - p0.tilt - x135.1, y0 + x130 - p0.tilt + x135.2⟩, 0⟩) ⟨hT, hTz, rfl⟩ rfl (Sub.consE (t := 18) rfl rfl (Sub.cons (t := 0) rfl (Sub.cons (t := 1) rfl (Sub.cons (t := 4) rfl (Sub.cons (t := 5) rfl (Sub.cons (t := 8) rfl (Sub.cons (t := 9) rfl (Sub.cons (t := 10) rfl (Sub.cons (t := 11) rfl (Sub.cons (t := 12) rfl (Sub.cons (t := 13) rfl (Sub.cons (t := 14) rfl (Sub.cons (t := 15) rfl (Sub.cons (t := 81) rfl (Sub.cons (t := 82) rfl (Sub.nil _)))))))))))))))) (.cons .here rfl (.cons (.there .here) rfl (.cons .here rfl (.cons .here rfl (.cons .here rfl (Pick.same rfl))))))
        · intro y yI
          obtain ⟨b18, tt⟩ := y
          obtain ⟨hT, hTz, hT0⟩ := yI
          dsimp only at hT hTz hT0 ⊢
          refine RunE.next ?_
          refine RunC.seqJ (X := Nat × Th × Bool) (n0 := [(b8, _), (b5, _), (b41.2, _)]) (fun y q => (12, .int .i64 ((if y.2.2 then mvK x.2.1 k ||| 2 ^ k else mvK x.2.1 k : Nat) : Int)) :: q) (fun y => []) (fun y => [(b18, .cells y.2.1.cells.toArray 47 (0, 0)), (b41.1, .cells [.int .i64 (y.1 : Int)].toArray 3 (0, 0))]) (fun y => ownB 3 x.2.2.1 ((x.2.1.map (·.2.1)).map fun z => [Value.int .i64 z]).flatten ++ (ownB 47 x.2.2.2 ((x.2.1.map (·.1)).map Th.cells).flatten ++ [])) (fun y => y.1 ≤ x.1 + 20 ∧ Tru p0 P y.2.1 z y.2.2) (Sub.cons (t := 0) rfl (Sub.cons (t := 1) rfl (Sub.cons (t := 4) rfl (Sub.cons (t := 5) rfl (Sub.cons (t := 8) rfl (Sub.cons (t := 9) rfl (Sub.cons (t := 10) rfl (Sub.cons (t := 11) rfl (Sub.cons (t := 13) rfl (Sub.cons (t := 14) rfl (Sub.cons (t := 18) rfl (Sub.cons (t := 81) rfl (Sub.cons (t := 82) rfl (Sub.nil _)))))))))))))) (.cons (.there (.there .here)) rfl (.cons (.there (.there .here)) rfl (.cons (.there (.there .here)) rfl .nil))) ?_ ?_
          · refine RunC.seq ?_
            refine RunC.region ?_
            refine RunL.val (Val.load_one rfl (.tail _ (.tail _ (.tail _ (.head _)))) ty_40 rfl) rfl rfl rfl ?_
            refine RunL.callX (isCall_value rfl rfl ent_72) rfl rfl rfl (.there .here) (fun w hm => draw_calls l hl _ (by omega) _ (by omega) q b o cap _ _ w (hm.at (.tail _ (.head _))) (hm.at (.tail _ (.tail _ (.tail _ (.tail _ (.head _)))))) (ne_of_T hm (.tail _ (.tail _ (.tail _ (.tail _ (.head _))))) (.tail _ (.head _)) (by decide)) (hS.ne (by decide) hm (.tail _ (.head _)) hlne) (hS.mono (by decide) hm (by simp))) (fun x139 hx139 => ?_)
            refine RunL.nil ?_
            refine RunE.next ?_
            refine RunC.block ?_
            refine RunC.seq ?_
            refine RunC.region ?_
            refine RunL.val (Val.pure rfl) rfl rfl rfl ?_
            refine RunL.val (Val.pure rfl) rfl rfl rfl ?_
            refine RunL.nil ?_
            refine RunE.next ?_
            refine RunC.cond rfl ?_ ?_
            · intro c2
              have c2' := c2; clear c2
              try simp only [decide_eq_true_eq, decide_eq_false_iff_not, Bool.not_eq_true', Bool.not_eq_false', Bool.and_eq_true, Bool.or_eq_true, Bool.and_eq_false_iff, Bool.or_eq_false_iff, Int.not_le, Int.not_lt] at c2'
              refine RunC.region ?_
              refine RunL.val (Val.pure rfl) rfl rfl rfl ?_
              refine RunL.val (Val.fieldAddr rfl fld_47_2) rfl rfl rfl ?_
              refine RunL.sto (Sto.store rfl rfl .here ty_3 rfl rfl) rfl rfl ?_
              refine RunL.nil ?_
              refine RunE.block_normal ?_
              exact RunE.meet (x.1 + 1 + 1 + 1 + 1 + 1 + 1 + 1 + 1 + 1 + 1 + 1 + 1 + 1 + 1, { tt with far := z }, false) ⟨by simp only; omega, hTz⟩ rfl (Sub.consE (t := 12) rfl rfl (Sub.cons (t := 0) rfl (Sub.cons (t := 1) rfl (Sub.cons (t := 4) rfl (Sub.cons (t := 5) rfl (Sub.cons (t := 8) rfl (Sub.cons (t := 9) rfl (Sub.cons (t := 10) rfl (Sub.cons (t := 11) rfl (Sub.cons (t := 13) rfl (Sub.cons (t := 14) rfl (Sub.cons (t := 18) rfl (Sub.cons (t := 81) rfl (Sub.cons (t := 82) rfl (Sub.nil _))))))))))))))) (.cons .here rfl (.cons .here rfl (.cons .here rfl (.cons .here rfl (.cons .here rfl (Pick.same rfl))))))
            · intro c2
              have c2' := c2; clear c2
              try simp only [decide_eq_true_eq, decide_eq_false_iff_not, Bool.not_eq_true', Bool.not_eq_false', Bool.and_eq_true, Bool.or_eq_true, Bool.and_eq_false_iff, Bool.or_eq_false_iff, Int.not_le, Int.not_lt] at c2'
              refine RunC.seq ?_
              refine RunC.region ?_
              refine RunL.val (Val.pure rfl) rfl rfl rfl ?_
              refine RunL.val (Val.pure rfl) rfl rfl rfl ?_
              refine RunL.nil ?_
              refine RunE.next ?_
              refine RunC.cond rfl ?_ ?_
              · intro c3
                have c3' := c3; clear c3
                try simp only [decide_eq_true_eq, decide_eq_false_iff_not, Bool.not_eq_true', Bool.not_eq_false', Bool.and_eq_true, Bool.or_eq_true, Bool.and_eq_false_iff, Bool.or_eq_false_iff, Int.not_le, Int.not_lt] at c3'
                refine RunC.seq ?_
                refine RunC.draw 9 fol_ (.cons .here rfl (.cons (.there .here) rfl (.cons (.there .here) rfl (.cons (.there .here) rfl .nil)))) ?_
                refine RunA.val (i := 0) rfl (by kernel_rfl) (by kernel_rfl) (Val.pure rfl) rfl rfl rfl (fun _ _ _ h => h) (.cons .here rfl (.cons (.there .here) rfl (.cons (.there .here) rfl (.cons (.there .here) rfl .nil)))) rfl ?_
                refine RunA.val (i := 1) rfl (by kernel_rfl) (by kernel_rfl) (Val.load_one rfl (.tail _ (.tail _ (.head _))) ty_40 rfl) rfl rfl rfl (fun _ _ _ h => h) (.cons .here rfl (.cons (.there .here) rfl (.cons (.there .here) rfl (.cons (.there .here) rfl .nil)))) rfl ?_
                refine RunA.val (i := 5) rfl (by kernel_rfl) (by kernel_rfl) (Val.pure rfl) rfl rfl rfl (fun _ _ _ h => h) (.cons .here rfl (.cons (.there .here) rfl (.cons (.there .here) rfl (.cons (.there .here) rfl .nil)))) rfl ?_
                refine RunA.val (i := 6) rfl (by kernel_rfl) (by kernel_rfl) (Val.load_one rfl (.tail _ (.tail _ (.head _))) ty_40 rfl) rfl rfl rfl (fun _ _ _ h => h) (.cons .here rfl (.cons (.there .here) rfl (.cons (.there .here) rfl (.cons (.there .here) rfl .nil)))) rfl ?_
                refine RunA.one (i := 2) (by kernel_rfl) (by kernel_rfl) ?_
                refine RunI.callX rfl (isCall_value rfl rfl ent_72) rfl rfl rfl (.there .here) (fun w hm => draw_calls l hl _ (by omega) _ (by omega) q b o cap _ _ w (hm.at (.tail _ (.head _))) (hm.at (.tail _ (.tail _ (.tail _ (.tail _ (.head _)))))) (ne_of_T hm (.tail _ (.tail _ (.tail _ (.tail _ (.head _))))) (.tail _ (.head _)) (by decide)) (hS.ne (by decide) hm (.tail _ (.head _)) hlne) (hS.mono (by decide) hm (by simp))) (fun x148 hx148 => (RunK.toA (.cons .here rfl (.cons (.there .here) rfl (.cons (.there .here) rfl (.cons (.there .here) rfl .nil)))) (.cons .here rfl (.cons .here rfl (.cons .here rfl (.cons .here rfl .nil)))) rfl ?_))
                refine RunA.val (i := 3) rfl (by kernel_rfl) (by kernel_rfl) (Val.sub' rfl rfl (IntWalk.i64_in _ ⟨by omega, by omega⟩)) rfl rfl rfl (fun _ _ _ h => h) (.cons .here rfl (.cons (.there .here) rfl (.cons (.there .here) rfl (.cons (.there .here) rfl .nil)))) rfl ?_
                refine RunA.one (i := 4) (by kernel_rfl) (by kernel_rfl) ?_
                refine RunI.callX rfl (isCall_value rfl rfl ent_29) rfl rfl rfl (.there .here) (fun w hm => about_calls l hl _ _ (by omega) (by omega) _ (by omega) q b o cap _ _ _ w (hm.at (.tail _ (.head _))) (hm.at (.tail _ (.tail _ (.tail _ (.tail _ (.head _)))))) (hm.at (.tail _ (.tail _ (.tail _ (.head _))))) (ne_of_T hm (.tail _ (.tail _ (.tail _ (.tail _ (.head _))))) (.tail _ (.head _)) (by decide)) (ne_of_T hm (.tail _ (.tail _ (.tail _ (.head _)))) (.tail _ (.head _)) (by decide)) (hS.ne (by decide) hm (.tail _ (.head _)) hlne) (hS.mono (by decide) hm (by simp))) (fun x150 hx150 => (RunK.toA (.cons .here rfl (.cons (.there .here) rfl (.cons (.there .here) rfl (.cons (.there .here) rfl .nil)))) (.cons .here rfl (.cons .here rfl (.cons .here rfl (.cons .here rfl .nil)))) rfl ?_))
                refine RunA.one (i := 7) (by kernel_rfl) (by kernel_rfl) ?_
                refine RunI.callX rfl (isCall_value rfl rfl ent_72) rfl rfl rfl (.there .here) (fun w hm => draw_calls l hl _ (by omega) _ (by omega) q b o cap _ _ w (hm.at (.tail _ (.head _))) (hm.at (.tail _ (.tail _ (.tail _ (.tail _ (.head _)))))) (ne_of_T hm (.tail _ (.tail _ (.tail _ (.tail _ (.head _))))) (.tail _ (.head _)) (by decide)) (hS.ne (by decide) hm (.tail _ (.head _)) hlne) (hS.mono (by decide) hm (by simp))) (fun x153 hx153 => (RunK.toA (.cons .here rfl (.cons (.there .here) rfl (.cons (.there .here) rfl (.cons (.there .here) rfl .nil)))) (.cons .here rfl (.cons .here rfl (.cons .here rfl (.cons .here rfl .nil)))) rfl ?_))
                refine RunA.val (i := 8) rfl (by kernel_rfl) (by kernel_rfl) (Val.sub' rfl rfl (IntWalk.i64_in _ ⟨by omega, by omega⟩)) rfl rfl rfl (fun _ _ _ h => h) (.cons .here rfl (.cons (.there .here) rfl (.cons (.there .here) rfl (.cons (.there .here) rfl .nil)))) rfl ?_
                refine RunA.toB (by kernel_rfl) ?_
                refine RunB.one (i := 9) (by kernel_rfl) ?_
                refine RunI.callX rfl (isCall_value rfl rfl ent_29) rfl rfl rfl (.there .here) (fun w hm => about_calls l hl _ _ (by omega) (by omega) _ (by omega) q b o cap _ _ _ w (hm.at (.tail _ (.head _))) (hm.at (.tail _ (.tail _ (.tail _ (.tail _ (.head _)))))) (hm.at (.tail _ (.tail _ (.tail _ (.head _))))) (ne_of_T hm (.tail _ (.tail _ (.tail _ (.tail _ (.head _))))) (.tail _ (.head _)) (by decide)) (ne_of_T hm (.tail _ (.tail _ (.tail _ (.head _)))) (.tail _ (.head _)) (by decide)) (hS.ne (by decide) hm (.tail _ (.head _)) hlne) (hS.mono (by decide) hm (by simp))) (fun x155 hx155 => (RunK.toB ?_))
                refine RunB.one (i := 10) (by kernel_rfl) ?_
                refine RunI.val rfl (Val.build (parts := [(0, .tmp 150), (1, .tmp 155)]) rfl zero_45 places_45 rfl) rfl rfl rfl (RunK.toB ?_)
                refine RunB.one (i := 11) (by kernel_rfl) ?_
                refine RunI.val rfl (Val.fieldAddr rfl fld_47_1) rfl rfl rfl (RunK.toB ?_)
                refine RunB.one (i := 12) (by kernel_rfl) ?_
                refine RunI.sto rfl (Sto.store rfl rfl .here ty_45 rfl rfl) rfl rfl (RunK.toB ?_)
                refine RunB.done (by kernel_rfl) ?_
                refine RunE.next ?_
                refine RunC.region ?_
                refine RunL.val (Val.pure rfl) rfl rfl rfl ?_
                refine RunL.val (Val.pure rfl) rfl rfl rfl ?_
                refine RunL.val (Val.shl1 (b := k) rfl rfl (by show k ≤ 64; omega) (i64_inN (n := 2 ^ k) (by have : 2 ^ k ≤ 2 ^ 12 := Nat.pow_le_pow_right (by omega) (by omega); omega))) rfl rfl rfl ?_
                refine RunL.val (Val.or (a := mvK x.2.1 k) (b := 2 ^ k) rfl rfl (by have := mvK_lt x.2.1 k; have : 2 ^ k ≤ 2 ^ 12 := Nat.pow_le_pow_right (by omega) (by omega); show _ < 18446744073709551616; omega) (by have : 2 ^ k ≤ 2 ^ 12 := Nat.pow_le_pow_right (by omega) (by omega); show _ < 18446744073709551616; omega) (i64_inN (Nat.lt_of_lt_of_le (Nat.or_lt_two_pow (n := 13) (by have := mvK_lt x.2.1 k; have : 2 ^ k ≤ 2 ^ 12 := Nat.pow_le_pow_right (by omega) (by omega); omega) (by have : 2 ^ k ≤ 2 ^ 12 := Nat.pow_le_pow_right (by omega) (by omega); omega)) (by decide)))) rfl rfl rfl ?_
                refine RunL.val (Val.pure rfl) rfl rfl rfl ?_
                refine RunL.nil ?_
                refine RunE.block_normal ?_
                exact RunE.meet (x.1 + 1 + 1 + 1 + 1 + 1 + 1 + 1 + 1 + 1 + 1 + 1 + 1 + 1 + 1 + 1 + 1 + 1 + 1 + 1 + 1, { tt with rx := ⟨x148 - 500 - x150.1, x148 - 500 + x150.2⟩, ry := ⟨x153 - 500 - x155.1, x153 - 500 + x155.2⟩ }, true) ⟨by simp only; omega, tru_moved ⟨hT.ok.1, hT.ok.2.1⟩ hT0 hz1 hz2 (by omega) (by omega) hx150 hx155⟩ rfl (Sub.consE (t := 12) rfl rfl (Sub.cons (t := 0) rfl (Sub.cons (t := 1) rfl (Sub.cons (t := 4) rfl (Sub.cons (t := 5) rfl (Sub.cons (t := 8) rfl (Sub.cons (t := 9) rfl (Sub.cons (t := 10) rfl (Sub.cons (t := 11) rfl (Sub.cons (t := 13) rfl (Sub.cons (t := 14) rfl (Sub.cons (t := 18) rfl (Sub.cons (t := 81) rfl (Sub.cons (t := 82) rfl (Sub.nil _))))))))))))))) (.cons .here rfl (.cons .here rfl (.cons .here rfl (.cons .here rfl (.cons .here rfl (Pick.same rfl))))))
              · intro c3
                have c3' := c3; clear c3
                try simp only [decide_eq_true_eq, decide_eq_false_iff_not, Bool.not_eq_true', Bool.not_eq_false', Bool.and_eq_true, Bool.or_eq_true, Bool.and_eq_false_iff, Bool.or_eq_false_iff, Int.not_le, Int.not_lt] at c3'
                refine RunC.skip ?_
                refine RunE.block_normal ?_
                exact RunE.meet (x.1 + 1 + 1 + 1 + 1 + 1 + 1 + 1 + 1 + 1 + 1 + 1 + 1 + 1 + 1, tt, false) ⟨by simp only; omega, hT⟩ rfl (Sub.consE (t := 12) rfl rfl (Sub.cons (t := 0) rfl (Sub.cons (t := 1) rfl (Sub.cons (t := 4) rfl (Sub.cons (t := 5) rfl (Sub.cons (t := 8) rfl (Sub.cons (t := 9) rfl (Sub.cons (t := 10) rfl (Sub.cons (t := 11) rfl (Sub.cons (t := 13) rfl (Sub.cons (t := 14) rfl (Sub.cons (t := 18) rfl (Sub.cons (t := 81) rfl (Sub.cons (t := 82) rfl (Sub.nil _))))))))))))))) (.cons .here rfl (.cons .here rfl (.cons .here rfl (.cons .here rfl (.cons .here rfl (Pick.same rfl))))))
          · intro y yI
            obtain ⟨hya, hyT⟩ := yI
            refine RunC.seq ?_
            refine RunC.region ?_
            refine RunL.val (Val.pure rfl) rfl rfl rfl ?_
            refine RunL.val (Val.pure rfl) rfl rfl rfl ?_
            refine RunL.new (New.buildSlice (parts := [(0, .tmp 163)]) rfl sl_43 zero_3 rfl rfl rfl rfl) rfl rfl rfl (fun b164 => ?_)
            refine RunL.append (A := [(b164, _), (b18, _), (b41.1, _), (b8, _), (b5, _), (b41.2, _)]) (B := _) (x := x.2.2.1) (ys := [.int .i64 z]) ap_43 rfl rfl rfl hx1 rfl (fun h => by cases h) (fun w hm => src_blk (hm.at (.head _))) (one_of rfl) (by simp only [maxLen]; omega) (by omega) rfl (fun z165 hz165 => ?_)
            refine RunL.val (Val.pure rfl) rfl rfl rfl ?_
            refine RunL.nil ?_
            refine RunE.next ?_
            refine RunC.region ?_
            obtain ⟨bz165, cz165, rz165, rfl, lz1651, lz1652, lz1653⟩ := hz165.has (by omega)
            refine RunL.val (Val.fieldAddr rfl fld_26_5) rfl rfl rfl ?_
            refine RunL.val (Val.load_one rfl (.tail _ (.tail _ (.tail _ (.head _)))) ty_24 rfl) rfl rfl rfl ?_
            refine RunL.val (Val.load_agg rfl (.tail _ (.head _)) ty_47 rfl) rfl rfl rfl ?_
            refine RunL.new (New.buildSlice (parts := [(0, .tmp 168)]) rfl sl_24 zero_47 rfl rfl rfl rfl) rfl rfl rfl (fun b169 => ?_)
            refine RunL.append (A := [(b169, _), (b164, _), (b18, _), (b41.1, _), (b8, _), (b5, _), (b41.2, _), (bz165, _)]) (B := _) (x := x.2.2.2) (ys := y.2.1.cells) ap_24 rfl rfl rfl hx2 rfl (fun h => by cases h) (fun w hm => src_blk (hm.at (.head _))) (one_of (th_one _)) (by simp only [maxLen]; omega) (by omega) rfl (fun z170 hz170 => ?_)
            obtain ⟨bz170, cz170, rz170, rfl, lz1701, lz1702, lz1703⟩ := hz170.has (by omega)
            refine RunL.val (Val.fieldAddr rfl fld_26_5) rfl rfl rfl ?_
            refine RunL.sto (Sto.store rfl rfl (.there (.there (.there (.there .here)))) ty_24 rfl rfl) rfl rfl ?_
            refine RunL.nil ?_
            refine RunE.block_normal ?_
            refine RunE.next ?_
            refine RunC.region ?_
            refine RunL.val (Val.add rfl rfl (IntWalk.i64_in _ ⟨by omega, by omega⟩)) rfl rfl rfl ?_
            refine RunL.val (Val.pure rfl) rfl rfl rfl ?_
            refine RunL.nil ?_
            exact RunE.roundX (y.1, x.2.1 ++ [(y.2.1, z, y.2.2)], (some (bz165, cz165, rz165)), (some (bz170, cz170, rz170))) (by omega) ⟨by simp [hxl], by simp only; omega, by simpa using hz165, by simpa using hz170, fun it hi => by rcases List.mem_append.1 hi with hi | hi; exact hxT it hi; obtain rfl := List.mem_singleton.1 hi; exact hyT⟩ rfl (Sub.consE (t := 82) rfl rfl (Sub.consE (t := 12) rfl (by show _ = Value.int .i64 ((mvK (x.2.1 ++ [(y.2.1, z, y.2.2)]) (k + 1) : Nat) : Int); rw [← hxl, mvK_snoc]) (Sub.consE (t := 11) rfl rfl (Sub.cons (t := 0) rfl (Sub.cons (t := 1) rfl (Sub.cons (t := 4) rfl (Sub.cons (t := 5) rfl (Sub.cons (t := 8) rfl (Sub.cons (t := 9) rfl (Sub.cons (t := 10) rfl (Sub.cons (t := 81) rfl (Sub.nil _)))))))))))) (.cons (.there (.there (.there (.there .here)))) rfl (.cons (.there (.there (.there .here))) rfl (.cons (.there (.there (.there .here))) rfl (.cons (.there (.there (.there .here))) rfl (.cons (.there (.there (.there .here))) (by simp) (.cons (.there (.there (.there .here))) (by simp) .nil))))))
      · intro c1
        have c1' := c1; clear c1
        try simp only [decide_eq_true_eq, decide_eq_false_iff_not, Bool.not_eq_true', Bool.not_eq_false', Bool.and_eq_true, Bool.or_eq_true, Bool.and_eq_false_iff, Bool.or_eq_false_iff, Int.not_le, Int.not_lt] at c1'
        obtain rfl : k = M := by omega
        obtain ⟨hxl, hxa, hx1, hx2, hxT⟩ := kI
        subst hxl
        have hT := truth_of hpO p0t hpP hP1 hP2 (its := x.2.1) (by omega) hxT
        have w1 : ownV x.2.2.1 x.2.1.length = .slice (ownQ x.2.2.1) x.2.1.length (ownC x.2.2.1) := ownV_slice hx1
        have w2 : ownV x.2.2.2 x.2.1.length = .slice (ownQ x.2.2.2) (x.2.1.map (·.1)).length (ownC x.2.2.2) := by rw [ownV_slice hx2]; simp
        simp only [w1, w2]
        have hSt : ∀ w : World, (∀ b o, (b, o) ∈ ownB 3 x.2.2.1 ((x.2.1.map (·.2.1)).map fun z => [Value.int .i64 z]).flatten ++ (ownB 47 x.2.2.2 ((x.2.1.map (·.1)).map Th.cells).flatten ++ []) → w.heap[b]? = some o) → Sl w (ownQ x.2.2.1) (ownK x.2.2.1) 0 1 ((x.2.1.map (·.2.1)).map fun z => [Value.int .i64 z]) := fun w hw => own_sl (sz := 1) (f := fun z => [Value.int .i64 z]) (fun _ => rfl) (by decide) hx1 (fun b o h => hw b o (List.mem_append_left _ h))
        have hSp : ∀ w : World, (∀ b o, (b, o) ∈ ownB 3 x.2.2.1 ((x.2.1.map (·.2.1)).map fun z => [Value.int .i64 z]).flatten ++ (ownB 47 x.2.2.2 ((x.2.1.map (·.1)).map Th.cells).flatten ++ []) → w.heap[b]? = some o) → Sl w (ownQ x.2.2.2) (ownK x.2.2.2) 0 9 ((x.2.1.map (·.1)).map Th.cells) := fun w hw => own_sl th_len (by decide) hx2 (fun b o h => hw b o (List.mem_append_right _ (List.mem_append_left _ h)))
        have hl2 : (x.2.1.map (·.1)).length ≤ 100000000000 := by simp; omega
        obtain ⟨m, hm0⟩ : ∃ m, bestS { p0 with things := x.2.1.map (·.1) } (allS { p0 with things := x.2.1.map (·.1) }) = m := ⟨_, rfl⟩
        have hfx : (fewestX { p0 with things := x.2.1.map (·.1) }).1 = (m : Int) := by rw [few_ok hT.ok hT.isB, hm0]
        have hmlt : m < 4096 := by rw [← hm0]; exact best_lt hT.ok hT.isB
        have hvlt := mvK_lt x.2.1 x.2.1.length
        have h2m : 2 ^ x.2.1.length ≤ 2 ^ 12 := Nat.pow_le_pow_right (by omega) (by omega)
        have hc1 := true_c1 hT hm0
        refine RunC.exit ?_
        refine RunE.pass_exit ?_
        refine RunE.pass_exit ?_
        refine RunE.block_here ?_
        refine RunE.next ?_
        refine RunC.seq ?_
        refine RunC.region ?_
        refine RunL.val (Val.load_agg rfl (.head _) ty_26 rfl) rfl rfl rfl ?_
        refine RunL.callP (isCall_func rfl ent_17) rfl rfl rfl (fun w hm => Power_calls { p0 with things := x.2.1.map (·.1) } _ _ 0 _ w (hSp w (fun b o h => hm.at (.tail _ (.tail _ (.tail _ (.tail _ (h))))))) hl2) ?_
        iterate 3 refine RunL.val (Val.pure rfl) rfl rfl rfl ?_
        refine RunL.new (New.alloc zero_23) rfl rfl rfl (fun b19 => ?_)
        refine RunL.sto (Sto.store rfl rfl .here ty_23 rfl rfl) rfl rfl ?_
        refine RunL.val (Val.pure rfl) rfl rfl rfl ?_
        refine RunL.nil ?_
        refine RunE.next ?_
        refine RunC.seq ?_
        refine RunC.region ?_
        refine RunL.val (Val.load_agg rfl (.tail _ (.head _)) ty_26 rfl) rfl rfl rfl ?_
        refine RunL.callP (isCall_func rfl ent_25) rfl rfl rfl (fun w hm => Fewest_calls { p0 with things := x.2.1.map (·.1) } _ _ 0 _ w (hSp w (fun b o h => hm.at (.tail _ (.tail _ (.tail _ (.tail _ (.tail _ (h)))))))) hl2) ?_
        iterate 4 refine RunL.val (Val.pure rfl) rfl rfl rfl ?_
        refine RunL.new (New.alloc zero_23) rfl rfl rfl (fun b22 => ?_)
        refine RunL.val (Val.pure rfl) rfl rfl rfl ?_
        refine RunL.sto (Sto.store rfl rfl .here ty_23 rfl rfl) rfl rfl ?_
        refine RunL.val (Val.pure rfl) rfl rfl rfl ?_
        refine RunL.nil ?_
        refine RunE.next ?_
        refine RunC.seq ?_
        refine RunC.seq ?_
        refine RunC.region ?_
        simp only [hfx]
        iterate 3 refine RunL.val (Val.pure rfl) rfl rfl rfl ?_
        refine RunL.orPart (dj := 186) (dp := 191) 5 rfl (fun g186 => by
          have g186' := g186
          try simp only [decide_eq_true_eq, decide_eq_false_iff_not, Bool.not_eq_true', Bool.not_eq_false', Bool.and_eq_true, Bool.or_eq_true, Bool.and_eq_false_iff, Bool.or_eq_false_iff, Int.not_le, Int.not_lt] at g186'
          refine RunL.val (Val.load_agg rfl (.tail _ (.head _)) ty_23 rfl) rfl rfl rfl ?_
          refine RunL.val (Val.pure rfl) rfl rfl rfl ?_
          refine RunL.callP (isCall_func rfl ent_30) rfl rfl rfl (fun w hm => linside_calls (_, _) _ w) ?_
          refine RunL.val (Val.pure rfl) rfl rfl rfl ?_
          refine RunL.val (Val.pure rfl) rfl rfl rfl ?_
          exact RunL.segEnd (Sub.cons rfl (Sub.skip rfl (Sub.skip rfl (Sub.skip rfl (Sub.skip rfl (Sub.skip rfl (Sub.same rfl (by rw [g186]) (Sub.refl _)))))))) (List.Sublist.refl _)
        ) (fun g186 => by
          have g186' := g186
          try simp only [decide_eq_true_eq, decide_eq_false_iff_not, Bool.not_eq_true', Bool.not_eq_false', Bool.and_eq_true, Bool.or_eq_true, Bool.and_eq_false_iff, Bool.or_eq_false_iff, Int.not_le, Int.not_lt] at g186'
          iterate 4 refine RunL.no rfl rfl rfl ?_
          refine RunL.val (Val.pure rfl) rfl rfl rfl ?_
          exact RunL.segEnd (Sub.cons rfl (Sub.skip rfl (Sub.skip rfl (Sub.skip rfl (Sub.skip rfl (Sub.skip rfl (Sub.same rfl (by rw [g186]) (Sub.refl _)))))))) (List.Sublist.refl _)
        ) ?_
        refine RunL.val (Val.pure rfl) rfl rfl rfl ?_
        refine RunL.orPart (dj := 192) (dp := 195) 3 rfl (fun g192 => by
          have g192' := g192
          try simp only [decide_eq_true_eq, decide_eq_false_iff_not, Bool.not_eq_true', Bool.not_eq_false', Bool.and_eq_true, Bool.or_eq_true, Bool.and_eq_false_iff, Bool.or_eq_false_iff, Int.not_le, Int.not_lt] at g192'
          iterate 3 refine RunL.val (Val.pure rfl) rfl rfl rfl ?_
          exact RunL.segEnd (Sub.cons rfl (Sub.skip rfl (Sub.skip rfl (Sub.skip rfl (Sub.same rfl (by rw [g192]) (Sub.refl _)))))) (List.Sublist.refl _)
        ) (fun g192 => by
          have g192' := g192
          try simp only [decide_eq_true_eq, decide_eq_false_iff_not, Bool.not_eq_true', Bool.not_eq_false', Bool.and_eq_true, Bool.or_eq_true, Bool.and_eq_false_iff, Bool.or_eq_false_iff, Int.not_le, Int.not_lt] at g192'
          refine RunL.no rfl rfl rfl ?_
          refine RunL.no rfl rfl rfl ?_
          refine RunL.val (Val.pure rfl) rfl rfl rfl ?_
          exact RunL.segEnd (Sub.cons rfl (Sub.skip rfl (Sub.skip rfl (Sub.skip rfl (Sub.same rfl (by rw [g192]) (Sub.refl _)))))) (List.Sublist.refl _)
        ) ?_
        refine RunL.val (Val.pure rfl) rfl rfl rfl ?_
        refine RunL.orPart (dj := 196) (dp := 202) 6 rfl (fun g196 => by
          have g196' := g196
          try simp only [decide_eq_true_eq, decide_eq_false_iff_not, Bool.not_eq_true', Bool.not_eq_false', Bool.and_eq_true, Bool.or_eq_true, Bool.and_eq_false_iff, Bool.or_eq_false_iff, Int.not_le, Int.not_lt] at g196'
          refine RunL.val (Val.fieldAddr rfl fld_23_0) rfl rfl rfl ?_
          refine RunL.val (Val.load_one rfl (.head _) ty_3 rfl) rfl rfl rfl ?_
          refine RunL.val (Val.fieldAddr rfl fld_23_1) rfl rfl rfl ?_
          refine RunL.val (Val.load_one rfl (.head _) ty_3 rfl) rfl rfl rfl ?_
          refine RunL.val (Val.pure rfl) rfl rfl rfl ?_
          refine RunL.val (Val.pure rfl) rfl rfl rfl ?_
          exact RunL.segEnd (Sub.cons rfl (Sub.skip rfl (Sub.skip rfl (Sub.skip rfl (Sub.skip rfl (Sub.skip rfl (Sub.skip rfl (Sub.same rfl (by rw [g196]) (Sub.refl _))))))))) (List.Sublist.refl _)
        ) (fun g196 => by
          have g196' := g196
          try simp only [decide_eq_true_eq, decide_eq_false_iff_not, Bool.not_eq_true', Bool.not_eq_false', Bool.and_eq_true, Bool.or_eq_true, Bool.and_eq_false_iff, Bool.or_eq_false_iff, Int.not_le, Int.not_lt] at g196'
          iterate 5 refine RunL.no rfl rfl rfl ?_
          refine RunL.val (Val.pure rfl) rfl rfl rfl ?_
          exact RunL.segEnd (Sub.cons rfl (Sub.skip rfl (Sub.skip rfl (Sub.skip rfl (Sub.skip rfl (Sub.skip rfl (Sub.skip rfl (Sub.same rfl (by rw [g196]) (Sub.refl _))))))))) (List.Sublist.refl _)
        ) ?_
        refine RunL.val (Val.pure rfl) rfl rfl rfl ?_
        refine RunL.orPart (dj := 203) (dp := 210) 7 rfl (fun g203 => by
          have g203' := g203
          try simp only [decide_eq_true_eq, decide_eq_false_iff_not, Bool.not_eq_true', Bool.not_eq_false', Bool.and_eq_true, Bool.or_eq_true, Bool.and_eq_false_iff, Bool.or_eq_false_iff, Int.not_le, Int.not_lt] at g203'
          refine RunL.val (Val.pure rfl) rfl rfl rfl ?_
          refine RunL.val (Val.max rfl rfl) rfl rfl rfl ?_
          refine RunL.callP (isCall_func rfl ent_31) rfl rfl rfl (fun w hm => rCountMax_calls m (by omega) w) ?_
          refine RunL.val (Val.pure rfl) rfl rfl rfl ?_
          refine RunL.callP (isCall_func rfl ent_31) rfl rfl rfl (fun w hm => rCount_calls (mvK x.2.1 x.2.1.length) (by omega) w) ?_
          refine RunL.val (Val.pure rfl) rfl rfl rfl ?_
          refine RunL.val (Val.pure rfl) rfl rfl rfl ?_
          exact RunL.segEnd (Sub.cons rfl (Sub.skip rfl (Sub.skip rfl (Sub.skip rfl (Sub.skip rfl (Sub.skip rfl (Sub.skip rfl (Sub.skip rfl (Sub.same rfl (by rw [g203]) (Sub.refl _)))))))))) (List.Sublist.refl _)
        ) (fun g203 => by
          have g203' := g203
          try simp only [decide_eq_true_eq, decide_eq_false_iff_not, Bool.not_eq_true', Bool.not_eq_false', Bool.and_eq_true, Bool.or_eq_true, Bool.and_eq_false_iff, Bool.or_eq_false_iff, Int.not_le, Int.not_lt] at g203'
          iterate 6 refine RunL.no rfl rfl rfl ?_
          refine RunL.val (Val.pure rfl) rfl rfl rfl ?_
          exact RunL.segEnd (Sub.cons rfl (Sub.skip rfl (Sub.skip rfl (Sub.skip rfl (Sub.skip rfl (Sub.skip rfl (Sub.skip rfl (Sub.skip rfl (Sub.same rfl (by rw [g203]) (Sub.refl _)))))))))) (List.Sublist.refl _)
        ) ?_
        refine RunL.nil ?_
        refine RunE.next ?_
        refine RunC.cond rfl (fun h => absurd h (by rw [hc1]; exact Bool.false_ne_true)) ?_
        intro c4
        clear c4
        refine RunC.skip ?_
        refine RunE.next ?_
        refine RunC.seq ?_
        refine RunC.seq ?_
        refine RunC.region ?_
        refine RunL.val (Val.pure rfl) rfl rfl rfl ?_
        refine RunL.val (Val.len_sl rfl sl_43) rfl rfl rfl ?_
        refine RunL.val (Val.pure rfl) rfl rfl rfl ?_
        refine RunL.nil ?_
        refine RunE.next ?_
        refine RunC.block ?_
        refine RunC.loopK (x.2.1.length) (fun k q => (213, .int .i64 (k : Int)) :: q) (fun _ => _) (fun _ => []) (fun _ => True) trivial rfl (Sub.consE (t := 213) rfl rfl (Sub.cons (t := 4) rfl (Sub.cons (t := 8) rfl (Sub.cons (t := 9) rfl (Sub.cons (t := 11) rfl (Sub.cons (t := 12) rfl (Sub.cons (t := 211) rfl (Sub.cons (t := 212) rfl (Sub.nil _))))))))) (.cons .here rfl (.cons .here rfl (.cons .here rfl (.cons .here rfl (.cons .here rfl (.cons .here rfl (Pick.refl _))))))) ?_
        intro k kN kI
        clear kI
        refine RunC.seq ?_
        refine RunC.region ?_
        refine RunL.val (Val.pure rfl) rfl rfl rfl ?_
        refine RunL.nil ?_
        refine RunE.next ?_
        refine RunC.seq ?_
        refine RunC.cond rfl ?_ ?_
        · intro c5
          have c5' := c5; clear c5
          try simp only [decide_eq_true_eq, decide_eq_false_iff_not, Bool.not_eq_true', Bool.not_eq_false', Bool.and_eq_true, Bool.or_eq_true, Bool.and_eq_false_iff, Bool.or_eq_false_iff, Int.not_le, Int.not_lt] at c5'
          have hk : k < x.2.1.length := by omega
          obtain ⟨z, hz⟩ : ∃ z, x.2.1[k].2.1 = z := ⟨_, rfl⟩
          refine RunC.skip ?_
          refine RunE.next ?_
          refine RunC.seq ?_
          refine RunC.block ?_
          refine RunC.seq ?_
          refine RunC.region ?_
          refine RunL.val (Val.pure rfl) rfl rfl rfl ?_
          refine RunL.val (Val.indexAddr_slp rfl rfl sl_43 (by omega) (by omega) (own_ptr hx1 (by omega))) rfl rfl rfl ?_
          refine RunL.val (Val.load_gen rfl (fun w hm => (hSt w (fun b o h => hm.at (.tail _ (.tail _ (.tail _ (.tail _ (.tail _ (.tail _ (h))))))))).loadM1 (by decide) (Mem.refl w) (by simp) ty_3 (by simpa using hk) (v := .int .i64 z) (by simp [hz]))) rfl rfl rfl ?_
          refine RunL.val (Val.pure rfl) rfl rfl rfl ?_
          refine RunL.val (Val.pure rfl) rfl rfl rfl ?_
          refine RunL.nil ?_
          refine RunE.next ?_
          refine RunC.seq ?_
          refine RunC.seq ?_
          refine RunC.region ?_
          refine RunL.val (Val.pure rfl) rfl rfl rfl ?_
          refine RunL.val (Val.pure rfl) rfl rfl rfl ?_
          refine RunL.val (Val.shrN (a := mvK x.2.1 x.2.1.length) (b := k) rfl rfl (by show k ≤ 64; omega)) rfl rfl rfl ?_
          refine RunL.val (Val.and (a := mvK x.2.1 x.2.1.length >>> k) (b := 1) rfl rfl (by have := Nat.shiftRight_le (mvK x.2.1 x.2.1.length) k; show _ < 18446744073709551616; omega) (by decide) (i64_inN (by have := Nat.and_le_right (n := mvK x.2.1 x.2.1.length >>> k) (m := 1); omega))) rfl rfl rfl ?_
          refine RunL.val (Val.pure rfl) rfl rfl rfl ?_
          refine RunL.nil ?_
          refine RunE.next ?_
          refine RunC.cond rfl ?_ ?_
          · intro c6
            have c6' := c6; clear c6
            try simp only [decide_eq_true_eq, decide_eq_false_iff_not, Bool.not_eq_true', Bool.not_eq_false', Bool.and_eq_true, Bool.or_eq_true, Bool.and_eq_false_iff, Bool.or_eq_false_iff, Int.not_le, Int.not_lt] at c6'
            refine RunC.exit ?_
            refine RunE.pass_exit ?_
            refine RunE.block_here ?_
            refine RunE.next ?_
            refine RunC.region ?_
            refine RunL.val (Val.add rfl rfl (IntWalk.i64_in _ ⟨by omega, by omega⟩)) rfl rfl rfl ?_
            refine RunL.val (Val.pure rfl) rfl rfl rfl ?_
            refine RunL.nil ?_
            exact RunE.round (by omega) trivial rfl (Sub.consE (t := 213) rfl rfl (Sub.cons (t := 4) rfl (Sub.cons (t := 8) rfl (Sub.cons (t := 9) rfl (Sub.cons (t := 11) rfl (Sub.cons (t := 12) rfl (Sub.cons (t := 211) rfl (Sub.cons (t := 212) rfl (Sub.nil _))))))))) (.cons .here rfl (.cons .here rfl (.cons .here rfl (.cons .here rfl (.cons .here rfl (.cons .here rfl (Pick.refl _)))))))
          · intro c6
            have c6' := c6; clear c6
            try simp only [decide_eq_true_eq, decide_eq_false_iff_not, Bool.not_eq_true', Bool.not_eq_false', Bool.and_eq_true, Bool.or_eq_true, Bool.and_eq_false_iff, Bool.or_eq_false_iff, Int.not_le, Int.not_lt] at c6'
            have hb : x.2.1[k].2.2 = false := by rw [← hT.bit hk, ← bit_dec]; exact decide_eq_false c6'
            obtain ⟨c1, c2, c3, c4, c5, c6⟩ := true_c2 hT hk hz hb
            have hzr := hT.at hk
            rw [hz] at hzr
            have hz1 : p0.near ≤ z := hzr.z1
            have hz2 : z ≤ p0.far := hzr.z2
            refine RunC.skip ?_
            refine RunE.next ?_
            refine RunC.seq ?_
            refine RunC.region ?_
            refine RunL.val (Val.load_agg rfl (.tail _ (.tail _ (.head _))) ty_26 rfl) rfl rfl rfl ?_
            refine RunL.val (Val.pure rfl) rfl rfl rfl ?_
            refine RunL.callP (isCall_func rfl ent_21) rfl rfl rfl (fun w hm => Why_calls { p0 with things := x.2.1.map (·.1) } _ _ _ 0 _ w (hSp w (fun b o h => hm.at (.tail _ (.tail _ (.tail _ (.tail _ (.tail _ (.tail _ (h))))))))) hl2) ?_
            iterate 5 refine RunL.val (Val.pure rfl) rfl rfl rfl ?_
            refine RunL.nil ?_
            refine RunE.next ?_
            refine RunC.seq ?_
            refine RunC.region ?_
            refine RunL.val (Val.load_agg rfl (.tail _ (.tail _ (.head _))) ty_26 rfl) rfl rfl rfl ?_
            refine RunL.val (Val.pure rfl) rfl rfl rfl ?_
            refine RunL.callP (isCall_func rfl ent_23) rfl rfl rfl (fun w hm => Distance_calls { p0 with things := x.2.1.map (·.1) } _ _ _ 0 _ w (hSp w (fun b o h => hm.at (.tail _ (.tail _ (.tail _ (.tail _ (.tail _ (.tail _ (h))))))))) hl2) ?_
            iterate 3 refine RunL.val (Val.pure rfl) rfl rfl rfl ?_
            refine RunL.new (New.alloc zero_23) rfl rfl rfl (fun b28 => ?_)
            refine RunL.sto (Sto.store rfl rfl .here ty_23 rfl rfl) rfl rfl ?_
            refine RunL.val (Val.pure rfl) rfl rfl rfl ?_
            refine RunL.nil ?_
            refine RunE.next ?_
            refine RunC.seq ?_
            refine RunC.region ?_
            refine RunL.val (Val.load_agg rfl (.tail _ (.tail _ (.tail _ (.head _)))) ty_26 rfl) rfl rfl rfl ?_
            refine RunL.val (Val.pure rfl) rfl rfl rfl ?_
            refine RunL.callP (isCall_func rfl ent_19) rfl rfl rfl (fun w hm => Stands_calls { p0 with things := x.2.1.map (·.1) } _ _ _ 0 _ w (hSp w (fun b o h => hm.at (.tail _ (.tail _ (.tail _ (.tail _ (.tail _ (.tail _ (.tail _ (h)))))))))) hl2) ?_
            iterate 3 refine RunL.val (Val.pure rfl) rfl rfl rfl ?_
            refine RunL.new (New.alloc zero_23) rfl rfl rfl (fun b30 => ?_)
            refine RunL.sto (Sto.store rfl rfl .here ty_23 rfl rfl) rfl rfl ?_
            refine RunL.val (Val.pure rfl) rfl rfl rfl ?_
            refine RunL.nil ?_
            refine RunE.next ?_
            refine RunC.seq ?_
            refine RunC.seq ?_
            refine RunC.draw 25 fol_ (.cons .here rfl (.cons .here rfl (.cons .here rfl (.cons .here rfl (.cons .here rfl (.cons (.there .here) rfl (.cons (.there .here) rfl .nil))))))) ?_
            refine RunA.val (i := 0) rfl (by kernel_rfl) (by kernel_rfl) (Val.pure rfl) rfl rfl rfl (fun _ _ _ h => h) (.cons .here rfl (.cons .here rfl (.cons .here rfl (.cons .here rfl (.cons .here rfl (.cons (.there .here) rfl (.cons (.there .here) rfl .nil))))))) rfl ?_
            refine RunA.val (i := 1) rfl (by kernel_rfl) (by kernel_rfl) (Val.pure rfl) rfl rfl rfl (fun _ _ _ h => h) (.cons .here rfl (.cons .here rfl (.cons .here rfl (.cons .here rfl (.cons .here rfl (.cons (.there .here) rfl (.cons (.there .here) rfl .nil))))))) rfl ?_
            refine RunA.val (i := 2) rfl (by kernel_rfl) (by kernel_rfl) (Val.pure rfl) rfl rfl rfl (fun _ _ _ h => h) (.cons .here rfl (.cons .here rfl (.cons .here rfl (.cons .here rfl (.cons .here rfl (.cons (.there .here) rfl (.cons (.there .here) rfl .nil))))))) rfl ?_
            refine RunA.sure (dj := 243) false rfl (by simp [c1]) ?_
            refine RunA.val (i := 3) rfl (by kernel_rfl) (by kernel_rfl) (Val.pure rfl) rfl rfl rfl (fun _ _ _ h => h) (.cons .here rfl (.cons .here rfl (.cons .here rfl (.cons .here rfl (.cons .here rfl (.cons (.there .here) rfl (.cons (.there .here) rfl .nil))))))) rfl ?_
            refine RunA.val (i := 4) rfl (by kernel_rfl) (by kernel_rfl) (Val.pure rfl) rfl rfl rfl (fun _ _ _ h => h) (.cons .here rfl (.cons .here rfl (.cons .here rfl (.cons .here rfl (.cons .here rfl (.cons (.there .here) rfl (.cons (.there .here) rfl .nil))))))) rfl ?_
            refine RunA.val (i := 5) rfl (by kernel_rfl) (by kernel_rfl) (Val.pure rfl) rfl rfl rfl (fun _ _ _ h => h) (.cons .here rfl (.cons .here rfl (.cons .here rfl (.cons .here rfl (.cons .here rfl (.cons (.there .here) rfl (.cons (.there .here) rfl .nil))))))) rfl ?_
            refine RunA.val (i := 6) rfl (by kernel_rfl) (by kernel_rfl) (Val.pure rfl) rfl rfl rfl (fun _ _ _ h => h) (.cons .here rfl (.cons .here rfl (.cons .here rfl (.cons .here rfl (.cons .here rfl (.cons (.there .here) rfl (.cons (.there .here) rfl .nil))))))) rfl ?_
            refine RunA.sure (dj := 247) false rfl (by simp [c2]) ?_
            refine RunA.val (i := 7) rfl (by kernel_rfl) (by kernel_rfl) (Val.pure rfl) rfl rfl rfl (fun _ _ _ h => h) (.cons .here rfl (.cons .here rfl (.cons .here rfl (.cons .here rfl (.cons .here rfl (.cons (.there .here) rfl (.cons (.there .here) rfl .nil))))))) rfl ?_
            refine RunA.val (i := 8) rfl (by kernel_rfl) (by kernel_rfl) (Val.pure rfl) rfl rfl rfl (fun _ _ _ h => h) (.cons .here rfl (.cons .here rfl (.cons .here rfl (.cons .here rfl (.cons .here rfl (.cons (.there .here) rfl (.cons (.there .here) rfl .nil))))))) rfl ?_
            refine RunA.val (i := 9) rfl (by kernel_rfl) (by kernel_rfl) (Val.pure rfl) rfl rfl rfl (fun _ _ _ h => h) (.cons .here rfl (.cons .here rfl (.cons .here rfl (.cons .here rfl (.cons .here rfl (.cons (.there .here) rfl (.cons (.there .here) rfl .nil))))))) rfl ?_
            refine RunA.val (i := 10) rfl (by kernel_rfl) (by kernel_rfl) (Val.pure rfl) rfl rfl rfl (fun _ _ _ h => h) (.cons .here rfl (.cons .here rfl (.cons .here rfl (.cons .here rfl (.cons .here rfl (.cons (.there .here) rfl (.cons (.there .here) rfl .nil))))))) rfl ?_
            refine RunA.sure (dj := 251) false rfl (by simp [c3]) ?_
            refine RunA.val (i := 11) rfl (by kernel_rfl) (by kernel_rfl) (Val.load_agg rfl (.tail _ (.head _)) ty_23 rfl) rfl rfl rfl (fun _ _ _ h => h) (.cons .here rfl (.cons .here rfl (.cons .here rfl (.cons .here rfl (.cons .here rfl (.cons (.there .here) rfl (.cons (.there .here) rfl .nil))))))) rfl ?_
            refine RunA.val (i := 12) rfl (by kernel_rfl) (by kernel_rfl) (Val.pure rfl) rfl rfl rfl (fun _ _ _ h => h) (.cons .here rfl (.cons .here rfl (.cons .here rfl (.cons .here rfl (.cons .here rfl (.cons (.there .here) rfl (.cons (.there .here) rfl .nil))))))) rfl ?_
            refine RunA.one (i := 13) (by kernel_rfl) (by kernel_rfl) ?_
            refine RunI.callP rfl (isCall_func rfl ent_30) rfl rfl rfl (fun w hm => linside_calls (_, _) _ w) (RunK.toA (.cons .here rfl (.cons .here rfl (.cons .here rfl (.cons .here rfl (.cons .here rfl (.cons (.there .here) rfl (.cons (.there .here) rfl .nil))))))) (.cons .here rfl (.cons .here rfl (.cons .here rfl (.cons .here rfl (.cons .here rfl (.cons .here rfl (.cons .here rfl .nil))))))) rfl ?_)
            refine RunA.val (i := 14) rfl (by kernel_rfl) (by kernel_rfl) (Val.pure rfl) rfl rfl rfl (fun _ _ _ h => h) (.cons .here rfl (.cons .here rfl (.cons .here rfl (.cons .here rfl (.cons .here rfl (.cons (.there .here) rfl (.cons (.there .here) rfl .nil))))))) rfl ?_
            refine RunA.val (i := 15) rfl (by kernel_rfl) (by kernel_rfl) (Val.pure rfl) rfl rfl rfl (fun _ _ _ h => h) (.cons .here rfl (.cons .here rfl (.cons .here rfl (.cons .here rfl (.cons .here rfl (.cons (.there .here) rfl (.cons (.there .here) rfl .nil))))))) rfl ?_
            refine RunA.val (i := 16) rfl (by kernel_rfl) (by kernel_rfl) (Val.pure rfl) rfl rfl rfl (fun _ _ _ h => h) (.cons .here rfl (.cons .here rfl (.cons .here rfl (.cons .here rfl (.cons .here rfl (.cons (.there .here) rfl (.cons (.there .here) rfl .nil))))))) rfl ?_
            refine RunA.sure (dj := 257) false rfl (by simp [c4]) ?_
            refine RunA.val (i := 17) rfl (by kernel_rfl) (by kernel_rfl) (Val.pure rfl) rfl rfl rfl (fun _ _ _ h => h) (.cons .here rfl (.cons .here rfl (.cons .here rfl (.cons .here rfl (.cons .here rfl (.cons (.there .here) rfl (.cons (.there .here) rfl .nil))))))) rfl ?_
            refine RunA.val (i := 18) rfl (by kernel_rfl) (by kernel_rfl) (Val.pure rfl) rfl rfl rfl (fun _ _ _ h => h) (.cons .here rfl (.cons .here rfl (.cons .here rfl (.cons .here rfl (.cons .here rfl (.cons (.there .here) rfl (.cons (.there .here) rfl .nil))))))) rfl ?_
            refine RunA.val (i := 19) rfl (by kernel_rfl) (by kernel_rfl) (Val.pure rfl) rfl rfl rfl (fun _ _ _ h => h) (.cons .here rfl (.cons .here rfl (.cons .here rfl (.cons .here rfl (.cons .here rfl (.cons (.there .here) rfl (.cons (.there .here) rfl .nil))))))) rfl ?_
            refine RunA.val (i := 20) rfl (by kernel_rfl) (by kernel_rfl) (Val.pure rfl) rfl rfl rfl (fun _ _ _ h => h) (.cons .here rfl (.cons .here rfl (.cons .here rfl (.cons .here rfl (.cons .here rfl (.cons (.there .here) rfl (.cons (.there .here) rfl .nil))))))) rfl ?_
            refine RunA.sure (dj := 261) false rfl (by simp [c5]) ?_
            refine RunA.val (i := 21) rfl (by kernel_rfl) (by kernel_rfl) (Val.load_agg rfl (.head _) ty_23 rfl) rfl rfl rfl (fun _ _ _ h => h) (.cons .here rfl (.cons .here rfl (.cons .here rfl (.cons .here rfl (.cons .here rfl (.cons (.there .here) rfl (.cons (.there .here) rfl .nil))))))) rfl ?_
            refine RunA.val (i := 22) rfl (by kernel_rfl) (by kernel_rfl) (Val.pure rfl) rfl rfl rfl (fun _ _ _ h => h) (.cons .here rfl (.cons .here rfl (.cons .here rfl (.cons .here rfl (.cons .here rfl (.cons (.there .here) rfl (.cons (.there .here) rfl .nil))))))) rfl ?_
            refine RunA.val (i := 23) rfl (by kernel_rfl) (by kernel_rfl) (Val.pure rfl) rfl rfl rfl (fun _ _ _ h => h) (.cons .here rfl (.cons .here rfl (.cons .here rfl (.cons .here rfl (.cons .here rfl (.cons (.there .here) rfl (.cons (.there .here) rfl .nil))))))) rfl ?_
            refine RunA.val (i := 24) rfl (by kernel_rfl) (by kernel_rfl) (Val.quo rfl rfl (by omega) (by omega) (IntWalk.i64_in _ (div_rng (by omega) (by omega) (by omega)))) rfl rfl rfl (fun _ _ _ h => h) (.cons .here rfl (.cons .here rfl (.cons .here rfl (.cons .here rfl (.cons .here rfl (.cons (.there .here) rfl (.cons (.there .here) rfl .nil))))))) rfl ?_
            refine RunA.toB (by kernel_rfl) ?_
            refine RunB.one (i := 25) (by kernel_rfl) ?_
            refine RunI.callP rfl (isCall_func rfl ent_30) rfl rfl rfl (fun w hm => linside_calls (_, _) _ w) (RunK.toB ?_)
            refine RunB.one (i := 26) (by kernel_rfl) ?_
            refine RunI.val rfl (Val.pure rfl) rfl rfl rfl (RunK.toB ?_)
            refine RunB.one (i := 27) (by kernel_rfl) ?_
            refine RunI.val rfl (Val.pure rfl) rfl rfl rfl (RunK.toB ?_)
            refine RunB.done (by kernel_rfl) ?_
            refine RunE.next ?_
            refine RunC.cond rfl (fun h => absurd h (by simp [c6])) ?_
            intro c7
            clear c7
            refine RunC.skip ?_
            refine RunE.next ?_
            refine RunC.seq ?_
            refine RunC.region ?_
            refine RunL.val (Val.pure rfl) rfl rfl rfl ?_
            refine RunL.val (Val.len_sl rfl sl_43) rfl rfl rfl ?_
            refine RunL.val (Val.pure rfl) rfl rfl rfl ?_
            refine RunL.nil ?_
            refine RunE.next ?_
            refine RunC.block ?_
            refine RunC.loopK (x.2.1.length) (fun k2 q => (271, .int .i64 (k2 : Int)) :: q) (fun _ => _) (fun _ => []) (fun _ => True) trivial rfl (Sub.consE (t := 271) rfl rfl (Sub.cons (t := 4) rfl (Sub.cons (t := 8) rfl (Sub.cons (t := 9) rfl (Sub.cons (t := 11) rfl (Sub.cons (t := 12) rfl (Sub.cons (t := 24) rfl (Sub.cons (t := 25) rfl (Sub.cons (t := 211) rfl (Sub.cons (t := 212) rfl (Sub.cons (t := 213) rfl (Sub.cons (t := 270) rfl (Sub.cons (t := 269) rfl (Sub.nil _)))))))))))))) (.cons .here rfl (.cons .here rfl (.cons .here rfl (.cons .here rfl (.cons .here rfl (.cons .here rfl (.cons .here rfl (.cons .here rfl (Pick.refl _))))))))) ?_
            intro k2 k2N k2I
            clear k2I
            refine RunC.seq ?_
            refine RunC.region ?_
            refine RunL.val (Val.pure rfl) rfl rfl rfl ?_
            refine RunL.nil ?_
            refine RunE.next ?_
            refine RunC.seq ?_
            refine RunC.cond rfl ?_ ?_
            · intro c8
              have c8' := c8; clear c8
              try simp only [decide_eq_true_eq, decide_eq_false_iff_not, Bool.not_eq_true', Bool.not_eq_false', Bool.and_eq_true, Bool.or_eq_true, Bool.and_eq_false_iff, Bool.or_eq_false_iff, Int.not_le, Int.not_lt] at c8'
              have hj : k2 < x.2.1.length := by omega
              obtain ⟨y, hy⟩ : ∃ y, x.2.1[k2].2.1 = y := ⟨_, rfl⟩
              refine RunC.skip ?_
              refine RunE.next ?_
              refine RunC.seq ?_
              refine RunC.block ?_
              refine RunC.seq ?_
              refine RunC.region ?_
              refine RunL.val (Val.pure rfl) rfl rfl rfl ?_
              refine RunL.val (Val.indexAddr_slp rfl rfl sl_43 (by omega) (by omega) (own_ptr hx1 (by omega))) rfl rfl rfl ?_
              refine RunL.val (Val.load_gen rfl (fun w hm => (hSt w (fun b o h => hm.at (.tail _ (.tail _ (.tail _ (.tail _ (.tail _ (.tail _ (.tail _ (.tail _ (h))))))))))).loadM1 (by decide) (Mem.refl w) (by simp) ty_3 (by simpa using hj) (v := .int .i64 y) (by simp [hy]))) rfl rfl rfl ?_
              refine RunL.val (Val.pure rfl) rfl rfl rfl ?_
              refine RunL.val (Val.pure rfl) rfl rfl rfl ?_
              refine RunL.nil ?_
              refine RunE.next ?_
              refine RunC.seq ?_
              refine RunC.region ?_
              refine RunL.val (Val.load_agg rfl (.tail _ (.tail _ (.tail _ (.tail _ (.head _))))) ty_26 rfl) rfl rfl rfl ?_
              refine RunL.val (Val.pure rfl) rfl rfl rfl ?_
              refine RunL.val (Val.pure rfl) rfl rfl rfl ?_
              refine RunL.callP (isCall_func rfl ent_15) rfl rfl rfl (fun w hm => Nearer_calls { p0 with things := x.2.1.map (·.1) } _ _ _ _ 0 _ w (hSp w (fun b o h => hm.at (.tail _ (.tail _ (.tail _ (.tail _ (.tail _ (.tail _ (.tail _ (.tail _ (h))))))))))) hl2) ?_
              iterate 5 refine RunL.val (Val.pure rfl) rfl rfl rfl ?_
              refine RunL.nil ?_
              refine RunE.next ?_
              refine RunC.seq ?_
              refine RunC.region ?_
              iterate 3 refine RunL.val (Val.pure rfl) rfl rfl rfl ?_
              refine RunL.orPart (dj := 285) (dp := 300) 15 rfl (fun g285 => by
                have g285' := g285
                try simp only [decide_eq_true_eq, decide_eq_false_iff_not, Bool.not_eq_true', Bool.not_eq_false', Bool.and_eq_true, Bool.or_eq_true, Bool.and_eq_false_iff, Bool.or_eq_false_iff, Int.not_le, Int.not_lt] at g285'
                refine RunL.val (Val.pure rfl) rfl rfl rfl ?_
                refine RunL.val (Val.pure rfl) rfl rfl rfl ?_
                refine RunL.val (Val.shrN (a := mvK x.2.1 x.2.1.length) (b := k2) rfl rfl (by show k2 ≤ 64; omega)) rfl rfl rfl ?_
                refine RunL.val (Val.and (a := mvK x.2.1 x.2.1.length >>> k2) (b := 1) rfl rfl (by have := Nat.shiftRight_le (mvK x.2.1 x.2.1.length) k2; show _ < 18446744073709551616; omega) (by decide) (i64_inN (by have := Nat.and_le_right (n := mvK x.2.1 x.2.1.length >>> k2) (m := 1); omega))) rfl rfl rfl ?_
                refine RunL.val (Val.pure rfl) rfl rfl rfl ?_
                refine RunL.val (Val.pure rfl) rfl rfl rfl ?_
                refine RunL.andPart (dj := 291) (dp := 294) 3 rfl (fun g291 => by
                  have g291' := g291
                  try simp only [decide_eq_true_eq, decide_eq_false_iff_not, Bool.not_eq_true', Bool.not_eq_false', Bool.and_eq_true, Bool.or_eq_true, Bool.and_eq_false_iff, Bool.or_eq_false_iff, Int.not_le, Int.not_lt] at g291'
                  iterate 3 refine RunL.val (Val.pure rfl) rfl rfl rfl ?_
                  exact RunL.segEnd (Sub.cons rfl (Sub.skip rfl (Sub.skip rfl (Sub.skip rfl (Sub.same rfl (by rw [g291]) (Sub.refl _)))))) (List.Sublist.refl _)
                ) (fun g291 => by
                  have g291' := g291
                  try simp only [decide_eq_true_eq, decide_eq_false_iff_not, Bool.not_eq_true', Bool.not_eq_false', Bool.and_eq_true, Bool.or_eq_true, Bool.and_eq_false_iff, Bool.or_eq_false_iff, Int.not_le, Int.not_lt] at g291'
                  refine RunL.no rfl rfl rfl ?_
                  refine RunL.no rfl rfl rfl ?_
                  refine RunL.val (Val.pure rfl) rfl rfl rfl ?_
                  exact RunL.segEnd (Sub.cons rfl (Sub.skip rfl (Sub.skip rfl (Sub.skip rfl (Sub.same rfl (by rw [g291]) (Sub.refl _)))))) (List.Sublist.refl _)
                ) ?_
                refine RunL.val (Val.pure rfl) rfl rfl rfl ?_
                refine RunL.andPart (dj := 295) (dp := 299) 4 rfl (fun g295 => by
                  have g295' := g295
                  try simp only [decide_eq_true_eq, decide_eq_false_iff_not, Bool.not_eq_true', Bool.not_eq_false', Bool.and_eq_true, Bool.or_eq_true, Bool.and_eq_false_iff, Bool.or_eq_false_iff, Int.not_le, Int.not_lt] at g295'
                  iterate 4 refine RunL.val (Val.pure rfl) rfl rfl rfl ?_
                  exact RunL.segEnd (Sub.cons rfl (Sub.skip rfl (Sub.skip rfl (Sub.skip rfl (Sub.skip rfl (Sub.same rfl (by rw [g295]) (Sub.refl _))))))) (List.Sublist.refl _)
                ) (fun g295 => by
                  have g295' := g295
                  try simp only [decide_eq_true_eq, decide_eq_false_iff_not, Bool.not_eq_true', Bool.not_eq_false', Bool.and_eq_true, Bool.or_eq_true, Bool.and_eq_false_iff, Bool.or_eq_false_iff, Int.not_le, Int.not_lt] at g295'
                  iterate 3 refine RunL.no rfl rfl rfl ?_
                  refine RunL.val (Val.pure rfl) rfl rfl rfl ?_
                  exact RunL.segEnd (Sub.cons rfl (Sub.skip rfl (Sub.skip rfl (Sub.skip rfl (Sub.skip rfl (Sub.same rfl (by rw [g295]) (Sub.refl _))))))) (List.Sublist.refl _)
                ) ?_
                refine RunL.val (Val.pure rfl) rfl rfl rfl ?_
                exact RunL.segEnd (Sub.cons rfl (Sub.skip rfl (Sub.skip rfl (Sub.skip rfl (Sub.skip rfl (Sub.skip rfl (Sub.skip rfl (Sub.skip rfl (Sub.skip rfl (Sub.skip rfl (Sub.skip rfl (Sub.same rfl (by rw [g285]) (Sub.refl _))))))))))))) (List.Sublist.refl _)
              ) (fun g285 => by
                have g285' := g285
                try simp only [decide_eq_true_eq, decide_eq_false_iff_not, Bool.not_eq_true', Bool.not_eq_false', Bool.and_eq_true, Bool.or_eq_true, Bool.and_eq_false_iff, Bool.or_eq_false_iff, Int.not_le, Int.not_lt] at g285'
                iterate 14 refine RunL.no rfl rfl rfl ?_
                refine RunL.val (Val.pure rfl) rfl rfl rfl ?_
                exact RunL.segEnd (Sub.cons rfl (Sub.skip rfl (Sub.skip rfl (Sub.skip rfl (Sub.skip rfl (Sub.skip rfl (Sub.skip rfl (Sub.skip rfl (Sub.skip rfl (Sub.skip rfl (Sub.skip rfl (Sub.skip rfl (Sub.skip rfl (Sub.skip rfl (Sub.skip rfl (Sub.skip rfl (Sub.same rfl (by rw [g285]) (Sub.refl _)))))))))))))))))) (List.Sublist.refl _)
              ) ?_
              refine RunL.nil ?_
              refine RunE.next ?_
              refine RunC.cond rfl (fun h => absurd h (by rw [true_c3 hT hk hj hz hy hb]; exact Bool.false_ne_true)) ?_
              intro c9
              clear c9
              refine RunC.skip ?_
              refine RunE.block_normal ?_
              refine RunE.next ?_
              refine RunC.region ?_
              refine RunL.val (Val.add rfl rfl (IntWalk.i64_in _ ⟨by omega, by omega⟩)) rfl rfl rfl ?_
              refine RunL.val (Val.pure rfl) rfl rfl rfl ?_
              refine RunL.nil ?_
              exact RunE.round (by omega) trivial rfl (Sub.consE (t := 271) rfl rfl (Sub.cons (t := 4) rfl (Sub.cons (t := 8) rfl (Sub.cons (t := 9) rfl (Sub.cons (t := 11) rfl (Sub.cons (t := 12) rfl (Sub.cons (t := 24) rfl (Sub.cons (t := 25) rfl (Sub.cons (t := 211) rfl (Sub.cons (t := 212) rfl (Sub.cons (t := 213) rfl (Sub.cons (t := 270) rfl (Sub.cons (t := 269) rfl (Sub.nil _)))))))))))))) (.cons .here rfl (.cons .here rfl (.cons .here rfl (.cons .here rfl (.cons .here rfl (.cons .here rfl (.cons .here rfl (.cons .here rfl (Pick.refl _)))))))))
            · intro c8
              have c8' := c8; clear c8
              try simp only [decide_eq_true_eq, decide_eq_false_iff_not, Bool.not_eq_true', Bool.not_eq_false', Bool.and_eq_true, Bool.or_eq_true, Bool.and_eq_false_iff, Bool.or_eq_false_iff, Int.not_le, Int.not_lt] at c8'
              refine RunC.exit ?_
              refine RunE.pass_exit ?_
              refine RunE.pass_exit ?_
              refine RunE.block_here ?_
              refine RunE.block_normal ?_
              refine RunE.next ?_
              refine RunC.region ?_
              refine RunL.val (Val.add rfl rfl (IntWalk.i64_in _ ⟨by omega, by omega⟩)) rfl rfl rfl ?_
              refine RunL.val (Val.pure rfl) rfl rfl rfl ?_
              refine RunL.nil ?_
              exact RunE.round (by omega) trivial rfl (Sub.consE (t := 213) rfl rfl (Sub.cons (t := 4) rfl (Sub.cons (t := 8) rfl (Sub.cons (t := 9) rfl (Sub.cons (t := 11) rfl (Sub.cons (t := 12) rfl (Sub.cons (t := 211) rfl (Sub.cons (t := 212) rfl (Sub.nil _))))))))) (.cons (.there (.there .here)) rfl (.cons (.there (.there .here)) rfl (.cons (.there (.there .here)) rfl (.cons (.there (.there .here)) rfl (.cons (.there (.there .here)) rfl (.cons (.there (.there .here)) rfl (Pick.skip (Pick.skip (Pick.refl _)))))))))
        · intro c5
          have c5' := c5; clear c5
          try simp only [decide_eq_true_eq, decide_eq_false_iff_not, Bool.not_eq_true', Bool.not_eq_false', Bool.and_eq_true, Bool.or_eq_true, Bool.and_eq_false_iff, Bool.or_eq_false_iff, Int.not_le, Int.not_lt] at c5'
          refine RunC.exit ?_
          refine RunE.pass_exit ?_
          refine RunE.pass_exit ?_
          refine RunE.block_here ?_
          refine RunE.next ?_
          refine RunC.seq ?_
          refine RunC.region ?_
          refine RunL.callP (isCall_func rfl ent_12) rfl rfl rfl (fun w hm => awake_calls w) ?_
          refine RunL.val (Val.pure rfl) rfl rfl rfl ?_
          refine RunL.nil ?_
          refine RunE.next ?_
          refine RunC.ret ?_
          exact RunE.retP (.r1 rfl (.tmp rfl)) (by first | rfl | simp)
end Go.Proofs.Ythppnhjggdebbaa
